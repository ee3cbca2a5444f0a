import PyProof.Rows.All
import Open.Row
import PyProof.Cells
import PyProof.CompFree
import PyProof.DefCall
import PyProof.StationsW
import PyProof.DictList
import PyProof.DictKinds
import OpenK.KWalk
import OpenK.KCls
import PyProof.DictTable
import PyProof.EnumFor
import PyProof.EnumStmt
import PyProof.EnumMake
import PyProof.WalksPairs
import PyProof.StrLoop
import PyProof.StrWalks
import PyProof.DictWalks
import PyProof.Raises
import PyProof.AssignAttr
import PyProof.ExcClass2
import PyProof.ExcBaseAll.ValueError
import PyProof.RulesAs
import PyProof.Rows.CountFlat
import PyProof.NsMap
import PyProof.NsDelKeeps
import PyProof.IsiHeapPairs
import PyProof.EqAt
import KE.KDictList
import KE.KDictSum
import KE.KDictOf
import KE.KIsAll
import PyProof.ExcArgsOwn
import PyProof.ExcAttrAll.ValueError
import PyProof.Rows.SortStr
import PyProof.Rows.SortShell
import PyProof.Conv_int_bool
import PyProof.CallStr
import KE.KMinKey
import PyProof.Rows.MinMaxN
import KE.KRevIter
import PyProof.StrLawsIn
import PyProof.CollectIter
import PyProof.DictUpdate
import PyProof.MeetsDict
import PyProof.ListOps
import PyProof.AutoSeq1
import KE.KDictLaws
import PyProof.AttrMissHeap
import PyProof.ExcQuiet
import OpenK.TopRead
import Open.Pieces
import Open.Script
import OpenK.KMake
import Wide.All
import OpenK.AllK
import Wide.FinOn
import PySem.Challenge.RW_uf030017_11
set_option linter.all false
set_option genCtorIdx false
set_option bootstrap.genMatcherCode false
set_option tactic.hygienic false
set_option Elab.async false
set_option maxRecDepth 100000
set_option maxHeartbeats 4000000
open Nat renaming le_trans->za,le_refl->zf,lt_of_lt_of_le->zj,le_succ_of_le->zn,zero_add->zp,le_add_right->zt,le_of_eq->zu,succ_le_succ->zw,le_of_lt->yd,not_lt->yf,add_le_add_left->yg,le_succ->yi,zero_le->yj,min_eq_left->yo,ne_of_lt->yq,lt_of_le_of_lt->yt,lt_succ_self->yv,add_le_add_right->yx,add_le_add->yy,le_of_lt_succ->yz,add_sub_cancel_left->xe,lt_irrefl->xg,not_lt_zero->xi,lt_succ_of_lt->xk,lt_of_succ_lt->xl,lt_of_le_of_ne->xm,lt_of_not_le->wc,ne_of_gt->wq,le_of_ble_eq_true->wy,succ_add_eq_add_succ->wz,sub_le->vk,add_assoc->vm,min_eq_right->vq,sub_pos_of_lt->vx,sub_self->vz,pos_of_ne_zero->uf,add_sub_of_le->ul,succ_ne_self->uo,le_of_not_lt->ur,one_pos->uv,add_comm->uz,lt_trans->ke,le_add_left->kf,le_antisymm->kg,le_max_right->ku,lt_add_of_pos_right->jb,lt_or_eq_of_le->jd,add_right_comm->ji,eq_zero_of_not_pos->jj,eq_zero_of_le_zero->jk,succ_pos->jm,min_le_right->ju,max_eq_right->jw,le_sub_of_add_le->jx,mul_le_mul_left->gb,add_lt_add_left->gd,le_of_add_le_add_left->gk,le_of_succ_le->gu,le_of_sub_eq_zero->fh,sub_zero->fk,le_total->fo,min_le_left->fq,sub_lt->fy,lt_of_add_lt_add_right->zal,beq->zas,ble->zat,not_le_of_lt->zaz,le_of_succ_le_succ->za3,lt_of_succ_lt_succ->za4,lt_one_iff->za6,add_lt_of_lt_sub'->za8,add_le_of_le_sub'->za9,div_lt_of_lt_mul->zbc,add_sub_add_left->zbe,add_lt_add_right->zbm,two_pos->zbs
open List renaming length_map->zb,getElem?_eq_some_iff->zc,length_append->zd,mem_singleton->ze,getElem?_eq_getElem->zg,append_assoc->zh,mem_cons_self->zm,mem_cons_of_mem->zr,range->zs,getElem?_append_right->zv,take_append_drop->yb,mem_cons->ye,mem_append->yh,getElem?_map->yk,not_mem_nil->yl,mem_of_getElem?->ym,size_toArray->yp,eq_nil_of_length_eq_zero->yr,append_nil->yw,take_length->xb,map_append->xc,drop_eq_getElem_cons->xf,getElem_mem->xj,getElem?_append_left->xn,length_take->xo,length_take_le'->xt,take_of_length_le->xu,mem_range->xw,mem_append_right->xx,map_congr_left->xz,length_range->we,replicate->wf,nodup_cons->wg,length_cons->wi,lookup_cons->wj,mem_of_mem_take->wn,getElem?_set_ne->wo,all_eq_true->wt,any_eq_true->wu,nodup_append->wv,map_cons->wx,getElem?_eq_none->vc,getElem?_take_of_lt->ve,getElem?_toArray->vf,map_map->vt,mem_map->vu,pairwise_singleton->vv,foldl_append->vw,getElem?_set_self->ud,length_drop->ue,mem_of_mem_drop->ug,forall_mem_cons->ui,pairwise_append->uk,nodup_nil->um,filterMap_eq_map'->uu,drop_eq_nil_of_le->uw,pairwise_map->ki,extract_eq_take_drop->kl,length_pos_iff->ja,any_cons->jc,mem_filter->jf,length_set->jg,mem_filterMap->jh,length_filter_le->jo,toArray->jq,length_replicate->js,mem_iff_getElem?->jt,mem_append_left->jv,length_take_le->jz,flatten_append->gf,pairwise_iff_getElem->gj,take_take->gm,drop_sublist->gp,take_sublist->gq,flatten_cons->gv,flatten_singleton->gx,set_append_right->fe,filterMap_append->fg,any_append->fu,range_succ->fx,forIn_cons->zab,filterMap_cons->zac,getElem?_range->zad,reverse_append->zae,take_zero->zag,drop_drop->zah,getElem?_drop->zai,getD_eq_getElem?_getD->zaj,any_eq_false->zao,getLast?_eq_getElem?->zaq,length_filterMap_le->zau,filter_cons->zav,filterMap_cons_none->zax,filterMap_cons_some->zay,length_nil->za2,contains_iff_mem->za5,take_left->zba,set_append_left->zbd,map->zbf,getElem_toArray->zbh,cons_merge_cons->zbj,map_take->zbn,map_drop->zbo,drop_nil->zbq
open Option renaming map_eq_some_iff->zk,bind_some->wh,bind_eq_some_iff->vj,isSome_iff_exists->uj,map_some->gh,isNone_iff_eq_none->zar
open PySem.Heap renaming get?_push_of_some->zo,lt_size->yc,get?_push_size->yn,get?_update_other->xh,size_push->wk,get?_update_self->vo,get?_none_of_le->zaa
open PySem renaming Env->zq,call->ya,wpAny_bind->Ug,wpAny_pure->Uh,wpAny_truthy_bool->Ui,mainGlobals->Uj,wpAny_holding->Uk,starEach->Ul,wpAny_mono->Um,wpAny->Un,Value->Pa,Shared->Pb,Addr->Pd,Heap->Pe,Around->Pf,Expr->Pg,Stmt->Ph,NameKind->Pi
open Int renaming natCast_nonneg->zy,toNat_natCast->xa,ofNat_le->xd,lt_of_lt_of_le->wm,eq_ofNat_of_zero_le->vi,lt_of_le_of_lt->vp,ofNat_lt->uc,not_lt->kj,le_trans->km,le_of_lt->kn,ne_of_gt->kr,add_sub_cancel->je,toNat_lt->jn,natCast_pos->gi,min_eq_right->gy,le_of_lt_add_one->fj,lt_trans->ft,min_eq_left->fw,add_nonneg->zaf,le_add_of_nonneg_right->zak,ofNat_inj->zam,not_le->zap,toNat_le->zaw,sub_le_sub_right->zbb,lt_add_one_of_le->zbg,le_of_sub_nonneg->zbi
open Bool renaming and_eq_true_iff->zz,eq_false_iff->ww,false_ne_true->vg,not_eq_true'->vn,eq_iff_iff->uh,and_eq_true->gz,or_eq_true->fi,beq_eq_decide_eq->za7,or_false->zbp,or_true->zbr
open Array renaming length_toList->yu,getElem?_toList->xy,toList_append->wa,getElem?_eq_some_iff->kh,toList_push->jl,toList_extract->jy,getElem?_eq_getElem->gl,toList_setIfInBounds->zan,swapIfInBounds_def->za0,mk->za1,mem_toList_iff->zbk,toList_reverse->zbl
namespace Mine.Internal
theorem Ua.{u}{c:Prop}{h:Decidable c}(hc:c){α:Sort u}{t e:α}:ite c t e=t:=if_pos hc
theorem Ub.{u}{c:Prop}{h:Decidable c}(hc:¬c){α:Sort u}{t e:α}:ite c t e=e:=if_neg hc
theorem Uc{p:Prop}[h:Decidable p](hp:p):decide p=true:=decide_eq_true hp
theorem Ud{p:Prop}[h:Decidable p](hp:¬p):decide p=false:=decide_eq_false hp
theorem Uf.{u,v}{α:Sort u}{β:Sort v}{a b:α}(f:α->β)(h:a=b):f a=f b:=congrArg f h
theorem Ue{a b:Prop}(x:a)(y:¬a):b:=absurd x y
end Mine.Internal
namespace Mine.Internal
noncomputable abbrev Na:List Nat:=[115,116,97,114,116]
noncomputable abbrev Nb:List Nat:=[97,98,99,100,101,102,103,104,105,106,107,108,109,110,111,112,113,114,115,116,117,118,119,120,121,122,48,49,50,51,52,53,54,55,56,57,46]
noncomputable abbrev Nc:List Nat:=[100,101,97,108,105,110,103,115]
noncomputable abbrev Nf:List Nat:=[112,117,116,115]
noncomputable abbrev Ng:List Nat:=[111,112,101,110]
noncomputable abbrev Nh:List Nat:=[119,114,105,116,116,101,110]
noncomputable abbrev Ni:List Nat:=[109,111,111,100]
noncomputable abbrev Nj:List Nat:=[107,101,112,116,95,97,116]
noncomputable abbrev Nk:List Nat:=[115,116,111,99,107]
noncomputable abbrev Nl:List Nat:=[110,101,101,100,95,111,112,101,110]
noncomputable abbrev Nn:List Nat:=[115,116,97,116,101]
noncomputable abbrev No:List Nat:=[119,97,115,95,108,111,111,107,101,100,95,97,116]
noncomputable abbrev Np:List Nat:=[104,101,97,100,115]
noncomputable abbrev Nq:List Nat:=[100,114,111,112,112,101,100]
noncomputable abbrev Nr:List Nat:=[117,110,100,101,114]
noncomputable abbrev Nt:List Nat:=[115,116,97,109,112]
noncomputable abbrev Nu:List Nat:=[119,114,105,116,101]
noncomputable abbrev Nv:List Nat:=[104,101,108,100]
noncomputable abbrev Nw:List Nat:=[110,101,101,100,95,110,97,109,101]
noncomputable abbrev Nx:List Nat:=[109,117,115,116,95,98,101,95,97,104,101,97,100]
noncomputable abbrev Ny:List Nat:=[110,97,109,101,115]
noncomputable abbrev Nz:List Nat:=[110,111,110,101]
noncomputable abbrev NA:List Nat:=[115,101,101,110,95,98,121]
noncomputable abbrev NB:List Nat:=[114,101,97,100]
noncomputable abbrev ND:List Nat:=[110,101,101,100,95,100,101,97,108,105,110,103]
noncomputable abbrev NE:List Nat:=[116,97,107,101,110]
noncomputable abbrev NF:List Nat:=[98,97,99,107]
noncomputable abbrev NG:List Nat:=[115,101,101,110]
noncomputable abbrev NH:List Nat:=[115,97,105,100]
noncomputable abbrev NI:List Nat:=[97,116,95,109,111,109,101,110,116]
noncomputable abbrev NJ:List Nat:=[107,101,101,112]
noncomputable abbrev NK:List Nat:=[100,114,111,112]
noncomputable abbrev NM:List Nat:=[108,97,116,101]
noncomputable abbrev NN:List Nat:=[107,101,112,116]
noncomputable abbrev NO:List Nat:=[101,110,100,101,100]
noncomputable abbrev NP:List Nat:=[115,119,101,101,112]
end Mine.Internal
namespace Mine.Internal
@[elab_as_elim] theorem gw.{u}{α:Sort u}{a b:α}{motive:α->Prop}(h:a=b)(x:motive b):motive a:=h▸x
@[elab_as_elim] theorem bw.{u}{α:Sort u}{a b:α}{motive:α->Prop}(h:a=b)(x:motive a):motive b:=h▸x
@[elab_as_elim] theorem ic.{u}{α:Sort u}{x:α}{motive:α->Prop}{c:Prop}{d:Decidable c}{a b:α}(e:x=ite c a b)(h1:c->motive a)(h2:¬c->motive b):motive x:=by
 subst e;by_cases h:c
 ·exact gw (Ua h) (h1 h)
 ·exact gw (Ub h) (h2 h)
theorem ite_.{u}{α:Sort u}{c:Prop}{d:Decidable c}{a b:α}:ite c a b=ite c a b:=rfl
@[elab_as_elim] theorem iw{a b:Prop}{motive:Prop->Prop}(h:a↔b)(x:motive b):motive a:=propext h▸x
theorem ex2{α1:Sort _}{α2:Sort _}{P:α1->α2->Prop}{G:Prop}(h:∃x1 x2,P x1 x2)(k:∀x1 x2,P x1 x2->G):G:=h.elim λx1 h=>h.elim λx2 h=>k x1 x2 h
theorem ex3{α1:Sort _}{α2:Sort _}{α3:Sort _}{P:α1->α2->α3->Prop}{G:Prop}(h:∃x1 x2 x3,P x1 x2 x3)(k:∀x1 x2 x3,P x1 x2 x3->G):G:=h.elim λx1 h=>ex2 h (k x1)
theorem ex4{α1:Sort _}{α2:Sort _}{α3:Sort _}{α4:Sort _}{P:α1->α2->α3->α4->Prop}{G:Prop}(h:∃x1 x2 x3 x4,P x1 x2 x3 x4)(k:∀x1 x2 x3 x4,P x1 x2 x3 x4->G):G:=h.elim λx1 h=>ex3 h (k x1)
theorem ex5{α1:Sort _}{α2:Sort _}{α3:Sort _}{α4:Sort _}{α5:Sort _}{P:α1->α2->α3->α4->α5->Prop}{G:Prop}(h:∃x1 x2 x3 x4 x5,P x1 x2 x3 x4 x5)(k:∀x1 x2 x3 x4 x5,P x1 x2 x3 x4 x5->G):G:=h.elim λx1 h=>ex4 h (k x1)
theorem ex6{α1:Sort _}{α2:Sort _}{α3:Sort _}{α4:Sort _}{α5:Sort _}{α6:Sort _}{P:α1->α2->α3->α4->α5->α6->Prop}{G:Prop}(h:∃x1 x2 x3 x4 x5 x6,P x1 x2 x3 x4 x5 x6)(k:∀x1 x2 x3 x4 x5 x6,P x1 x2 x3 x4 x5 x6->G):G:=h.elim λx1 h=>ex5 h (k x1)
theorem ex7{α1:Sort _}{α2:Sort _}{α3:Sort _}{α4:Sort _}{α5:Sort _}{α6:Sort _}{α7:Sort _}{P:α1->α2->α3->α4->α5->α6->α7->Prop}{G:Prop}(h:∃x1 x2 x3 x4 x5 x6 x7,P x1 x2 x3 x4 x5 x6 x7)(k:∀x1 x2 x3 x4 x5 x6 x7,P x1 x2 x3 x4 x5 x6 x7->G):G:=h.elim λx1 h=>ex6 h (k x1)
theorem ex8{α1:Sort _}{α2:Sort _}{α3:Sort _}{α4:Sort _}{α5:Sort _}{α6:Sort _}{α7:Sort _}{α8:Sort _}{P:α1->α2->α3->α4->α5->α6->α7->α8->Prop}{G:Prop}(h:∃x1 x2 x3 x4 x5 x6 x7 x8,P x1 x2 x3 x4 x5 x6 x7 x8)(k:∀x1 x2 x3 x4 x5 x6 x7 x8,P x1 x2 x3 x4 x5 x6 x7 x8->G):G:=h.elim λx1 h=>ex7 h (k x1)
theorem ex9{α1:Sort _}{α2:Sort _}{α3:Sort _}{α4:Sort _}{α5:Sort _}{α6:Sort _}{α7:Sort _}{α8:Sort _}{α9:Sort _}{P:α1->α2->α3->α4->α5->α6->α7->α8->α9->Prop}{G:Prop}(h:∃x1 x2 x3 x4 x5 x6 x7 x8 x9,P x1 x2 x3 x4 x5 x6 x7 x8 x9)(k:∀x1 x2 x3 x4 x5 x6 x7 x8 x9,P x1 x2 x3 x4 x5 x6 x7 x8 x9->G):G:=h.elim λx1 h=>ex8 h (k x1)
theorem an3{A1 A2 A3 G:Prop}(h:A1/\A2/\A3)(k:A1->A2->A3->G):G:=k h.1 h.2.1 h.2.2
theorem an4{A1 A2 A3 A4 G:Prop}(h:A1/\A2/\A3/\A4)(k:A1->A2->A3->A4->G):G:=an3 h.2 (k h.1)
theorem an5{A1 A2 A3 A4 A5 G:Prop}(h:A1/\A2/\A3/\A4/\A5)(k:A1->A2->A3->A4->A5->G):G:=an4 h.2 (k h.1)
theorem an6{A1 A2 A3 A4 A5 A6 G:Prop}(h:A1/\A2/\A3/\A4/\A5/\A6)(k:A1->A2->A3->A4->A5->A6->G):G:=an5 h.2 (k h.1)
theorem an7{A1 A2 A3 A4 A5 A6 A7 G:Prop}(h:A1/\A2/\A3/\A4/\A5/\A6/\A7)(k:A1->A2->A3->A4->A5->A6->A7->G):G:=an6 h.2 (k h.1)
theorem an8{A1 A2 A3 A4 A5 A6 A7 A8 G:Prop}(h:A1/\A2/\A3/\A4/\A5/\A6/\A7/\A8)(k:A1->A2->A3->A4->A5->A6->A7->A8->G):G:=an7 h.2 (k h.1)
theorem an9{A1 A2 A3 A4 A5 A6 A7 A8 A9 G:Prop}(h:A1/\A2/\A3/\A4/\A5/\A6/\A7/\A8/\A9)(k:A1->A2->A3->A4->A5->A6->A7->A8->A9->G):G:=an8 h.2 (k h.1)
open PySem
theorem tW(h:Pe)(a:Pd)(f:Obj->Obj):(h.update a f).objs.size=h.objs.size:=by cases h;simp [Heap.update]
theorem rH{M:Model}{Γ:Ctx}{p:Pos}{t:Sem Fin}{fs:List Frame}{s s':Pb}{e:End}(h:Runs M Γ p t fs s e s'):s.heap.objs.size<=s'.heap.objs.size:=by induction h <;> (try simp only [Shared.setGen,tW,wk] at *) <;> (first | lia | omega)
theorem wU{M:Model}{Γ:Ctx}{p:Pos}{g:Nat}{r:Resume}{s s':Pb}{res:GenResult}(h:Wakes M Γ p g r s res s'):s.heap.objs.size<=s'.heap.objs.size:=by
 have f:∀{Γ p t fs e1 s1},Runs M Γ p t fs (s.setGen g .running) e1 s1->s.heap.objs.size<=s1.heap.objs.size:=λhr=>(rH hr :);unfold Wakes at h;generalize s.gens[g]?=o at h;cases o with
 | none=>exact h.elim
 | some o=>
  cases o with
  | fresh c=>
   cases r with
   | send v=>
    cases v with
    | none=>obtain ⟨e1,s1,hr,_,_,rfl⟩:=h;exact (f hr:s.heap.objs.size<=s1.heap.objs.size)
    | _=>exact gw (h.2 ..) (zf _)
   | throw x=>exact gw (h.2 ..) (zf _)
  | suspended=>obtain ⟨e1,s1,hr,_,_,rfl⟩:=h;exact (f hr:s.heap.objs.size<=s1.heap.objs.size)
  | running=>exact gw (h.2 ..) (zf _)
  | finished=>exact gw (h.2 ..) (zf _)
theorem a9a{α:Type}(M:Model)(Γ:Ctx)(n:Nat)(t:Sem α):∀(Q:α->Pos->Pb->Prop) (E:Pa->Pos->Pb->Prop) (p:Pos) (s:Pb),n<=s.heap.objs.size->Sem.wp M Γ t Q E p s ->
  Sem.wp M Γ t (λa p' s'=>n<=s'.heap.objs.size/\Q a p' s') (λe p' s'=>n<=s'.heap.objs.size/\E e p' s') p s:=by
 induction t with
 | pure a=>intro Q E p s hn h;exact ⟨hn,h⟩
 | raise e=>intro Q E p s hn h;exact ⟨hn,h⟩
 | unsupported _=>intro Q E p s _ h;exact h
 | finish _=>intro Q E p s _ h;exact h
 | rule _ k ih=>intro Q E p s hn h;exact ih () Q E p s hn h
 | «at» p' k ih=>intro Q E p s hn h;exact ih () Q E p' s hn h
 | load a _ k ih=>intro Q E p s hn h;obtain ⟨o,ho,h⟩:=h;exact ⟨o,ho,ih o Q E p s hn h⟩
 | update a _ f k ih=>intro Q E p s hn h;exact ⟨h.1,ih () Q E p _ (by show n<=(s.heap.update a f).objs.size;exact gw (tW ..) hn) h.2⟩
 | loadIfAlive a k ih=>intro Q E p s hn h;exact ih _ Q E p s hn h
 | point _ k ih=>intro Q E p s hn h;exact ih () Q E p s hn h
 | register _ _=>intro Q E p s _ h;exact h
 | alloc o k ih=>intro Q E p s hn h;exact ih _ Q E p _ (by show n<=(s.heap.push o).objs.size;exact gw (wk ..) (zn hn)) h
 | fresh k ih=>intro Q E p s hn h;exact ih _ Q E p _ hn h
 | ask k ih=>intro Q E p s hn h;exact ih _ Q E p s hn h
 | choose src m k ih=>intro Q E p s hn h;exact ⟨h.1,ih _ Q E p _ hn h.2⟩
 | os q _ k ih=>intro Q E p s hn h;exact ih _ Q E p _ hn h
 | call c hd _ _ k ih=>intro Q E p s hn h;obtain ⟨r,s',hr,h⟩:=h;exact ⟨r,s',hr,ih r Q E p s' (za hn (rH hr)) h⟩
 | handled own k ih=>intro Q E p s hn h;exact ih _ Q E p s hn h
 | genState g k ih=>intro Q E p s hn h;obtain ⟨st,hs,h⟩:=h;exact ⟨st,hs,ih _ Q E p s hn h⟩
 | newGen c k ih=>intro Q E p s hn h;exact ih _ Q E p _ hn h
 | resume g r _ k ih=>intro Q E p s hn h;obtain ⟨res,s',hw,h⟩:=h;exact ⟨res,s',hw,ih res Q E p s' (za hn (wU hw)) h⟩
 | yield _ _ _ _=>intro Q E p s _ h;exact h
 | stack k ih=>intro Q E p s hn h;exact ih _ Q E p s hn h
 | fork _ _=>intro Q E p s _ h;exact h
 | thread k ih=>intro Q E p s hn h;exact ih _ Q E p s hn h
 | await _ _ _ _ _=>intro Q E p s _ h;exact h
theorem gY{α:Type}{M:Model}{A:Pf}{s:Pb}{t:Sem α}{Q:α->Pb->Prop}{E:Pa->Pb->Prop}(h:Un M A t (λa s'=>s.heap.objs.size<=s'.heap.objs.size->Q a s') (λe s'=>s.heap.objs.size<=s'.heap.objs.size->E e s') s):
  Un M A t Q E s:=λΓ p hΓ=>Sem.wp_mono M Γ _ (λz z z x=>x.2 x.1) (λz z z x=>x.2 x.1) p s (a9a M Γ s.heap.objs.size t _ _ p s (zf _) (h Γ p hΓ))
end Mine.Internal
set_option genSizeOf false
set_option genSizeOfSpec false
set_option genInjectivity false
namespace Mine.Internal
open PySem
inductive V where
 | none | bool (b:Bool) | int (i:Int) | str (x:List Nat) | ref (i:Nat) | tup (vs:List V) | inst (c d:Nat) | scr
 deriving Inhabited
noncomputable def V.ctorIdx(v:V):Nat:=V.casesOn v 0 (λz=>1) (λz=>2) (λz=>3) (λz=>4) (λz=>5) (λz z=>6) 7
inductive O where
 | list (xs:List V) | dict (kvs:List (List Nat×V)) | fro (kvs:List (List Nat×V))
 deriving Inhabited
noncomputable def O.ctorIdx(v:O):Nat:=O.casesOn v (λz=>0) (λz=>1) (λz=>2)
noncomputable abbrev H:=List O
inductive R (α:Type) where
 | ok (a:α) (Z:H) | exc (c:Nat) (Z:H) | stuck
noncomputable def R.ctorIdx{α:Type}(v:R α):Nat:=R.casesOn v (λz z=>0) (λz z=>1) 2
noncomputable abbrev M(α:Type):=H->R α
noncomputable def M.ret{α:Type}(a:α):M α:=λZ=>.ok a Z
noncomputable def M.bnd{α β:Type}(m:M α)(f:α->M β):M β:=λZ=>match m Z with
 | .ok a Z'=>f a Z'
 | .exc c Z'=>.exc c Z'
 | .stuck=>.stuck
noncomputable def stuck{α:Type}:M α:=λz=>.stuck
noncomputable def lim:Nat:=16777216
noncomputable def fA(Z:H)(l:Nat):Option (List V):=match Z[l]? with
 | some (.list xs)=>some xs
 | _=>.none
noncomputable def dictAt(Z:H)(l:Nat):Option (List (List Nat×V)):=match Z[l]? with
 | some (.dict kvs)=>some kvs
 | some (.fro kvs)=>some kvs
 | _=>.none
noncomputable def oZ(Z:H)(l:Nat):Option (List (List Nat×V)):=match Z[l]? with
 | some (.dict kvs)=>some kvs
 | _=>.none
noncomputable def onL{α:Type}(l:Nat)(f:List V->M α):M α:=λZ=>match fA Z l with
 | some xs=>f xs Z
 | .none=>.stuck
noncomputable def onD{α:Type}(l:Nat)(f:List (List Nat×V)->M α):M α:=λZ=>match dictAt Z l with
 | some kvs=>f kvs Z
 | .none=>.stuck
noncomputable def onW{α:Type}(l:Nat)(f:List (List Nat×V)->M α):M α:=λZ=>match oZ Z l with
 | some kvs=>f kvs Z
 | .none=>.stuck
noncomputable def bF{α:Type}(o:Option α):M α:=match o with
 | some v=>.ret v
 | .none=>stuck
noncomputable def onS{α:Type}(a:V)(f:List Nat->M α):M α:=match a with
 | .str x=>f x
 | _=>stuck
noncomputable def one{α:Type}(x:List Nat)(f:Nat->M α):M α:=match x with
 | [c]=>f c
 | _=>stuck
noncomputable def aDs(o:O):M V:=λZ=>.ok (.ref Z.length) (Z++[o])
noncomputable def fY(xs:List V):M V:=if xs.length<=lim then aDs (.list xs) else stuck
noncomputable def i6(kvs:List (List Nat×V)):M V:=if kvs.length<=lim then aDs (.dict kvs) else stuck
noncomputable def mkS(x:List Nat):M V:=if x.length<=lim then .ret (.str x) else stuck
noncomputable def mkT(vs:List V):M V:=if vs.length<=lim then .ret (.tup vs) else stuck
noncomputable def sE(l:Nat)(xs:List V):M V:=if xs.length<=lim then λZ=>.ok .none (Z.set l (.list xs)) else stuck
noncomputable def fN(l:Nat)(kvs:List (List Nat×V)):M V:=if kvs.length<=lim then λZ=>.ok .none (Z.set l (.dict kvs)) else stuck
noncomputable def aW:List (List Nat×V)->List Nat->Option V
 | [],_=>.none
 | (a,v)::r,k=>if a=k then some v else aW r k
noncomputable def bP:List (List Nat×V)->List Nat->V->List (List Nat×V)
 | [],k,v=>[(k,v)]
 | (a,x)::r,k,v=>if a=k then (a,v)::r else (a,x)::bP r k v
noncomputable def aZ(d:List (List Nat×V))(ps:List (List Nat×V)):List (List Nat×V):=ps.foldl (λd p=>bP d p.1 p.2) d
inductive Bin where | add | sub | mul | fdiv | mod | pow (u:Unit)
inductive Cmp where | eq | ne | lt | le | gt | ge | is | isnt | N | notin (u:Unit)
inductive Ty where | int | bool | str | list | tuple (u:Unit)
inductive Mm where | mn | mx | ml (u:Unit)
inductive Bi where | len | list | sorted | dict | str | any | all | min (u:Unit)
inductive Me where | append | find (u:Unit) | get | update | startswith | insert | setdefault | index
noncomputable def Bin.ctorIdx(v:Bin):Nat:=Bin.casesOn v 0 1 2 3 4 (λz=>5)
noncomputable def Cmp.ctorIdx(v:Cmp):Nat:=Cmp.casesOn v 0 1 2 3 4 5 6 7 8 (λz=>9)
noncomputable def Ty.ctorIdx(v:Ty):Nat:=Ty.casesOn v 0 1 2 3 (λz=>4)
noncomputable def Mm.ctorIdx(v:Mm):Nat:=Mm.casesOn v 0 1 (λz=>2)
noncomputable def Bi.ctorIdx(v:Bi):Nat:=Bi.casesOn v 0 1 2 3 4 5 6 (λz=>7)
noncomputable def Me.ctorIdx(v:Me):Nat:=Me.casesOn v 0 (λz=>1) 2 3 4 5 6 7
mutual
inductive E where
 | k (v:V) | con (v:V) | v (k:Nat) | o (op:Bin) (a b:E) | not (a:E) | neg (a:E) | and (es:List E) | or (es:List E)
 | g (op:Cmp) (a b:E) | cmp2 (op op':Cmp) (a b c:E)
 | call (f:Nat) (es:List E) | new (c:Nat) (es:List E) | u (o:E) (m:List Nat) (es:List E)
 | bi (b:Bi) (e:E) | mm (k:Mm) (a b:E) | isi (e:E) (t:Ty) | me (o:E) (m:Me) (es:List E)
 | attr (o:E) (x:List Nat) | i (a i:E) | slice (a lo hi:E) | nil
 | list (es:List E) | tup (es:List E) | dict0 | dict (ks:List (List Nat)) (es:List E)
 | comp (src:Src) (elt:E) | J (src:Src) (elt cond:E)
inductive Src where
 | of (e:E) | range (e:E) | enum (e:E) | keys (e:E)
end
noncomputable def E.ctorIdx(v:E):Nat:=E.casesOn v (λz=>0) (λz=>1) (λz=>2) (λz z z=>3) (λz=>4) (λz=>5) (λz=>6) (λz=>7) (λz z z=>8) (λz z z z z=>9) (λz z=>10) (λz z=>11) (λz z z=>12) (λz z=>13) (λz z z=>14) (λz z=>15) (λz z z=>16) (λz z=>17) (λz z=>18) (λz z z=>19) 20 (λz=>21) (λz=>22) 23 (λz z=>24) (λz z=>25) (λz z z=>26)
noncomputable def Src.ctorIdx(v:Src):Nat:=Src.casesOn v (λz=>0) (λz=>1) (λz=>2) (λz=>3)
inductive Hd where
 | ret (v:V) | set (k:Nat) (v:V) | chk (k t u:Nat)
noncomputable def Hd.ctorIdx(v:Hd):Nat:=Hd.casesOn v (λz=>0) (λz z=>1) (λz z z=>2)
mutual
inductive S where
 | a (k:Nat) (e:E) | Y (o:E) (x:List Nat) (e:E) | T (a i e:E) | expr (e:E) | ret (e:E)
 | x (c:E) (t f:List S) | Z (k:Nat) (src:Src) (body:List S) | forP (k k':Nat) (src:Src) (body:List S)
 | raise (c:Nat) | try (body:List S) (hs:List (Nat×Hd)) | dead
end
noncomputable def S.ctorIdx(v:S):Nat:=S.casesOn v (λz z=>0) (λz z z=>1) (λz z z=>2) (λz=>3) (λz=>4) (λz z z=>5) (λz z z=>6) (λz z z z=>7) (λz=>8) (λz z=>9) 10
structure Fn where
 nargs:Nat
 n:Nat
 body:List S
noncomputable def a0c(as:List V)(f:V->M V):M V:=match as with
 | [a]=>f a
 | _=>stuck
noncomputable def a6d(as:List V)(f:V->V->M V):M V:=match as with
 | [a,b]=>f a b
 | _=>stuck
noncomputable def asS(v:V)(f:List Nat->M V):M V:=match v with
 | .str x=>f x
 | _=>stuck
noncomputable def asI(v:V)(f:Int->M V):M V:=match v with
 | .int i=>f i
 | _=>stuck
noncomputable def asR(v:V)(f:Nat->M V):M V:=match v with
 | .ref l=>f l
 | _=>stuck
noncomputable def iA(k:Int)(n:Nat):Option Nat:=
 if 0<=k then (if k.toNat<n then some k.toNat else .none) else (if 0<=k+n then some (k+n).toNat else .none)
noncomputable def gB(k:Int)(n:Nat):Nat:=if 0<=k then min k.toNat n else (k+n).toNat
noncomputable def cut{α:Type}(xs:List α)(lo hi:Option Int):List α:=
 let a:=match lo with | some k=>gB k xs.length | .none=>0
 let b:=match hi with | some k=>gB k xs.length | .none=>xs.length
 (xs.drop a).take (b-a)
noncomputable def jN:V->Option (Option Int)
 | .none=>some .none
 | .int k=>some (some k)
 | _=>.none
section
variable(ns:List Int)
noncomputable def aFw(a:V):M V:=match a with
 | .ref l=>onL l λxs=>.ret (.int xs.length)
 | .tup xs=>.ret (.int xs.length)
 | .str x=>.ret (.int x.length)
 | .scr=>.ret (.int ns.length)
 | _=>stuck
noncomputable def iB(a i:V):M V:=match i with
 | .int k=>match a with
  | .ref l=>onL l λxs=>bF ((iA k xs.length).bind (xs[·]?))
  | .tup xs=>bF ((iA k xs.length).bind (xs[·]?))
  | .str x=>bF (((iA k x.length).bind (x[·]?)).map λc=>V.str [c])
  | .scr=>bF (((iA k ns.length).bind (ns[·]?)).map V.int)
  | _=>stuck
 | .str x=>match a with
  | .ref l=>onD l λkvs=>bF (aW kvs x)
  | _=>stuck
 | _=>stuck
noncomputable def gV(a lo hi:V):M V:=match jN lo,jN hi with
 | some l,some h=>match a with
  | .ref i=>onL i λxs=>fY (cut xs l h)
  | .str x=>mkS (cut x l h)
  | .scr=>fY ((cut ns l h).map V.int)
  | _=>stuck
 | _,_=>stuck
noncomputable def small(i:Int):Bool:=decide (-18446744073709551616<i/\i<18446744073709551616)
noncomputable def i2(a b:V)(f:Int->Int->M V):M V:=match a with
 | .int x=>match b with
  | .int y=>f x y
  | _=>stuck
 | _=>stuck
noncomputable def aFm(a b:V):M V:=match a with
 | .int x=>match b with
  | .int y=>.ret (.int (x+y))
  | _=>stuck
 | .str x=>match b with
  | .str y=>mkS (x++y)
  | _=>stuck
 | .ref i=>match b with
  | .ref j=>onL i λxs=>onL j λys=>fY (xs++ys)
  | _=>stuck
 | _=>stuck
noncomputable def oX(op:Bin)(a b:V):M V:=match op with
 | .add=>aFm a b
 | .sub=>i2 a b λx y=>.ret (.int (x-y))
 | .mul=>i2 a b λx y=>if small x || small y then .ret (.int (x*y)) else stuck
 | .fdiv=>i2 a b λx y=>if 0<y/\y<1073741824 then .ret (.int (x.fdiv y)) else stuck
 | .mod=>i2 a b λx y=>if y=0 then stuck else .ret (.int (x.fmod y))
 | .pow _=>i2 a b λx y=>if x=10/\(y=30∨y=20) then .ret (.int (10 ^ y.toNat)) else stuck
noncomputable def mH:List V->Option (List (List Nat))
 | []=>some []
 | .str x::r=>(mH r).map (x::·)
 | _::_=>.none
noncomputable def fR:List V->Option (List Bool)
 | []=>some []
 | .bool x::r=>(fR r).map (x::·)
 | _::_=>.none
noncomputable def feq(a b:V):Option Bool:=match a with
 | .int x=>match b with
  | .int y=>some (decide (x=y))
  | _=>.none
 | .str x=>match b with
  | .str y=>some (decide (x=y))
  | _=>.none
 | _=>.none
noncomputable def dL(a:V):List V->Option Bool
 | []=>some false
 | x::xs=>match feq x a,dL a xs with
  | some p,some q=>some (p || q)
  | _,_=>.none
noncomputable def yes(neg:Bool)(b:Bool):V:=.bool (cond neg (!b) b)
noncomputable def aCa:V->Bool
 | .none=>true | .int _=>true | .str _=>true | _=>false
noncomputable def nQ:V->Bool
 | .tup vs=>vs.all aCa
 | v=>aCa v
open Classical in
noncomputable def leq(xs ys:List V):Option Bool:=if xs.length=ys.length then (if xs=ys/\xs.all nQ=true then some true else .none) else some false
noncomputable def eqM(a b:V)(neg:Bool):M V:=match a with
 | .ref i=>match b with
  | .ref j=>onL i λxs=>onL j λys=>bF ((leq xs ys).map (yes neg))
  | _=>stuck
 | a=>bF ((feq a b).map (yes neg))
noncomputable def inM(a b:V)(neg:Bool):M V:=match b with
 | .ref l=>λZ=>match Z[l]? with
  | some (.list xs)=>bF ((dL a xs).map (yes neg)) Z
  | some (.dict kvs)=>onS a (λx=>.ret (yes neg (aW kvs x).isSome)) Z
  | _=>.stuck
 | .str y=>onS a λx=>one x λc=>.ret (yes neg (y.contains c))
 | _=>stuck
noncomputable def dX:V->Bool
 | .none=>true
 | _=>false
noncomputable def eA(op:Cmp)(a b:V):M V:=match op with
 | .eq=>eqM a b false
 | .ne=>eqM a b true
 | .N=>inM a b false
 | .notin _=>inM a b true
 | .is=>match b with
  | .none=>.ret (.bool (dX a))
  | _=>stuck
 | .isnt=>match b with
  | .none=>.ret (.bool (!dX a))
  | _=>stuck
 | .lt=>i2 a b λx y=>.ret (.bool (decide (x<y)))
 | .le=>i2 a b λx y=>.ret (.bool (decide (x<=y)))
 | .gt=>i2 a b λx y=>.ret (.bool (decide (y<x)))
 | .ge=>i2 a b λx y=>.ret (.bool (decide (y<=x)))
noncomputable def a1k:V->M V
 | .bool b=>.ret (.bool (!b))
 | _=>stuck
noncomputable def aDy:V->M V
 | .int i=>.ret (.int (-i))
 | _=>stuck
noncomputable def zT(t:Ty)(v:V):M V:=match v with
 | .int _=>match t with
  | .int=>.ret (.bool true)
  | .bool=>.ret (.bool false)
  | _=>stuck
 | .str _=>match t with
  | .str=>.ret (.bool true)
  | _=>stuck
 | .tup _=>match t with
  | .tuple _=>.ret (.bool true)
  | _=>stuck
 | .ref l=>match t with
  | .list=>onL l λz=>.ret (.bool true)
  | _=>stuck
 | _=>stuck
noncomputable def dK(a b:List Nat):Bool:=!decide (b<a)
noncomputable def jE{α:Type}(le:α->α->Bool)(xs:List α):List α:=xs.mergeSort le
noncomputable def mZ(n:Nat):List Nat:=if n<10 then [48+n] else if n<100 then [48+n / 10,48+n % 10] else [48+n / 100,48+n / 10 % 10,48+n % 10]
noncomputable def a2u:V->Option (List Nat×V)
 | .tup [.str x,v]=>some (x,v)
 | _=>.none
noncomputable def fU:List V->Option (List (List Nat×V))
 | []=>some []
 | v::r=>(a2u v).bind λp=>(fU r).map (p::·)
noncomputable def b9(Z:H)(v:V):Option (List V):=match v with
 | .tup xs=>some xs
 | .ref l=>match Z[l]? with
  | some (.list xs)=>some xs
  | some (.dict kvs)=>some (kvs.map λp=>V.str p.1)
  | _=>.none
 | _=>.none
noncomputable def jK:List V->Option (List Int)
 | []=>some []
 | .int i::r=>(jK r).map (i::·)
 | _::_=>.none
noncomputable def tN(xs:List V):Option (List V):=(mH xs).bind λss=>if ss.Nodup then some ((jE dK ss).map V.str) else .none
noncomputable def uV(is:List Int)(d:V):V:=match is with
 | []=>d
 | i::is=>.int (is.foldl min i)
noncomputable def biV(b:Bi)(a:V):M V:=match b with
 | .len=>aFw ns a
 | .list=>λZ=>(bF (b9 Z a)).bnd fY Z
 | .sorted=>asR a λz=>λZ=>(bF ((b9 Z a).bind tN)).bnd fY Z
 | .dict=>asR a λl=>λZ=>match Z[l]? with
  | some (.dict kvs)=>i6 kvs Z
  | some (.list xs)=>(bF (fU xs)).bnd (λps=>i6 (aZ [] ps)) Z
  | _=>.stuck
 | .str=>match a with
  | .int i=>if 0<=i/\i<1000 then .ret (.str (mZ i.toNat)) else stuck
  | _=>stuck
 | .any=>asR a λl=>onL l λxs=>bF ((fR xs).map λbs=>.bool (bs.any id))
 | .all=>asR a λl=>onL l λxs=>bF ((fR xs).map λbs=>.bool (bs.all id))
 | .min _=>asR a λl=>onL l λxs=>if xs=[] then stuck else bF ((jK xs).map λis=>uV is .none)
noncomputable def mmV(k:Mm)(a b:V):M V:=match k with
 | .ml _=>asR a λl=>onL l λxs=>bF ((jK xs).map λis=>uV is b)
 | .mn=>i2 a b λx y=>.ret (.int (min x y))
 | .mx=>i2 a b λx y=>.ret (.int (max x y))
noncomputable def pre:List Nat->List Nat->Bool
 | [],_=>true
 | _::_,[]=>false
 | a::x,b::y=>a == b&&pre x y
noncomputable def l8(c:Nat):List Nat->Nat->Int
 | [],_=>-1
 | x::r,i=>if x=c then i else l8 c r (i+1)
noncomputable def gH(a:V):List V->Nat->Option Nat
 | [],_=>.none
 | x::xs,i=>match feq x a with
  | some b=>if b then (dL a xs).map λz=>i else gH a xs (i+1)
  | .none=>.none
noncomputable def meS(x:List Nat)(m:Me)(as:List V):M V:=match m with
 | .startswith=>a0c as λa=>asS a λy=>.ret (.bool (pre y x))
 | .find _=>a0c as λa=>asS a λy=>match y with
  | [c]=>.ret (.int (l8 c x 0))
  | _=>stuck
 | _=>stuck
noncomputable def bS{α:Type}(xs:List α)(k:Nat)(v:α):List α:=xs.take k++v::xs.drop k
noncomputable def meL(l:Nat)(xs:List V)(m:Me)(as:List V):M V:=match m with
 | .append=>a0c as λv=>sE l (xs++[v])
 | .insert=>a6d as λk v=>asI k λk=>if 0<=k/\k<9223372036854775808 then sE l (bS xs k.toNat v) else stuck
 | .index=>a0c as λv=>bF ((gH v xs 0).map λ(n:Nat)=>V.int n)
 | _=>stuck
noncomputable def meD(l:Nat)(kvs:List (List Nat×V))(m:Me)(as:List V):M V:=match m with
 | .get=>match as with
  | [a]=>asS a λx=>.ret ((aW kvs x).getD .none)
  | as=>a6d as λa v=>asS a λx=>.ret ((aW kvs x).getD v)
 | .update=>a0c as λa=>asR a λj=>if j=l then stuck else onD j λqs=>if kvs.length+qs.length<=lim then fN l (aZ kvs qs) else stuck
 | .setdefault=>a6d as λa v=>asS a λx=>match aW kvs x with
  | some u=>.ret u
  | .none=>(fN l (bP kvs x v)).bnd λz=>.ret v
 | _=>stuck
noncomputable def wM:Me->Nat
 | .startswith=>0 | .find _=>0 | .append=>1 | .insert=>1 | .index=>1 | .get=>2 | .update=>2 | .setdefault=>2
noncomputable def meV(o:V)(m:Me)(as:List V):M V:=match o with
 | .str x=>meS x m as
 | .ref l=>λZ=>match Z[l]? with
  | some (.list xs)=>meL l xs m as Z
  | some (.dict kvs)=>meD l kvs m as Z
  | _=>.stuck
 | _=>stuck
noncomputable def meK(m:Me)(x:V):M V:=match x with
 | .str _=>if wM m=0 then .ret .none else stuck
 | .ref l=>λZ=>match Z[l]? with
  | some (.list _)=>if wM m=1 then .ok .none Z else .stuck
  | some (.dict _)=>if wM m=2 then .ok .none Z else .stuck
  | _=>.stuck
 | _=>stuck
noncomputable def pF(a i v:V):M V:=asR a λl=>asS i λx=>onW l λkvs=>fN l (bP kvs x v)
noncomputable def eY(o:V)(x:List Nat):M V:=match o with
 | .inst _ d=>onD d λkvs=>bF (aW kvs x)
 | _=>stuck
noncomputable def iT(o:V)(x:List Nat)(v:V):M V:=match o with
 | .inst _ d=>onW d λkvs=>fN d (bP kvs x v)
 | _=>stuck
noncomputable def a5j(r:V)(ps:List (List Nat×V)):M V:=asR r λl=>onW l λkvs=>match kvs with
 | []=>(fN l ps).bnd λz=>.ret r
 | _::_=>stuck
inductive It where
 | list (l i:Nat) | range (i n:Nat) | enum (l i:Nat) | seq (x:List Nat) (i:Nat) | keys (l:Nat) (kvs:List (List Nat×V)) (i:Nat)
noncomputable def It.ctorIdx(v:It):Nat:=It.casesOn v (λz z=>0) (λz z=>1) (λz z=>2) (λz z=>3) (λz z z=>4)
noncomputable def aS(it:It)(Z:H):Option (Option (V×It)):=match it with
 | .list l i=>(fA Z l).map λxs=>(xs[i]?).map λv=>(v,.list l (i+1))
 | .range i n=>some (if i<n then some (.int i,.range (i+1) n) else .none)
 | .enum l i=>(fA Z l).map λxs=>(xs[i]?).map λv=>(.tup [.int i,v],.enum l (i+1))
 | .seq x i=>some ((x[i]?).map λc=>(.str [c],.seq x (i+1)))
 | .keys l kvs i=>some ((kvs[i]?).map λp=>(.str p.1,.keys l kvs (i+1)))
noncomputable def jL(Z:H)(l:Nat):H:=match Z[l]? with
 | some (.fro kvs)=>Z.set l (.dict kvs)
 | _=>Z
noncomputable def thaw(it:It)(Z:H):H:=match it with
 | .keys l _ _=>jL Z l
 | _=>Z
noncomputable def a5x(v:V):M (It×Nat):=match v with
 | .ref l=>onW l λkvs=>λZ=>.ok (.keys l kvs 0,kvs.length) (Z.set l (.fro kvs))
 | _=>stuck
noncomputable def uO(v:V)(Z:H):Option (Nat×Nat):=match v with
 | .ref l=>(fA Z l).map λxs=>(l,xs.length)
 | _=>.none
noncomputable def a6m(v:V)(Z:H):Option (It×Nat):=match v with
 | .ref l=>(fA Z l).map λxs=>(.list l 0,xs.length)
 | .str x=>some (.seq x 0,x.length)
 | _=>.none
noncomputable def wY:V->M (It×Nat)
 | .int k=>if -4611686018427387904<k/\k<4611686018427387904 then .ret (.range 0 k.toNat,k.toNat) else stuck
 | _=>stuck
noncomputable abbrev Env:=List (Option V)
structure Calls where
 call:Nat->List V->M V
 new:Nat->List V->M V
 U:V->List Nat->M Nat
 sub:Nat->Nat->Bool
noncomputable def rD{α:Type}(o:Option (Option (V×It)))(a z:α)(k:V->It->α):α:=o.elim z λq=>q.elim a λp=>k p.1 p.2
noncomputable def gat(acc:List V)(k:List V->M (List V))(r:R (Option V)):R (List V):=match r with
 | .ok o Z=>o.elim (k acc Z) λx=>if acc.length+1<=lim then k (acc++[x]) Z else .stuck
 | _=>.stuck
noncomputable def eH(f:V->M (Option V))(n:Nat):It->List V->M (List V):=
 n.rec (λit acc Z=>rD (aS it Z) (.ok acc Z) .stuck λz z=>.stuck) λz g it acc Z=>rD (aS it Z) (.ok acc Z) .stuck λv it'=>gat acc (g it') (f v Z)
theorem kJ{f:V->M (Option V)}{n:Nat}{it:It}{acc:List V}{Z:H}:eH f n it acc Z=rD (aS it Z) (.ok acc Z) .stuck λv it'=>n.rec .stuck λm z=>gat acc (eH f m it') (f v Z):=by cases n <;> rfl
noncomputable def a4i(o:H->Option (It×Nat)):M (It×Nat):=λZ=>bF (o Z) Z
mutual
noncomputable def evE(C:Calls)(J:Env):E->M V
 | .k v=>.ret v
 | .con v=>.ret v
 | .v k=>match J[k]? with
  | some (some v)=>.ret v
  | _=>stuck
 | .o op a b=>(evE C J a).bnd λx=>(evE C J b).bnd λy=>oX op x y
 | .not a=>(evE C J a).bnd a1k
 | .neg a=>(evE C J a).bnd aDy
 | .and es=>rN C J es
 | .or es=>a0v C J es
 | .g op a b=>(evE C J a).bnd λx=>(evE C J b).bnd λy=>eA op x y
 | .cmp2 op op' a b c=>(evE C J a).bnd λx=>(evE C J b).bnd λy=>(eA op x y).bnd λr=>match r with
  | .bool true=>(evE C J c).bnd λz=>eA op' y z
  | .bool false=>.ret (.bool false)
  | _=>stuck
 | .call f es=>(fK C J es).bnd λvs=>C.call f vs
 | .new c es=>(fK C J es).bnd λvs=>C.new c vs
 | .u o m es=>(evE C J o).bnd λx=>(C.U x m).bnd λi=>(fK C J es).bnd λvs=>C.call i (x::vs)
 | .bi b e=>(evE C J e).bnd λv=>biV ns b v
 | .mm k a b=>(evE C J a).bnd λx=>(evE C J b).bnd λy=>mmV k x y
 | .nil=>.ret .none
 | .isi e t=>(evE C J e).bnd λx=>zT t x
 | .me o m es=>(evE C J o).bnd λx=>(meK m x).bnd λw=>(fK C J es).bnd λvs=>meV x m vs
 | .attr o x=>(evE C J o).bnd λv=>eY v x
 | .i a i=>(evE C J a).bnd λx=>(evE C J i).bnd λy=>iB ns x y
 | .slice a lo hi=>(evE C J a).bnd λx=>(evE C J lo).bnd λl=>(evE C J hi).bnd λh=>gV ns x l h
 | .list es=>(fK C J es).bnd fY
 | .tup es=>(fK C J es).bnd mkT
 | .dict0=>i6 []
 | .dict ks es=>(i6 []).bnd λr=>(fK C J es).bnd λvs=>a5j r (ks.zip vs)
 | .comp src elt=>(cX C J src).bnd λp=>(eH (λv=>(evE C (J++[some v]) elt).bnd λx=>.ret (some x)) p.2 p.1 []).bnd (newO' p.1)
 | .J src elt cond=>(cX C J src).bnd λp=>(eH (λv=>(evE C (J++[some v]) cond).bnd λt=>match t with
   | .bool true=>(evE C (J++[some v]) elt).bnd λx=>.ret (some x)
   | .bool false=>.ret .none
   | _=>stuck) p.2 p.1 []).bnd (newO' p.1)
 where newO' (it:It) (xs:List V):M V:=λZ=>aDs (.list xs) (thaw it Z)
noncomputable def fK(C:Calls)(J:Env):List E->M (List V)
 | []=>.ret []
 | e::r=>(evE C J e).bnd λx=>(fK C J r).bnd λxs=>.ret (x::xs)
noncomputable def rN(C:Calls)(J:Env):List E->M V
 | []=>stuck
 | e::r=>(evE C J e).bnd λv=>match v with
  | .bool b=>match r with
   | []=>.ret (.bool b)
   | _::_=>if b then rN C J r else .ret (.bool false)
  | _=>stuck
noncomputable def a0v(C:Calls)(J:Env):List E->M V
 | []=>stuck
 | e::r=>(evE C J e).bnd λv=>match v with
  | .bool b=>match r with
   | []=>.ret (.bool b)
   | _::_=>if b then .ret (.bool true) else a0v C J r
  | _=>stuck
noncomputable def cX(C:Calls)(J:Env):Src->M (It×Nat)
 | .of e=>(evE C J e).bnd λv=>a4i (a6m v)
 | .range e=>(evE C J e).bnd wY
 | .enum e=>(evE C J e).bnd λv=>a4i λZ=>(uO v Z).map λp=>(.enum p.1 0,p.2)
 | .keys e=>(evE C J e).bnd a5x
end
inductive Fl where
 | next | ret (v:V)
noncomputable def Fl.ctorIdx(v:Fl):Nat:=Fl.casesOn v 0 (λz=>1)
inductive RS where
 | ok (f:Fl) (J:Env) (Z:H) | exc (c:Nat) (J:Env) (Z:H) | stuck
noncomputable def RS.ctorIdx(v:RS):Nat:=RS.casesOn v (λz z z=>0) (λz z z=>1) 2
noncomputable def RS.ofE{α:Type}(r:R α)(J:Env)(k:α->H->RS):RS:=match r with
 | .ok a Z=>k a Z
 | .exc c Z=>.exc c J Z
 | .stuck=>.stuck
noncomputable def qN(r:RS)(k:Env->H->RS):RS:=match r with
 | .ok .next J Z=>k J Z
 | r=>r
noncomputable def uH(tgt:V->Env->Option Env)(body:Env->H->RS)(J:Env)(Z:H)(v:V)(k:Env->H->RS):RS:=(tgt v J).elim .stuck λJ'=>qN (body J' Z) k
noncomputable def forLoop(tgt:V->Env->Option Env)(body:Env->H->RS)(n:Nat):It->Env->H->RS:=
 n.rec (λit J Z=>rD (aS it Z) (.ok .next J Z) .stuck λz z=>.stuck) λz g it J Z=>rD (aS it Z) (.ok .next J Z) .stuck λv it'=>uH tgt body J Z v (g it')
theorem s8{tgt:V->Env->Option Env}{body:Env->H->RS}{n:Nat}{it:It}{J:Env}{Z:H}:forLoop tgt body n it J Z=rD (aS it Z) (.ok .next J Z) .stuck λv it'=>n.rec .stuck λm z=>uH tgt body J Z v (forLoop tgt body m it'):=by cases n <;> rfl
noncomputable def dH(k:Nat)(v:V)(J:Env):Option Env:=if k<J.length then some (J.set k (some v)) else .none
noncomputable def m8(k k':Nat)(v:V)(J:Env):Option Env:=match v with
 | .tup [a,b]=>if k<J.length/\k'<J.length then some ((J.set k (some a)).set k' (some b)) else .none
 | _=>.none
noncomputable def RS.thaw(it:It)(r:RS):RS:=match it with
 | .keys l _ _=>match r with
  | .ok f J Z=>.ok f J (jL Z l)
  | .exc c J Z=>.exc c J (jL Z l)
  | .stuck=>.stuck
 | _=>r
noncomputable def gI:Nat:=8
noncomputable def jQ(J:Env)(k:Nat):Bool:=match J[k]? with
 | some .none=>true
 | _=>false
noncomputable def evH(h:Hd)(c:Nat)(J:Env)(Z:H):RS:=match h with
 | .ret v=>.ok (.ret v) J Z
 | .set k v=>if k<J.length then .ok .next (J.set k (some v)) Z else .stuck
 | .chk k t u=>match J[k]? with
  | some (some w)=>if c=gI/\jQ J t=true/\jQ J u=true then .ok (.ret (.bool (dX w))) J Z else .stuck
  | _=>.stuck
noncomputable def p8(sub:Nat->Nat->Bool)(c:Nat)(J:Env)(Z:H):List (Nat×Hd)->RS
 | []=>.stuck
 | h::hs=>if sub c h.1 then evH h.2 c J Z else p8 sub c J Z hs
mutual
noncomputable def evS(C:Calls)(J:Env)(Z:H):S->RS
 | .a k e=>RS.ofE (evE ns C J e Z) J λv Z'=>if k<J.length then .ok .next (J.set k (some v)) Z' else .stuck
 | .Y o x e=>RS.ofE (((evE ns C J e).bnd λv=>(evE ns C J o).bnd λu=>iT u x v) Z) J λz Z'=>.ok .next J Z'
 | .T a i e=>RS.ofE (((evE ns C J e).bnd λv=>(evE ns C J a).bnd λx=>(evE ns C J i).bnd λk=>pF x k v) Z) J λz Z'=>.ok .next J Z'
 | .expr e=>RS.ofE (evE ns C J e Z) J λz Z'=>.ok .next J Z'
 | .ret e=>RS.ofE (evE ns C J e Z) J λv Z'=>.ok (.ret v) J Z'
 | .x c t f=>RS.ofE (evE ns C J c Z) J λv Z'=>match v with
  | .bool true=>aH C J Z' t
  | .bool false=>aH C J Z' f
  | _=>.stuck
 | .Z k src body=>RS.ofE (cX ns C J src Z) J λp Z'=>RS.thaw p.1 (forLoop (dH k) (λJ Z=>aH C J Z body) p.2 p.1 J Z')
 | .forP k k' src body=>RS.ofE (cX ns C J src Z) J λp Z'=>RS.thaw p.1 (forLoop (m8 k k') (λJ Z=>aH C J Z body) p.2 p.1 J Z')
 | .raise c=>.exc c J Z
 | .dead=>.stuck
 | .try body hs=>match aH C J Z body with
  | .exc c J' Z'=>p8 C.sub c J' Z' hs
  | r=>r
noncomputable def aH(C:Calls)(J:Env)(Z:H):List S->RS
 | []=>.ok .next J Z
 | s::r=>match evS C J Z s with
  | .ok .next J' Z'=>aH C J' Z' r
  | x=>x
end
noncomputable def evF(C:Calls)(fn:Fn)(vs:List V):M V:=λZ=>if vs.length=fn.nargs then
  match aH ns C (vs.map some++wf (fn.n-fn.nargs) .none) Z fn.body with
  | .ok (.ret v) _ Z'=>.ok v Z'
  | .ok .next _ Z'=>.ok .none Z'
  | .exc c _ Z'=>.exc c Z'
  | .stuck=>.stuck
 else .stuck
end
structure Tab where
 fns:List Fn
 cls:List (Nat×List (List Nat×Nat))
 sub:Nat->Nat->Bool
noncomputable def aJ(T:Tab)(o:V)(m:List Nat):M Nat:=match o with
 | .inst c d=>onD d λkvs=>match aW kvs m with
  | .none=>bF ((T.cls[c]?).bind λp=>p.2.lookup m)
  | some _=>stuck
 | _=>stuck
noncomputable def oU(c n:Nat)(r:V):M V:=match r with
 | .none=>.ret (.inst c n)
 | _=>stuck
noncomputable def callsOf(ns:List Int)(T:Tab):Nat->Calls
 | 0=>⟨λz z=>stuck,λz z=>stuck,aJ T,T.sub⟩
 | n+1=>⟨λf vs=>match T.fns[f]? with
   | some fn=>evF ns (callsOf ns T n) fn vs
   | .none=>stuck,
   λc vs=>match T.cls[c]? with
   | some p=>match T.fns[p.1]? with
    | some fn=>λZ=>(evF ns (callsOf ns T n) fn (.inst c Z.length::vs)).bnd (oU c Z.length) (Z++[.dict []])
    | .none=>stuck
   | .none=>stuck,aJ T,T.sub⟩
structure GT where
 fns:List Str
 cls:List Str
 con:List (Str×V)
 att:List Str
 own:List Str
structure Cx where
 kinds:List (Str×Pi)
 slots:List (Str×Nat)
 n:Nat
noncomputable def aC(x:Str):List Nat:=x.cps.toList
noncomputable def Cx.slot(cx:Cx)(x:Str):Option Nat:=match cx.kinds.lookup x with
 | some .local=>cx.slots.lookup x
 | some .cell=>cx.slots.lookup x
 | _=>.none
noncomputable def Cx.glob(cx:Cx)(x:Str):Bool:=decide (cx.kinds.lookup x=some .globalImplicit)&&decide (x≠"__debug__")
noncomputable def rW:Bi->Str
 | .len=>"len" | .list=>"list" | .sorted=>"sorted" | .dict=>"dict" | .str=>"str" | .any=>"any" | .all=>"all" | .min _=>"min"
noncomputable def i4:Me->Str
 | .append=>"append" | .find _=>"find" | .get=>"get" | .update=>"update" | .startswith=>"startswith" | .insert=>"insert" | .setdefault=>"setdefault" | .index=>"index"
noncomputable def m9:Ty->Str
 | .int=>"int" | .bool=>"bool" | .str=>"str" | .list=>"list" | .tuple _=>"tuple"
noncomputable def aCf:Bin->Operator
 | .add=>.Add | .sub=>.Sub | .mul=>.Mult | .fdiv=>.FloorDiv | .mod=>.Mod | .pow _=>.Pow
noncomputable def sF:Cmp->CmpOp
 | .eq=>.Eq | .ne=>.NotEq | .lt=>.Lt | .le=>.LtE | .gt=>.Gt | .ge=>.GtE | .is=>.Is | .isnt=>.IsNot | .N=>.In | .notin _=>.NotIn
noncomputable def u8:Const->Option V
 | .none=>some .none
 | .bool b=>some (.bool b)
 | .int i=>some (.int i)
 | .str x=>if (aC x).length<=4096 then some (.str (aC x)) else .none
 | _=>.none
noncomputable def relabel(outer:List (Str×Pi))(l:List (Str×Pi)):List (Str×Pi):=l.map λp=>(p.1,if p.2=.free/\outer.lookup p.1=some .cell then .cell else p.2)
noncomputable def kOk(outer:List (Str×Pi))(x y:Str)(k:Pi):Bool:=NameKind.casesOn k (decide (y=x) || decide (y=(".0":Str))) false (decide (outer.lookup y=some .cell)) false true
noncomputable def y7(outer:List (Str×Pi))(x:Str)(l:List (Str×Pi)):Bool:=l.all λp=>kOk outer x p.1 p.2
noncomputable def Cx.inComp(cx:Cx)(x:Str)(sc:Scope):Option Cx:=
 if sc.kind=.function/\y7 cx.kinds x sc.names=true/\sc.names.lookup x=some .local/\(sc.names.map (·.1)).Nodup/\cx.slots.lookup (".0":Str)=none/\sc.isGenerator=false/\sc.isCoroutine=false then
  some ⟨relabel cx.kinds sc.names,(x,cx.n)::cx.slots,cx.n+1⟩
 else .none
noncomputable def aEs(e:Pg):Bool:=zas e.ctorIdx 23
noncomputable def eK(e:Pg):Bool:=if h:e.ctorIdx=16 then Expr.Call.elim (motive_1:=λz=>Bool) e h λf z z z=>!aEs f else true
noncomputable def aHj:Src->Bool
 | .of _=>true
 | .range _=>true
 | _=>false
noncomputable def eX:Src->Bool
 | .enum _=>false
 | _=>true
noncomputable def aBy:Mm->Str
 | .mx=>"max"
 | _=>"min"
noncomputable def a2d(k:Mm)(q:Pos)(x y:Pg)(kp p:Pos):Pg:=match k with
 | .ml _=>.Call (.Name "min" q) [x] [⟨some "default",y,kp⟩] p
 | .mn=>.Call (.Name "min" q) [x,y] [] p
 | .mx=>.Call (.Name "max" q) [x,y] [] p
noncomputable def a5h:List (List Nat)->List (Option Pg)->Prop
 | [],xs=>xs=[]
 | k::ks,xs=>∃x i p r,xs=some (.Constant (.str x) i p)::r/\aC x=k/\x.length<=4096/\a5h ks r
noncomputable def jF(t:E):Bool:=zat 25 t.ctorIdx
noncomputable def vB(t:E):Bool:=zas t.ctorIdx 20
mutual
noncomputable def T(G:GT):E->Cx->Pg->Prop
 | .k v,_,e=>∃k i p,e=.Constant k i p/\u8 k=some v
 | .v k,cx,e=>∃x p,e=.Name x p/\cx.slot x=some k/\(x == ("__debug__":Str))=false
 | .con v,cx,e=>∃x p,e=.Name x p/\cx.glob x=true/\(x,v)∈G.con
 | .o op a b,cx,e=>∃l r p,e=.BinOp l (aCf op) r p/\T G a cx l/\T G b cx r
 | .not a,cx,e=>∃x p,e=.UnaryOp .Not x p/\T G a cx x
 | .neg a,cx,e=>∃x p,e=.UnaryOp .USub x p/\T G a cx x
 | .and es,cx,e=>∃xs p,e=.BoolOp .And xs p/\Ts G es cx xs
 | .or es,cx,e=>∃xs p,e=.BoolOp .Or xs p/\Ts G es cx xs
 | .g op a b,cx,e=>∃l r p,e=.Compare l [sF op] [r] p/\T G a cx l/\T G b cx r
 | .cmp2 op op' a b c,cx,e=>∃l r r' p,e=.Compare l [sF op,sF op'] [r,r'] p/\T G a cx l/\T G b cx r/\T G c cx r'
 | .new c es,cx,e=>∃x q xs p,e=.Call (.Name x q) xs [] p/\cx.glob x=true/\G.own[c]?=some x/\Ts G es cx xs
 | .u a m es,cx,e=>∃o nm ap xs p,e=.Call (.Attribute o nm ap) xs [] p/\aC nm=m/\eK o=true/\ap.endLine=p.line/\xs.length<29/\T G a cx o/\Ts G es cx xs
 | .attr a x,cx,e=>∃o nm p,e=.Attribute o nm p/\aC nm=x/\nm∈G.att/\eK o=true/\T G a cx o
 | .mm dv a b,cx,e=>∃q x y kp p,e=a2d dv q x y kp p/\cx.glob (aBy dv)=true/\T G a cx x/\T G b cx y
 | .call f es,cx,e=>∃x q xs p,e=.Call (.Name x q) xs [] p/\cx.glob x=true/\G.fns[f]?=some x/\Ts G es cx xs
 | .bi b a,cx,e=>∃q x p,e=.Call (.Name (rW b) q) [x] [] p/\cx.glob (rW b)=true/\T G a cx x
 | .isi a t,cx,e=>∃q x tp p,e=.Call (.Name "isinstance" q) [x,.Name (m9 t) tp] [] p/\cx.glob "isinstance"=true/\cx.glob (m9 t)=true/\T G a cx x
 | .me a m es,cx,e=>∃o ap xs p,e=.Call (.Attribute o (i4 m) ap) xs [] p/\eK o=true/\ap.endLine=p.line/\xs.length<29/\T G a cx o/\Ts G es cx xs
 | .i a i,cx,e=>∃v j p,e=.Subscript v j p/\T G a cx v/\T G i cx j
 | .slice a lo hi,cx,e=>∃v l h q p,e=.Subscript v (.Slice l h none q) p/\T G a cx v/\((l=none/\vB lo=true)∨∃x,l=some x/\T G lo cx x)/\((h=none/\vB hi=true)∨∃x,h=some x/\T G hi cx x)
 | .nil,_,_=>False
 | .list es,cx,e=>∃xs p,e=.List xs p/\Ts G es cx xs
 | .tup es,cx,e=>∃xs k p,e=.Tuple xs k p/\Ts G es cx xs
 | .dict0,_,e=>∃p,e=.Dict [] [] p
 | .dict ks es,cx,e=>∃kes xs p,e=.Dict kes xs p/\a5h ks kes/\ks.Nodup/\ks≠[]/\ks.length<=15/\ks.length=es.length/\Ts G es cx xs
 | .comp src elt,cx,e=>∃x px it sc p el cx',e=.ListComp el [⟨.Name x px,it,[],0⟩] sc p/\cx.inComp x sc=some cx'/\eX src=true/\pE G src cx it/\T G elt cx' el
 | .J src elt c,cx,e=>∃x px it sc p el ce cx',e=.ListComp el [⟨.Name x px,it,[ce],0⟩] sc p/\cx.inComp x sc=some cx'/\eX src=true/\pE G src cx it/\T G elt cx' el/\T G c cx' ce
noncomputable def Ts(G:GT):List E->Cx->List Pg->Prop
 | [],_,xs=>xs=[]
 | t::ts,cx,xs=>∃x r,xs=x::r/\T G t cx x/\Ts G ts cx r
noncomputable def pE(G:GT):Src->Cx->Pg->Prop
 | .of t,cx,e=>T G t cx e
 | .range t,cx,e=>∃q x p,e=.Call (.Name "range" q) [x] [] p/\cx.glob "range"=true/\T G t cx x
 | .enum t,cx,e=>∃q x p,e=.Call (.Name "enumerate" q) [x] [] p/\cx.glob "enumerate"=true/\T G t cx x
 | .keys t,cx,e=>T G t cx e
end
noncomputable def a4o(t:E):Bool:=zas t.ctorIdx 10 || zas t.ctorIdx 12 || zas t.ctorIdx 16
noncomputable def IsT(G:GT)(cx:Cx)(y:Str)(k:Nat)(e:Pg):Prop:=∃q a x b p,e=.Call (.Name "isinstance" q) [.Name y a,.Name x b] [] p/\cx.glob "isinstance"=true/\cx.glob x=true/\G.cls[k]?=some x
noncomputable def a6s(G:GT)(cx:Cx)(y:Str):List Nat->List Pg->Prop
 | [],es=>es=[]
 | k::ks,es=>∃e r,es=e::r/\IsT G cx y k e/\a6s G cx y ks r
noncomputable def LsT(G:GT)(cx:Cx)(y:Str)(ks:List Nat)(v:Pg):Prop:=∃l p,v=.List l p/\a6s G cx y ks l
noncomputable def aHh(G:GT)(cx:Cx)(x y:Str)(v:Pg):Prop:=∃l r p,v=.BinOp l .Add r p/\(∃q,l=.Name x q)/\LsT G cx y [5,6,7,9] r
noncomputable def aDu(cx:Cx)(y:Str)(e:Pg):Prop:=∃q a b p,e=.Call (.Name "isinstance" q) [.Name y a,.Name "ValueError" b] [] p/\cx.glob "isinstance"=true/\cx.glob "ValueError"=true
noncomputable def aGr(x:Str)(e:Pg):Prop:=∃q ap i ip p,e=.Call (.Attribute (.Name x q) "count" ap) [.Constant (.bool true) i ip] [] p/\ap.endLine=p.line
noncomputable def aBt(G:GT)(cx:Cx)(x:Str)(e:Pg):Prop:=∃l r p,e=.Compare l [.Eq] [r] p/\aGr x l/\T G (.k (.int 0)) cx r
noncomputable def aDe(G:GT)(cx:Cx)(x y:Str)(k:Nat)(v:Pg):Prop:=∃a b c e p,v=.BoolOp .And [a,b,c,e] p/\T G (.g .is (.v k) (.k .none)) cx a/\IsT G cx y 8 b/\aDu cx y c/\aBt G cx x e
noncomputable def aAh(G:GT)(cx:Cx)(y:Str)(k t:Nat)(b:List Ph):Prop:=∃x xp u p xq v q w r,b=[.Assign [.Name x xp] u p,.Assign [.Name x xq] v q,.Return (some w) r]/\cx.slot x=some t/\cx.kinds.lookup x=some .local/\x≠y/\x≠"__debug__"/\y≠"__debug__" /\
 LsT G cx y [1,2,3,4] u/\aHh G cx x y v/\aDe G cx x y k w
noncomputable def TH(G:GT)(cx:Cx):Hd->Option Str->List Ph->Prop
 | .ret v,n,b=>n=none/\∃e p,b=[.Return (some e) p]/\T G (.k v) cx e
 | .set k v,n,b=>n=none/\∃x px e p,b=[.Assign [.Name x px] e p]/\cx.slot x=some k/\T G (.k v) cx e
 | .chk k t u,n,b=>∃y,n=some y/\cx.slot y=some u/\cx.kinds.lookup y=some .local/\aAh G cx y k t b
noncomputable def THs(G:GT)(cx:Cx):List (Nat×Hd)->List ExceptHandler->Prop
 | [],hs=>hs=[]
 | h::r,hs=>∃x xp n b hp hr,hs=.ExceptHandler (some (.Name x xp)) n b hp::hr/\cx.glob x=true/\G.cls[h.1]?=some x/\TH G cx h.2 n b/\THs G cx r hr
mutual
noncomputable def TS(G:GT):S->Cx->Ph->Prop
 | .a k t,cx,st=>∃x px v p,st=.Assign [.Name x px] v p/\cx.slot x=some k/\T G t cx v
 | .Y a x t,cx,st=>∃o nm ap v p,st=.Assign [.Attribute o nm ap] v p/\aC nm=x/\nm∈G.att/\nm.length<=4096/\T G a cx o/\T G t cx v/\jF t=false
 | .T a i t,cx,st=>∃u j sp v p,st=.Assign [.Subscript u j sp] v p/\T G a cx u/\T G i cx j/\T G t cx v/\jF t=false
 | .expr t,cx,st=>∃v p,st=.Expr v p/\a4o t=true/\T G t cx v
 | .ret t,cx,st=>∃v p,st=.Return (some v) p/\T G t cx v
 | .x c a b,cx,st=>∃e x y p,st=.If e x y p/\T G c cx e/\TSs G a cx x/\TSs G b cx y
 | .Z k src b,cx,st=>∃x px it body p,st=.For (.Name x px) it body [] p/\cx.slot x=some k/\eX src=true/\pE G src cx it/\TSs G b cx body
 | .forP k k' src b,cx,st=>∃x px y py tk tp it body p,st=.For (.Tuple [.Name x px,.Name y py] tk tp) it body [] p/\cx.slot x=some k/\cx.slot y=some k'/\pE G src cx it/\TSs G b cx body
 | .raise c,cx,st=>∃x np m i ap cp p,st=.Raise (some (.Call (.Name x np) [.Constant (.str m) i ap] [] cp)) none p/\cx.glob x=true/\G.cls[c]?=some x/\(aC m).length<=4096
 | .dead,_,_=>True
 | .try b hs,cx,st=>∃body h hr p,st=.Try body (h::hr) [] [] p/\TSs G b cx body/\THs G cx hs (h::hr)
noncomputable def TSs(G:GT):List S->Cx->List Ph->Prop
 | [],_,xs=>xs=[]
 | t::ts,cx,xs=>∃x r,xs=x::r/\TS G t cx x/\TSs G ts cx r
end
noncomputable def gL(k:Pi):Bool:=NameKind.casesOn k true true false false false
noncomputable def aT(l:List (Str×Pi)):Nat->List (Str×Nat):=List.rec (λz=>[]) (λp z ih i=>cond (gL p.2) ((p.1,i)::ih (i+1)) (ih i)) l
noncomputable def aEv(a:Arguments):Bool:=a.posonlyargs.isEmpty&&a.vararg.isNone&&a.kwonlyargs.isEmpty&&a.kwarg.isNone&&a.defaults.isEmpty&&a.kw_defaults.isEmpty
noncomputable def TFn(G:GT)(fn:Fn)(a:Arguments)(body:List Ph)(sc:Scope):Prop:=
 ((aT sc.names 0).map (·.1)).take a.args.length=a.args.map (·.arg)/\(sc.names.map (·.1)).Nodup/\sc.kind=.function/\sc.isGenerator=false/\sc.isCoroutine=false /\
  TSs G fn.body ⟨sc.names,aT sc.names 0,(aT sc.names 0).length⟩ body/\fn.nargs=a.args.length/\fn.n=(aT sc.names 0).length
theorem fH{a b:List Nat}:dK a b=true↔a<=b:=by unfold dK;rw [vn,decide_eq_false_iff_not];exact List.not_lt
noncomputable abbrev Up(l:List (List Nat)):Prop:=l.Pairwise λa b=>dK a b=true
theorem a0y(l:List (List Nat)):(jE dK l).Perm l:=List.mergeSort_perm l dK
theorem a8i(l:List (List Nat)):Up (jE dK l):=
 List.pairwise_mergeSort (le:=dK) (λz z z h g=>fH.mpr (List.le_trans (fH.mp h) (fH.mp g))) (λa b=>(fi _ _).mpr ((List.le_total a b).imp fH.mpr fH.mpr)) l
theorem aFx{l l':List (List Nat)}(h:l.Perm l')(h1:Up l)(h2:Up l'):l=l':=
 h.eq_of_pairwise (λa b z z x y=>List.le_antisymm (fH.mp x) (fH.mp y)) h1 h2
end Mine.Internal
namespace Mine.Internal.L11
open PySem
noncomputable def a6o:Fn:=⟨1,1,[.dead]⟩
noncomputable def nM:Fn:=⟨1,1,[.ret (.and [(.isi (.v 0) .int),(.not (.isi (.v 0) .bool))])]⟩
noncomputable def lH:Fn:=⟨1,1,[.x (.or [(.not (.isi (.v 0) .str)),(.g .gt (.bi .len (.v 0)) (.con (V.int 12)))]) [.ret (.k (V.bool false))] [],
 .ret (.bi .all (.comp (.of (.v 0)) (.g .N (.v 1) (.con (V.str Nb)))))]⟩
noncomputable def oK:Fn:=⟨1,1,[.ret (.and [(.call 2 [(.v 0)]),(.g .gt (.bi .len (.v 0)) (.k (V.int 0)))])]⟩
noncomputable def nG:Fn:=⟨1,1,[.x (.g .is (.v 0) (.k V.none)) [.ret (.k (V.bool true))] [],
 .ret (.and [(.call 1 [(.v 0)]),(.cmp2 .le .le (.o .sub (.k (V.int 0)) (.con (V.int 1000000000000000000000000000000))) (.v 0) (.con (V.int 1000000000000000000000000000000)))])]⟩
noncomputable def nL:Fn:=⟨2,2,[.ret (.me (.v 0) .startswith [(.v 1)])]⟩
noncomputable def iI:Fn:=⟨2,4,[.a 2 (.neg (.k (V.int 1))),
 .Z 3 (.range (.bi .len (.v 0))) [.x (.g .eq (.i (.i (.v 0) (.v 3)) (.k (V.int 0))) (.v 1)) [.a 2 (.v 3)] []],
 .ret (.v 2)]⟩
noncomputable def gX:Fn:=⟨1,4,[.a 1 .dict0,
 .forP 2 3 (.of (.v 0)) [.T (.v 1) (.v 2) (.v 3)],
 .ret (.v 1)]⟩
noncomputable def kI:Fn:=⟨2,2,[.ret (.g .ge (.call 6 [(.attr (.v 0) Nh),(.v 1)]) (.k (V.int 0)))]⟩
noncomputable def fT:Fn:=⟨2,2,[.x (.g .N (.v 1) (.attr (.v 0) NG)) [.ret (.k (V.bool true))] [],
 .ret (.bi .any (.comp (.of (.bi .list (.attr (.v 0) Np))) (.call 5 [(.v 1),(.v 2)])))]⟩
noncomputable def gK:Fn:=⟨3,6,[.a 3 (.bi .len (.v 0)),
 .Z 4 (.range (.bi .len (.v 0))) [.x (.g .N (.i (.v 0) (.v 4)) (.v 2)) [.a 3 (.mm .mn (.v 3) (.v 4))] []],
 .Z 5 (.of (.v 1)) [.x (.g .ge (.me (.v 0) .index [(.v 5)]) (.v 3)) [.ret (.k V.none)] []],
 .ret (.v 3)]⟩
noncomputable def q9:Fn:=⟨1,1,[.ret (.and [(.isi (.v 0) .int),(.not (.isi (.v 0) .bool))])]⟩
noncomputable def nK:Fn:=⟨2,2,[.x (.g .lt (.v 1) (.bi .len (.v 0))) [.ret (.i (.v 0) (.v 1))] [],
 .ret (.k (V.int 0))]⟩
noncomputable def qQ:Fn:=⟨1,1,[.ret (.o .mod (.o .add (.o .mul (.v 0) (.k (V.int 48271))) (.k (V.int 7919))) (.k (V.int 2147483647)))]⟩
noncomputable def j8:Fn:=⟨1,5,[.a 1 (.k (V.str Nb)),
 .a 2 (.k (V.str [])),
 .a 3 (.v 0),
 .Z 4 (.range (.o .add (.k (V.int 1)) (.o .mod (.v 0) (.k (V.int 12))))) [.a 3 (.call 13 [(.v 3)]),
  .a 2 (.o .add (.v 2) (.i (.v 1) (.o .mod (.v 3) (.k (V.int 37)))))],
 .ret (.v 2)]⟩
noncomputable def p6:Fn:=⟨2,5,[.a 2 (.k (V.str Nb)),
 .a 3 (.o .mod (.v 1) (.bi .len (.v 0))),
 .a 4 (.o .add (.o .add (.me (.v 2) (.find ()) [(.i (.v 0) (.v 3))]) (.k (V.int 1))) (.o .mod (.o .fdiv (.v 1) (.k (V.int 12))) (.k (V.int 36)))),
 .ret (.o .add (.o .add (.slice (.v 0) .nil (.v 3)) (.i (.v 2) (.o .mod (.v 4) (.k (V.int 37))))) (.slice (.v 0) (.o .add (.v 3) (.k (V.int 1))) .nil))]⟩
noncomputable def lQ:Fn:=⟨2,5,[.a 2 (.call 14 [(.v 0)]),
 .a 3 (.call 14 [(.v 1)]),
 .a 4 (.list [(.v 2),(.call 15 [(.v 2),(.v 1)]),(.v 3),(.slice (.o .add (.v 2) (.v 3)) .nil (.k (V.int 12))),(.slice (.v 2) .nil (.o .add (.k (V.int 1)) (.o .mod (.v 1) (.bi .len (.v 2)))))]),
 .a 4 (.slice (.o .add (.v 4) (.list [(.slice (.o .add (.v 3) (.k (V.str [46]))) .nil (.k (V.int 12))),(.slice (.o .add (.o .add (.v 3) (.k (V.str [97]))) (.v 2)) .nil (.k (V.int 12)))])) .nil (.o .add (.k (V.int 1)) (.o .mod (.o .fdiv (.v 0) (.k (V.int 7))) (.k (V.int 7))))),
 .x (.g .eq (.o .mod (.o .fdiv (.v 1) (.k (V.int 7))) (.k (V.int 4))) (.k (V.int 1))) [.a 4 (.o .add (.v 4) (.comp (.range (.o .mod (.o .fdiv (.v 1) (.k (V.int 28))) (.k (V.int 130)))) (.o .add (.k (V.str [110])) (.bi .str (.v 5)))))] [],
 .ret (.v 4)]⟩
noncomputable def i8:Fn:=⟨1,1,[.x (.g .eq (.o .mod (.v 0) (.k (V.int 7))) (.k (V.int 3))) [.ret (.k V.none)] [],
 .x (.g .eq (.o .mod (.v 0) (.k (V.int 7))) (.k (V.int 4))) [.ret (.i (.list [(.k (V.int 0)),(.k (V.int 1)),(.neg (.k (V.int 1))),(.o (.pow ()) (.k (V.int 10)) (.k (V.int 30))),(.neg (.o (.pow ()) (.k (V.int 10)) (.k (V.int 30))))]) (.o .mod (.o .fdiv (.v 0) (.k (V.int 7))) (.k (V.int 5))))] [],
 .x (.g .eq (.o .mod (.v 0) (.k (V.int 7))) (.k (V.int 5))) [.ret (.o .mod (.o .fdiv (.v 0) (.k (V.int 7))) (.k (V.int 9)))] [],
 .ret (.o .sub (.o .mod (.o .fdiv (.v 0) (.k (V.int 7))) (.o .add (.o .mul (.k (V.int 2)) (.o (.pow ()) (.k (V.int 10)) (.k (V.int 30)))) (.k (V.int 1)))) (.o (.pow ()) (.k (V.int 10)) (.k (V.int 30))))]⟩
noncomputable def tT:Fn:=⟨2,2,[.x (.or [(.g .is (.v 1) (.k V.none)),(.g .is (.v 0) (.k V.none))]) [.ret (.and [(.g .is (.v 1) (.k V.none)),(.g .is (.v 0) (.k V.none))])] [],
 .ret (.and [(.call 11 [(.v 0)]),(.g .eq (.v 0) (.v 1))])]⟩
noncomputable def m7:Fn:=⟨2,3,[.x (.or [(.not (.isi (.v 0) .list)),(.g .ne (.bi .len (.v 0)) (.bi .len (.v 1)))]) [.dead] [],
 .Z 2 (.range (.bi .len (.v 1))) [.x (.or [(.not (.isi (.i (.v 0) (.v 2)) (.tuple ()))),(.g .ne (.bi .len (.i (.v 0) (.v 2))) (.k (V.int 2))),(.not (.isi (.i (.i (.v 0) (.v 2)) (.k (V.int 0))) .str))]) [.dead] [],
  .x (.or [(.g .ne (.i (.i (.v 0) (.v 2)) (.k (V.int 0))) (.i (.i (.v 1) (.v 2)) (.k (V.int 0)))),(.not (.call 18 [(.i (.i (.v 0) (.v 2)) (.k (V.int 1))),(.i (.i (.v 1) (.v 2)) (.k (V.int 1)))]))]) [.dead] []],
 .ret (.k (V.bool true))]⟩
noncomputable def pQ:Fn:=⟨1,3,[.a 1 .dict0,
 .Z 2 (.of (.v 0)) [.T (.v 1) (.i (.v 2) (.k (V.int 0))) (.i (.v 2) (.k (V.int 1)))],
 .ret (.v 1)]⟩
noncomputable def cN:Fn:=⟨3,5,[.a 3 (.bi .dict (.v 0)),
 .expr (.me (.v 3) .update [(.v 1)]),
 .a 4 (.J (.of (.bi .sorted (.v 3))) (.v 5) (.g .eq (.slice (.v 5) .nil (.bi .len (.v 2))) (.v 2))),
 .ret (.J (.of (.v 4)) (.tup [(.v 5),(.i (.v 3) (.v 5))]) (.g .isnt (.i (.v 3) (.v 5)) (.k V.none)))]⟩
noncomputable def jJ:Fn:=⟨2,3,[.a 2 (.J (.of (.v 0)) (.v 3) (.g .le (.i (.v 3) (.k (V.int 0))) (.v 1))),
 .x (.g .eq (.v 2) (.list [])) [.ret (.k V.none)] [],
 .ret (.i (.i (.v 2) (.neg (.k (V.int 1)))) (.k (V.int 1)))]⟩
noncomputable def oR:Fn:=⟨2,3,[.a 2 (.bi .dict (.comp (.keys (.v 1)) (.tup [(.v 3),(.call 22 [(.i (.v 1) (.v 3)),(.i (.v 0) (.k (V.str Na)))])]))),
 .expr (.me (.v 2) .update [(.call 20 [(.i (.v 0) (.k (V.str Nf)))])]),
 .ret (.v 2)]⟩
noncomputable def jD:Fn:=⟨2,2,[.ret (.or [(.g .N (.v 1) (.i (.v 0) (.k (V.str Ny)))),(.g .ne (.J (.of (.i (.v 0) (.k (V.str Np)))) (.v 2) (.g .eq (.slice (.v 1) .nil (.bi .len (.v 2))) (.v 2))) (.list []))])]⟩
noncomputable def gM:Fn:=⟨3,9,[.a 3 (.call 20 [(.i (.v 2) (.k (V.str Nf)))]),
 .a 4 (.bi .len (.v 1)),
 .a 5 (.k (V.int 0)),
 .Z 6 (.range (.bi .len (.v 1))) [.a 7 (.i (.v 0) (.i (.v 1) (.v 6))),
  .a 8 (.J (.keys (.call 20 [(.i (.v 7) (.k (V.str Nf)))])) (.v 9) (.call 24 [(.v 2),(.v 9)])),
  .x (.and [(.g .ne (.v 8) (.list [])),(.g .gt (.i (.v 7) (.k (V.str Nt))) (.i (.v 2) (.k (V.str Na))))]) [.a 4 (.mm .mn (.v 4) (.v 6))] [],
  .x (.and [(.g .ne (.v 8) (.list [])),(.g .le (.i (.v 7) (.k (V.str Nt))) (.i (.v 2) (.k (V.str Na))))]) [.a 5 (.o .add (.v 6) (.k (V.int 1)))] [],
  .x (.g .ne (.J (.keys (.v 3)) (.v 9) (.or [(.g .N (.v 9) (.call 20 [(.i (.v 7) (.k (V.str Nf)))])),(.call 24 [(.v 7),(.v 9)])])) (.list [])) [.a 5 (.o .add (.v 6) (.k (V.int 1)))] []],
 .x (.g .gt (.v 5) (.v 4)) [.ret (.k V.none)] [],
 .ret (.v 4)]⟩
noncomputable def pY:Fn:=⟨4,4,[.try [.x (.g .lt (.v 3) (.k (V.int 4))) [.expr (.u (.v 0) NB [(.v 1),(.v 2)])] [.x (.g .lt (.v 3) (.k (V.int 7))) [.expr (.u (.v 0) Nr [(.v 1),(.k (V.str []))])] [.x (.g .lt (.v 3) (.k (V.int 12))) [.expr (.u (.v 0) Nu [(.v 1),(.v 2),(.k (V.int 1))])] [.x (.g .lt (.v 3) (.k (V.int 13))) [.expr (.u (.v 0) NF [(.v 1),(.k (V.int 0))])] [.x (.g .lt (.v 3) (.k (V.int 15))) [.expr (.u (.v 0) NJ [(.v 1)])] [.expr (.u (.v 0) NK [(.v 1)])]]]]]] [(2,.ret (V.bool true))],
 .dead]⟩
noncomputable def cW:Fn:=⟨6,9,[.a 6 (.k (V.str Nz)),
 .x (.g .ne (.J (.of (.me (.v 2) .get [(.v 4),(.list [])])) (.v 9) (.g .gt (.i (.v 9) (.k (V.int 0))) (.i (.i (.v 1) (.v 3)) (.k (V.str Na))))) (.list [])) [.a 6 (.k (V.str NM))] [],
 .Z 7 (.range (.bi .len (.v 1))) [.x (.and [(.g .ne (.v 7) (.v 3)),(.g .eq (.i (.i (.v 1) (.v 7)) (.k (V.str Ni))) (.k (V.str Ng))),(.g .N (.v 4) (.call 20 [(.i (.i (.v 1) (.v 7)) (.k (V.str Nf)))]))]) [.a 6 (.k (V.str NE))] []],
 .a 8 (.k (V.str Nz)),
 .try [.x (.g .isnt (.u (.v 0) Nu [(.v 3),(.v 4),(.v 5)]) (.k V.none)) [.dead] []] [(6,.set 8 (V.str NE)),(7,.set 8 (V.str NM))],
 .x (.g .eq (.v 6) (.k (V.str Nz))) [.expr (.me (.i (.i (.v 1) (.v 3)) (.k (V.str Nf))) .append [(.tup [(.v 4),(.v 5)])])] [],
 .ret (.g .eq (.v 8) (.v 6))]⟩
noncomputable def gT:Fn:=⟨5,11,[.a 5 (.i (.v 1) (.v 4)),
 .a 6 (.call 25 [(.v 1),(.v 3),(.v 5)]),
 .T (.v 5) (.k (V.str Ni)) (.k (V.str Nq)),
 .try [.a 7 (.u (.v 0) NJ [(.v 4)])] [(0,.chk 6 7 8)],
 .x (.or [(.g .is (.v 6) (.k V.none)),(.not (.call 11 [(.v 7)])),(.g .ne (.v 7) (.v 6))]) [.dead] [],
 .expr (.me (.v 3) .insert [(.v 6),(.v 4)]),
 .T (.v 5) (.k (V.str Ni)) (.k (V.str NN)),
 .T (.v 5) (.k (V.str Nt)) (.bi .len (.v 3)),
 .a 9 (.call 20 [(.i (.v 5) (.k (V.str Nf)))]),
 .Z 10 (.keys (.v 9)) [.T (.v 2) (.v 10) (.o .add (.me (.v 2) .get [(.v 10),(.list [])]) (.list [(.tup [(.bi .len (.v 3)),(.i (.v 9) (.v 10))])]))],
 .ret (.k (V.bool true))]⟩
noncomputable def cV:Fn:=⟨7,14,[.a 7 (.o .mod (.i (.v 6) (.k (V.int 0))) (.k (V.int 16))),
 .a 8 (.o .fdiv (.i (.v 6) (.k (V.int 0))) (.k (V.int 16))),
 .a 9 (.i (.v 1) (.v 4)),
 .x (.g .ne (.i (.v 9) (.k (V.str Ni))) (.k (V.str Ng))) [.ret (.call 26 [(.v 0),(.v 4),(.v 5),(.v 7)])] [],
 .a 10 (.call 23 [(.v 9),(.v 2)]),
 .x (.g .lt (.v 7) (.k (V.int 4))) [.x (.g (.notin ()) (.v 5) (.call 20 [(.i (.v 9) (.k (V.str Nf)))])) [.expr (.me (.i (.v 9) (.k (V.str Ny))) .append [(.v 5)])] [],
  .ret (.call 18 [(.u (.v 0) NB [(.v 4),(.v 5)]),(.me (.v 10) .get [(.v 5)])])] [],
 .x (.g .lt (.v 7) (.k (V.int 7))) [.a 11 (.slice (.v 5) .nil (.o .mod (.v 8) (.o .add (.bi .len (.v 5)) (.k (V.int 1))))),
  .x (.g .eq (.o .mod (.o .fdiv (.v 8) (.k (V.int 13))) (.k (V.int 4))) (.k (V.int 3))) [.a 11 (.slice (.o .add (.v 11) (.k (V.str [113]))) .nil (.k (V.int 12)))] [],
  .expr (.me (.i (.v 9) (.k (V.str Np))) .append [(.v 11)]),
  .a 12 (.u (.v 0) Nr [(.v 4),(.v 11)]),
  .x (.not (.call 19 [(.v 12),(.call 21 [(.v 10),.dict0,(.v 11)])])) [.dead] [],
  .expr (.me (.v 12) .append [(.tup [(.k (V.str [122,122])),(.k (V.int 9))])]),
  .expr (.me (.i (.v 9) (.k (V.str Nv))) .append [(.tup [(.v 12),(.bi .list (.v 12))])]),
  .ret (.call 19 [(.u (.v 0) Nr [(.v 4),(.v 11)]),(.call 21 [(.v 10),.dict0,(.v 11)])])] [],
 .x (.g .lt (.v 7) (.k (V.int 12))) [.ret (.call 27 [(.v 0),(.v 1),(.v 2),(.v 4),(.v 5),(.call 17 [(.i (.v 6) (.k (V.int 1)))])])] [],
 .x (.g .lt (.v 7) (.k (V.int 13))) [.a 13 (.o .mod (.v 8) (.o .add (.bi .len (.i (.v 9) (.k (V.str Nf)))) (.k (V.int 1)))),
  .T (.v 9) (.k (V.str Nf)) (.slice (.i (.v 9) (.k (V.str Nf))) .nil (.v 13)),
  .ret (.g .is (.u (.v 0) NF [(.v 4),(.v 13)]) (.k V.none))] [],
 .x (.g .lt (.v 7) (.k (V.int 15))) [.ret (.call 28 [(.v 0),(.v 1),(.v 2),(.v 3),(.v 4)])] [],
 .T (.v 9) (.k (V.str Ni)) (.k (V.str Nq)),
 .ret (.g .is (.u (.v 0) NK [(.v 4)]) (.k V.none))]⟩
noncomputable def mW:Fn:=⟨3,4,[.a 3 (.u (.v 0) [98,101,103,105,110] []),
 .expr (.me (.v 1) .append [(.dict [Na,Ni,Nf,Ny,Np,Nt,Nv] [(.bi .len (.v 2)),(.k (V.str Ng)),(.list []),(.list []),(.list []),(.k (V.int 0)),(.list [])])]),
 .ret (.and [(.call 11 [(.v 3)]),(.g .eq (.v 3) (.o .sub (.bi .len (.v 1)) (.k (V.int 1))))])]⟩
noncomputable def mG:Fn:=⟨5,7,[.x (.not (.call 30 [(.v 0),(.v 1),(.v 3)])) [.dead] [],
 .forP 5 6 (.enum (.v 4)) [.x (.not (.call 27 [(.v 0),(.v 1),(.v 2),(.k (V.int 0)),(.v 6),(.call 17 [(.v 5)])])) [.dead] []],
 .ret (.call 28 [(.v 0),(.v 1),(.v 2),(.v 3),(.k (V.int 0))])]⟩
noncomputable def jA:Fn:=⟨2,3,[.x (.or [(.not (.isi (.v 0) .list)),(.g .ne (.bi .len (.v 0)) (.bi .len (.v 1)))]) [.dead] [],
 .Z 2 (.range (.bi .len (.v 1))) [.x (.or [(.not (.isi (.i (.v 0) (.v 2)) (.tuple ()))),(.g .ne (.bi .len (.i (.v 0) (.v 2))) (.k (V.int 2))),(.not (.call 11 [(.i (.i (.v 0) (.v 2)) (.k (V.int 0)))]))]) [.dead] [],
  .x (.or [(.g .ne (.i (.i (.v 0) (.v 2)) (.k (V.int 0))) (.i (.i (.v 1) (.v 2)) (.k (V.int 0)))),(.not (.call 18 [(.i (.i (.v 0) (.v 2)) (.k (V.int 1))),(.i (.i (.v 1) (.v 2)) (.k (V.int 1)))]))]) [.dead] []],
 .ret (.k (V.bool true))]⟩
noncomputable def g9:Fn:=⟨4,5,[.a 4 (.u (.v 0) [111,114,100,101,114] []),
 .x (.or [(.not (.isi (.v 4) .list)),(.g .ne (.v 4) (.v 2)),(.g .ne (.u (.v 0) [109,111,109,101,110,116] []) (.bi .len (.v 2)))]) [.dead] [],
 .expr (.me (.i (.i (.v 1) (.v 3)) (.k (V.str Nv))) .append [(.tup [(.v 4),(.bi .list (.v 2))])]),
 .ret (.k (V.bool true))]⟩
noncomputable def cB:Fn:=⟨3,5,[.a 3 (.u (.v 0) NO [(.v 2)]),
 .x (.or [(.not (.isi (.v 3) .str)),(.g .ne (.v 3) (.i (.i (.v 1) (.v 2)) (.k (V.str Ni))))]) [.dead] [],
 .x (.g .ne (.v 3) (.k (V.str Ng))) [.ret (.k (V.bool true))] [],
 .a 4 (.u (.v 0) [109,97,100,101] [(.v 2)]),
 .ret (.and [(.call 11 [(.v 4)]),(.g .eq (.v 4) (.bi .len (.i (.i (.v 1) (.v 2)) (.k (V.str Nf)))))])]⟩
noncomputable def f8:Fn:=⟨6,7,[.a 6 (.u (.v 0) [118,101,114,115,105,111,110,115] [(.v 5)]),
 .x (.not (.call 32 [(.v 6),(.me (.v 2) .get [(.v 5),(.list [])])])) [.dead] [],
 .expr (.me (.i (.i (.v 1) (.v 4)) (.k (V.str Nv))) .append [(.tup [(.v 6),(.bi .list (.v 6))])]),
 .ret (.call 18 [(.u (.v 0) [118,97,108,117,101] [(.v 5)]),(.call 22 [(.me (.v 2) .get [(.v 5),(.list [])]),(.bi .len (.v 3))])])]⟩
noncomputable def lJ:Fn:=⟨7,8,[.Z 7 (.of (.i (.list [(.list [(.k (V.int 0)),(.k (V.int 1)),(.k (V.int 2))]),(.list [(.k (V.int 1)),(.k (V.int 2)),(.k (V.int 0))]),(.list [(.k (V.int 2)),(.k (V.int 0)),(.k (V.int 1))]),(.list [(.k (V.int 2)),(.k (V.int 1)),(.k (V.int 0))])]) (.v 6))) [.x (.and [(.g .eq (.v 7) (.k (V.int 0))),(.not (.call 33 [(.v 0),(.v 1),(.v 3),(.v 4)]))]) [.dead] [],
  .x (.and [(.g .eq (.v 7) (.k (V.int 1))),(.not (.call 34 [(.v 0),(.v 1),(.v 4)]))]) [.dead] [],
  .x (.and [(.g .eq (.v 7) (.k (V.int 2))),(.not (.call 35 [(.v 0),(.v 1),(.v 2),(.v 3),(.v 4),(.v 5)]))]) [.dead] []],
 .ret (.k (V.bool true))]⟩
noncomputable def kM:Fn:=⟨6,8,[.Z 6 (.range (.v 5)) [.a 7 (.bi .len (.v 1)),
  .x (.not (.call 30 [(.v 0),(.v 1),(.v 3)])) [.dead] [],
  .x (.not (.call 29 [(.v 0),(.v 1),(.v 2),(.v 3),(.v 7),(.i (.v 4) (.o .mod (.v 6) (.bi .len (.v 4)))),(.list [(.k (V.int 7)),(.v 6)])])) [.dead] [],
  .x (.not (.call 28 [(.v 0),(.v 1),(.v 2),(.v 3),(.v 7)])) [.dead] []],
 .ret (.k (V.bool true))]⟩
noncomputable def mJ:Fn:=⟨3,6,[.a 3 (.k (V.int 0)),
 .a 2 (.bi (.min ()) (.o .add (.list [(.v 2)]) (.J (.of (.v 0)) (.i (.v 6) (.k (V.str Na))) (.g .eq (.i (.v 6) (.k (V.str Ni))) (.k (V.str Ng)))))),
 .Z 4 (.of (.bi .list (.v 1))) [.a 5 (.bi .len (.J (.of (.i (.v 1) (.v 4))) (.v 6) (.g .le (.i (.v 6) (.k (V.int 0))) (.v 2)))),
  .a 3 (.o .add (.v 3) (.mm .mx (.k (V.int 0)) (.o .sub (.v 5) (.k (V.int 1))))),
  .T (.v 1) (.v 4) (.slice (.i (.v 1) (.v 4)) (.mm .mx (.k (V.int 0)) (.o .sub (.v 5) (.k (V.int 1)))) .nil)],
 .ret (.v 3)]⟩
noncomputable def g6:Fn:=⟨6,7,[.Z 6 (.range (.v 5)) [.x (.not (.call 30 [(.v 0),(.v 1),(.v 3)])) [.dead] []],
 .x (.g .eq (.v 5) (.k (V.int 0))) [.ret (.k (V.bool true))] [],
 .ret (.call 29 [(.v 0),(.v 1),(.v 2),(.v 3),(.o .sub (.o .sub (.bi .len (.v 1)) (.o .fdiv (.v 5) (.k (V.int 2)))) (.k (V.int 1))),(.i (.v 4) (.o .mod (.v 5) (.bi .len (.v 4)))),(.list [(.k (V.int 7)),(.v 5)])])]⟩
noncomputable def j4:Fn:=⟨6,11,[.a 6 (.i (.v 5) (.k (V.int 0))),
 .a 7 (.o .sub (.o .sub (.bi .len (.v 1)) (.k (V.int 1))) (.o .mod (.o .fdiv (.v 6) (.k (V.int 800))) (.mm .mx (.k (V.int 1)) (.mm .mn (.bi .len (.v 1)) (.k (V.int 4)))))),
 .x (.g .eq (.o .mod (.i (.v 5) (.k (V.int 2))) (.k (V.int 6))) (.k (V.int 2))) [.a 7 (.o .mod (.o .fdiv (.v 6) (.k (V.int 800))) (.mm .mx (.k (V.int 1)) (.mm .mn (.bi .len (.v 1)) (.k (V.int 4)))))] [],
 .x (.g .eq (.o .mod (.i (.v 5) (.k (V.int 2))) (.k (V.int 6))) (.k (V.int 5))) [.a 7 (.o .mod (.o .fdiv (.v 6) (.k (V.int 800))) (.mm .mx (.k (V.int 1)) (.bi .len (.v 1))))] [],
 .a 8 (.i (.v 4) (.o .mod (.o .fdiv (.v 6) (.k (V.int 9600))) (.bi .len (.v 4)))),
 .a 9 (.k (V.bool true)),
 .x (.or [(.g .eq (.v 1) (.list [])),(.g .eq (.o .mod (.v 6) (.k (V.int 5))) (.k (V.int 0)))]) [.a 7 (.bi .len (.v 1)),
  .a 9 (.call 30 [(.v 0),(.v 1),(.v 3)])] [.x (.and [(.g .eq (.o .mod (.o .fdiv (.v 6) (.k (V.int 5))) (.k (V.int 80))) (.k (V.int 7))),(.g .lt (.bi .len (.v 1)) (.k (V.int 60)))]) [.a 9 (.call 37 [(.v 0),(.v 1),(.v 2),(.v 3),(.v 4),(.o .mod (.o .fdiv (.v 6) (.k (V.int 800))) (.k (V.int 40)))])] [.x (.and [(.g .eq (.o .mod (.o .fdiv (.v 6) (.k (V.int 5))) (.k (V.int 160))) (.k (V.int 8))),(.g .lt (.bi .len (.v 1)) (.k (V.int 60)))]) [.a 9 (.call 39 [(.v 0),(.v 1),(.v 2),(.v 3),(.v 4),(.o .mod (.o .fdiv (.v 6) (.k (V.int 800))) (.k (V.int 120)))])] [.a 9 (.call 29 [(.v 0),(.v 1),(.v 2),(.v 3),(.v 7),(.v 8),(.list [(.o .fdiv (.v 6) (.k (V.int 1315200))),(.i (.v 5) (.k (V.int 1)))])])]]],
 .x (.g .eq (.o .mod (.o .fdiv (.v 6) (.k (V.int 100))) (.k (V.int 8))) (.k (V.int 0))) [.a 10 (.u (.v 0) NP []),
  .a 9 (.and [(.v 9),(.call 11 [(.v 10)]),(.g .eq (.v 10) (.call 38 [(.v 1),(.v 2),(.bi .len (.v 3))]))])] [],
 .ret (.and [(.v 9),(.call 36 [(.v 0),(.v 1),(.v 2),(.v 3),(.v 7),(.v 8),(.o .mod (.o .fdiv (.v 6) (.k (V.int 7))) (.k (V.int 4)))])])]⟩
noncomputable def iX:Fn:=⟨1,9,[.a 1 (.call 16 [(.call 12 [(.v 0),(.k (V.int 0))]),(.call 12 [(.v 0),(.k (V.int 1))])]),
 .a 2 (.new 1 []),
 .a 3 (.list []),
 .a 4 .dict0,
 .a 5 (.list []),
 .x (.and [(.g .eq (.o .mod (.call 12 [(.v 0),(.k (V.int 0))]) (.k (V.int 2))) (.k (V.int 0))),(.not (.call 31 [(.v 2),(.v 3),(.v 4),(.v 5),(.v 1)]))]) [.dead] [],
 .forP 6 7 (.enum (.slice (.v 0) (.k (V.int 2)) (.k (V.int 92)))) [.x (.not (.call 40 [(.v 2),(.v 3),(.v 4),(.v 5),(.v 1),(.list [(.call 13 [(.o .add (.v 7) (.o .mul (.k (V.int 131)) (.v 6)))]),(.v 7),(.v 6)])])) [.dead] []],
 .Z 8 (.of (.v 3)) [.x (.g .ne (.J (.of (.i (.v 8) (.k (V.str Nv)))) (.v 9) (.g .ne (.i (.v 9) (.k (V.int 0))) (.i (.v 9) (.k (V.int 1))))) (.list [])) [.dead] []],
 .ret (.g .eq (.comp (.range (.bi .len (.v 3))) (.u (.v 2) NO [(.v 9)])) (.comp (.of (.v 3)) (.i (.v 9) (.k (V.str Ni)))))]⟩
noncomputable def cC:Fn:=⟨2,2,[.Y (.v 0) Na (.v 1),
 .Y (.v 0) Nn (.k (V.str Ng)),
 .Y (.v 0) Nj (.k (V.int 0)),
 .Y (.v 0) Nh (.list []),
 .Y (.v 0) NH (.list []),
 .Y (.v 0) NG .dict0,
 .Y (.v 0) Np .dict0]⟩
noncomputable def cZ:Fn:=⟨1,1,[.Y (.v 0) Nk .dict0,
 .Y (.v 0) Nc (.list []),
 .Y (.v 0) [114,111,119] (.list [])]⟩
noncomputable def fD:Fn:=⟨2,2,[.x (.or [(.not (.call 1 [(.v 1)])),(.not (.cmp2 .le .lt (.k (V.int 0)) (.v 1) (.bi .len (.attr (.v 0) Nc))))]) [.dead] [],
 .ret (.i (.attr (.v 0) Nc) (.v 1))]⟩
noncomputable def dN:Fn:=⟨2,3,[.a 2 (.u (.v 0) ND [(.v 1)]),
 .x (.g .ne (.attr (.v 2) Nn) (.k (V.str Ng))) [.raise 2] [],
 .ret (.v 2)]⟩
noncomputable def gG:Fn:=⟨2,2,[.x (.not (.call 3 [(.v 1)])) [.dead] []]⟩
noncomputable def dO:Fn:=⟨3,6,[.a 3 (.k V.none),
 .forP 4 5 (.of (.me (.attr (.v 0) Nk) .get [(.v 1),(.list [])])) [.x (.g .le (.v 4) (.v 2)) [.a 3 (.v 5)] []],
 .ret (.v 3)]⟩
noncomputable def dC:Fn:=⟨3,4,[.a 3 (.call 6 [(.attr (.v 1) Nh),(.v 2)]),
 .x (.g .ge (.v 3) (.k (V.int 0))) [.ret (.i (.i (.attr (.v 1) Nh) (.v 3)) (.k (V.int 1)))] [],
 .ret (.u (.v 0) NI [(.v 2),(.attr (.v 1) Na)])]⟩
noncomputable def gD:Fn:=⟨1,1,[.expr (.me (.attr (.v 0) Nc) .append [(.new 0 [(.bi .len (.attr (.v 0) [114,111,119]))])]),
 .ret (.o .sub (.bi .len (.attr (.v 0) Nc)) (.k (V.int 1)))]⟩
noncomputable def cP:Fn:=⟨3,5,[.a 3 (.u (.v 0) Nl [(.v 1)]),
 .expr (.u (.v 0) Nw [(.v 2)]),
 .a 4 (.u (.v 0) NA [(.v 3),(.v 2)]),
 .x (.not (.call 8 [(.v 3),(.v 2)])) [.T (.attr (.v 3) NG) (.v 2) (.k (V.bool true))] [],
 .expr (.me (.attr (.v 3) NH) .append [(.tup [(.k (V.str NB)),(.v 2),(.v 4)])]),
 .ret (.v 4)]⟩
noncomputable def bG:Fn:=⟨3,8,[.a 3 (.u (.v 0) Nl [(.v 1)]),
 .x (.not (.call 2 [(.v 2)])) [.dead] [],
 .a 4 .dict0,
 .Z 5 (.of (.bi .list (.attr (.v 0) Nk))) [.T (.v 4) (.v 5) (.k (V.bool true))],
 .forP 5 6 (.of (.attr (.v 3) Nh)) [.T (.v 4) (.v 5) (.k (V.bool true))],
 .a 7 (.list []),
 .Z 5 (.of (.bi .sorted (.bi .list (.v 4)))) [.a 6 (.u (.v 0) NA [(.v 3),(.v 5)]),
  .x (.and [(.call 5 [(.v 5),(.v 2)]),(.g .isnt (.v 6) (.k V.none))]) [.expr (.me (.v 7) .append [(.tup [(.v 5),(.v 6)])])] []],
 .T (.attr (.v 3) Np) (.v 2) (.k (V.bool true)),
 .expr (.me (.attr (.v 3) NH) .append [(.tup [(.k (V.str Nr)),(.v 2),(.bi .list (.v 7))])]),
 .ret (.v 7)]⟩
noncomputable def aX:Fn:=⟨4,9,[.a 4 (.u (.v 0) Nl [(.v 1)]),
 .expr (.u (.v 0) Nw [(.v 2)]),
 .x (.not (.call 4 [(.v 3)])) [.dead] [],
 .Z 5 (.range (.bi .len (.attr (.v 0) Nc))) [.a 6 (.i (.attr (.v 0) Nc) (.v 5)),
  .x (.and [(.g .ne (.v 5) (.v 1)),(.g .eq (.attr (.v 6) Nn) (.k (V.str Ng))),(.call 8 [(.v 6),(.v 2)])]) [.raise 6] []],
 .forP 7 8 (.of (.me (.attr (.v 0) Nk) .get [(.v 2),(.list [])])) [.x (.g .gt (.v 7) (.attr (.v 4) Na)) [.raise 7] []],
 .expr (.me (.attr (.v 4) Nh) .append [(.tup [(.v 2),(.v 3)])]),
 .expr (.me (.attr (.v 4) NH) .append [(.tup [(.k (V.str Nu)),(.v 2),(.v 3)])])]⟩
noncomputable def dF:Fn:=⟨2,2,[.ret (.bi .len (.attr (.u (.v 0) Nl [(.v 1)]) Nh))]⟩
noncomputable def cS:Fn:=⟨3,4,[.a 3 (.u (.v 0) Nl [(.v 1)]),
 .x (.or [(.not (.call 1 [(.v 2)])),(.not (.cmp2 .le .le (.k (V.int 0)) (.v 2) (.bi .len (.attr (.v 3) Nh))))]) [.dead] [],
 .Y (.v 3) Nh (.slice (.attr (.v 3) Nh) .nil (.v 2)),
 .expr (.me (.attr (.v 3) NH) .append [(.tup [(.k (V.str NF)),(.v 2)])])]⟩
noncomputable def bK:Fn:=⟨4,5,[.Z 4 (.of (.v 3)) [.x (.or [(.call 8 [(.v 1),(.v 4)]),(.call 9 [(.v 1),(.v 4)])]) [.ret (.k (V.bool true))] []],
 .ret (.and [(.g .le (.attr (.v 1) Nj) (.attr (.v 2) Na)),(.u (.v 0) No [(.v 1),(.v 2)])])]⟩
noncomputable def cR:Fn:=⟨3,3,[.ret (.bi .any (.comp (.of (.bi .list (.call 7 [(.attr (.v 1) Nh)]))) (.call 9 [(.v 2),(.v 3)])))]⟩
noncomputable def bA:Fn:=⟨2,11,[.a 2 (.u (.v 0) Nl [(.v 1)]),
 .a 3 (.bi .list (.call 7 [(.attr (.v 2) Nh)])),
 .a 4 (.list []),
 .a 5 (.list []),
 .Z 6 (.of (.attr (.v 0) [114,111,119])) [.a 7 (.i (.attr (.v 0) Nc) (.v 6)),
  .x (.u (.v 0) Nx [(.v 7),(.v 2),(.v 3)]) [.expr (.me (.v 4) .append [(.v 6)])] [],
  .x (.and [(.g .gt (.attr (.v 7) Nj) (.attr (.v 2) Na)),(.u (.v 0) No [(.v 7),(.v 2)])]) [.expr (.me (.v 5) .append [(.v 6)])] []],
 .a 8 (.call 10 [(.attr (.v 0) [114,111,119]),(.v 4),(.v 5)]),
 .x (.g .is (.v 8) (.k V.none)) [.Y (.v 2) Nn (.k (V.str Nq)),
  .raise 8] [],
 .expr (.me (.attr (.v 0) [114,111,119]) .insert [(.v 8),(.v 1)]),
 .Y (.v 2) Nn (.k (V.str NN)),
 .Y (.v 2) Nj (.bi .len (.attr (.v 0) [114,111,119])),
 .a 9 (.call 7 [(.attr (.v 2) Nh)]),
 .Z 10 (.of (.v 3)) [.expr (.me (.me (.attr (.v 0) Nk) .setdefault [(.v 10),(.list [])]) .append [(.tup [(.attr (.v 2) Nj),(.i (.v 9) (.v 10))])])],
 .ret (.v 8)]⟩
noncomputable def cU:Fn:=⟨2,3,[.a 2 (.u (.v 0) Nl [(.v 1)]),
 .Y (.v 2) Nn (.k (V.str Nq))]⟩
noncomputable def f9:Fn:=⟨1,1,[.ret (.bi .list (.attr (.v 0) [114,111,119]))]⟩
noncomputable def fQ:Fn:=⟨1,1,[.ret (.bi .len (.attr (.v 0) [114,111,119]))]⟩
noncomputable def f7:Fn:=⟨2,2,[.ret (.attr (.u (.v 0) ND [(.v 1)]) Nn)]⟩
noncomputable def nS:Fn:=⟨2,2,[.expr (.call 0 [(.k (V.int 0))])]⟩
noncomputable def gF:Fn:=⟨2,2,[.expr (.u (.v 0) Nw [(.v 1)]),
 .ret (.u (.v 0) NI [(.v 1),(.bi .len (.attr (.v 0) [114,111,119]))])]⟩
noncomputable def eE:Fn:=⟨2,2,[.expr (.u (.v 0) Nw [(.v 1)]),
 .ret (.bi .list (.me (.attr (.v 0) Nk) .get [(.v 1),(.list [])]))]⟩
noncomputable def dW:Fn:=⟨1,6,[.a 1 (.mm (.ml ()) (.J (.of (.attr (.v 0) Nc)) (.attr (.v 6) Na) (.g .eq (.attr (.v 6) Nn) (.k (V.str Ng)))) (.bi .len (.attr (.v 0) [114,111,119]))),
 .a 2 (.k (V.int 0)),
 .Z 3 (.of (.bi .list (.attr (.v 0) Nk))) [.a 4 (.i (.attr (.v 0) Nk) (.v 3)),
  .a 5 (.o .sub (.bi .len (.J (.of (.v 4)) (.v 6) (.g .le (.i (.v 6) (.k (V.int 0))) (.v 1)))) (.k (V.int 1))),
  .x (.g .gt (.v 5) (.k (V.int 0))) [.T (.attr (.v 0) Nk) (.v 3) (.slice (.v 4) (.v 5) .nil),
   .a 2 (.o .add (.v 2) (.v 5))] []],
 .ret (.v 2)]⟩
noncomputable def fs:List Fn:=[a6o,nM,lH,oK,nG,nL,iI,gX,kI,fT,gK,q9,nK,qQ,j8,p6,lQ,i8,tT,m7,pQ,cN,jJ,oR,jD,gM,pY,cW,gT,cV,mW,mG,jA,g9,cB,f8,lJ,kM,mJ,g6,j4,iX,cC,cZ,fD,dN,gG,dO,dC,gD,cP,bG,aX,dF,cS,bK,cR,bA,cU,f9,fQ,f7,nS,gF,eE,dW]
noncomputable def cls:List (Nat×List (List Nat×Nat)):=[(42,[]),(43,[(ND,44),(Nl,45),(Nw,46),(NI,47),(NA,48),([98,101,103,105,110],49),(NB,50),(Nr,51),(Nu,52),([109,97,100,101],53),(NF,54),(Nx,55),(No,56),(NJ,57),(NK,58),([111,114,100,101,114],59),([109,111,109,101,110,116],60),(NO,61),([100,101,101,100,115],62),([118,97,108,117,101],63),([118,101,114,115,105,111,110,115],64),(NP,65)])]
noncomputable def fnN:List Str:=(["_wall","is_whole","is_head","is_name","is_value","is_under","last_place","last_values","has_written","has_looked","place_in","_law_whole","_law_cell_at","_law_mixed","_law_name_by","_law_twin","_law_pool","_law_value_by","_law_same","_law_pairs"]:List Str)++(["_law_last","_law_told_under","_law_newest","_law_seen","_law_looked","_law_place","_law_over","_law_written","_law_kept","_law_done","_law_begun","_law_first","_law_versions","_law_row_stands","_law_deal_stands","_law_name_stands","_law_stands","_law_short","_law_swept","_law_opened","_law_turn","law"]:List Str)
noncomputable def exN:List Str:=["DealError","NoDealing","Over","NoName","NoValue","NoMark","Taken","Late","Crossed","Unlike"]
noncomputable def owN:List Str:=["Dealing","Shelf"]
noncomputable def meN:List (Str×Str):=[("Dealing","__init__"),("Shelf","__init__"),("Shelf","need_dealing"),("Shelf","need_open"),("Shelf","need_name"),("Shelf","at_moment"),("Shelf","seen_by"),("Shelf","begin"),("Shelf","read"),("Shelf","under"),("Shelf","write"),("Shelf","made"),("Shelf","back"),("Shelf","must_be_ahead"),("Shelf","was_looked_at"),("Shelf","keep"),("Shelf","drop"),("Shelf","order"),("Shelf","moment"),("Shelf","ended"),("Shelf","deeds"),("Shelf","value"),("Shelf","versions"),("Shelf","sweep")]
end Mine.Internal.L11
namespace Mine.Internal
noncomputable abbrev rF(l:Nat):Option V:=Option.some (.ref l)
noncomputable abbrev rI(l:Int):Option V:=Option.some (.int l)
noncomputable abbrev rS(l:List Nat):Option V:=Option.some (.str l)
end Mine.Internal
namespace Mine.Internal.P
open PySem
section
variable{ns:List Int}{C:Calls}{J J' J1 J2:Env}{Z Z' Z1 Z2 Z3 Z4:H}{a b c e:E}{x y z v w:V}{es:List E}{vs:List V}
theorem gA{α β:Type}{m:M α}{k:α->M β}{Z Z':H}{a:α}(e:m Z=.ok a Z'):m.bnd k Z=k a Z':=by unfold M.bnd;exact gw e rfl
theorem bI{α β:Type}{m:M α}{k:α->M β}{Z Z':H}{a:α}{r:R β}(e:m Z=.ok a Z')(h:k a Z'=r):m.bnd k Z=r:=(gA e).trans h
theorem aCc{α β:Type}{m:M α}{k:α->M β}{Z Z':H}{c:Nat}(e:m Z=.exc c Z'):m.bnd k Z=.exc c Z':=by unfold M.bnd;exact gw e rfl
noncomputable abbrev Ev(ns:List Int)(C:Calls)(J:Env)(e:E)(Z:H)(v:V)(Z':H):Prop:=evE ns C J e Z=.ok v Z'
noncomputable abbrev Evs(ns:List Int)(C:Calls)(J:Env)(e:List E)(Z:H)(v:List V)(Z':H):Prop:=fK ns C J e Z=.ok v Z'
theorem bB{op:Bin}(h1:Ev ns C J a Z x Z1)(h2:Ev ns C J b Z1 y Z2)(h3:oX op x y Z2=.ok v Z3):Ev ns C J (.o op a b) Z v Z3:=bI h1 (bI h2 h3)
theorem aM{op:Cmp}(h1:Ev ns C J a Z x Z1)(h2:Ev ns C J b Z1 y Z2)(h3:eA op x y Z2=.ok v Z3):Ev ns C J (.g op a b) Z v Z3:=bI h1 (bI h2 h3)
theorem cE(h1:Ev ns C J a Z x Z1)(h3:a1k x Z1=.ok v Z2):Ev ns C J (.not a) Z v Z2:=bI h1 h3
theorem aG{f:Nat}(h1:Evs ns C J es Z vs Z1)(h3:C.call f vs Z1=.ok v Z2):Ev ns C J (.call f es) Z v Z2:=bI h1 h3
theorem bD{bb:Bi}(h1:Ev ns C J a Z x Z1)(h3:biV ns bb x Z1=.ok v Z2):Ev ns C J (.bi bb a) Z v Z2:=bI h1 h3
theorem tR{t:Ty}(h1:Ev ns C J a Z x Z1)(h3:zT t x Z1=.ok v Z2):Ev ns C J (.isi a t) Z v Z2:=bI h1 h3
theorem fZ{m:Me}(h1:Ev ns C J a Z x Z1)(h2:meK m x Z1=.ok w Z2)(h3:Evs ns C J es Z2 vs Z3)(h4:meV x m vs Z3=.ok v Z4):Ev ns C J (.me a m es) Z v Z4:=bI h1 (bI h2 (bI h3 h4))
theorem aK(h1:Ev ns C J a Z x Z1)(h2:Ev ns C J b Z1 y Z2)(h3:iB ns x y Z2=.ok v Z3):Ev ns C J (.i a b) Z v Z3:=bI h1 (bI h2 h3)
theorem cJ(h1:Ev ns C J a Z x Z1)(h2:Ev ns C J b Z1 y Z2)(h3:Ev ns C J c Z2 z Z3)(h4:gV ns x y z Z3=.ok v Z4):Ev ns C J (.slice a b c) Z v Z4:=bI h1 (bI h2 (bI h3 h4))
theorem eU{xs:List V}(h:xs.length<=lim):fY xs Z=.ok (.ref Z.length) (Z++[.list xs]):=by unfold fY;exact gw (Ua h ..) rfl
theorem bV(h1:Evs ns C J es Z vs Z1)(h:vs.length<=lim):Ev ns C J (.list es) Z (.ref Z1.length) (Z1++[.list vs]):=bI h1 (eU h)
theorem aFc(h1:Evs ns C J es Z vs Z1)(h:vs.length<=lim):Ev ns C J (.tup es) Z (.tup vs) Z1:=bI h1 (by unfold mkT;exact gw (Ua h ..) rfl)
theorem aHv:Evs ns C J [] Z [] Z:=rfl
theorem aQ(h1:Ev ns C J e Z x Z1)(h2:Evs ns C J es Z1 vs Z2):Evs ns C J (e::es) Z (x::vs) Z2:=bI h1 (bI h2 rfl)
theorem a9(h1:Ev ns C J e Z x Z1):Evs ns C J [e] Z [x] Z1:=bI h1 rfl
theorem bW{e':E}(h1:Ev ns C J e Z x Z1)(h2:Ev ns C J e' Z1 y Z2):Evs ns C J [e,e'] Z [x,y] Z2:=aQ h1 (a9 h2)
theorem b7{e' e'':E}(h1:Ev ns C J e Z x Z1)(h2:Ev ns C J e' Z1 y Z2)(h3:Ev ns C J e'' Z2 z Z3):Evs ns C J [e,e',e''] Z [x,y,z] Z3:=aQ h1 (bW h2 h3)
theorem jR{p:Bool}(h1:Ev ns C J e Z (.bool p) Z1):rN ns C J [e] Z=.ok (.bool p) Z1:=bI h1 rfl
theorem jU{e':E}{r:List E}(h1:Ev ns C J e Z (.bool false) Z1):rN ns C J (e::e'::r) Z=.ok (.bool false) Z1:=bI h1 rfl
theorem hU{e':E}{r:List E}{R0:R V}(h1:Ev ns C J e Z (.bool true) Z1)(h2:rN ns C J (e'::r) Z1=R0):rN ns C J (e::e'::r) Z=R0:=bI h1 h2
theorem or1{p:Bool}(h1:Ev ns C J e Z (.bool p) Z1):a0v ns C J [e] Z=.ok (.bool p) Z1:=bI h1 rfl
theorem orT{e':E}{r:List E}(h1:Ev ns C J e Z (.bool true) Z1):a0v ns C J (e::e'::r) Z=.ok (.bool true) Z1:=bI h1 rfl
theorem orF{e':E}{r:List E}{R0:R V}(h1:Ev ns C J e Z (.bool false) Z1)(h2:a0v ns C J (e'::r) Z1=R0):a0v ns C J (e::e'::r) Z=R0:=bI h1 h2
theorem a6b{e':E}{p q:Bool}(h1:Ev ns C J e Z (.bool p) Z)(h2:Ev ns C J e' Z (.bool q) Z):Ev ns C J (.and [e,e']) Z (.bool (p&&q)) Z:=by
 cases p
 ·exact jU h1
 ·exact hU h1 (jR h2)
theorem or2{e':E}{p q:Bool}(h1:Ev ns C J e Z (.bool p) Z)(h2:Ev ns C J e' Z (.bool q) Z):Ev ns C J (.or [e,e']) Z (.bool (p || q)) Z:=by
 cases p
 ·exact orF h1 (or1 h2)
 ·exact orT h1
variable{r t f:List S}{Res:RS}
noncomputable def after(ns:List Int)(C:Calls)(r:List S)(x:RS):RS:=match x with
 | .ok .next J' Z'=>aH ns C J' Z' r
 | x=>x
theorem cL{s:S}:aH ns C J Z (s::r)=after ns C r (evS ns C J Z s):=rfl
theorem vH{k:Nat}:evS ns C J Z (.a k e)=RS.ofE (evE ns C J e Z) J (λv Z'=>if k<J.length then .ok .next (J.set k (some v)) Z' else .stuck):=rfl
theorem aBd:evS ns C J Z (.ret e)=RS.ofE (evE ns C J e Z) J (λv Z'=>.ok (.ret v) J Z'):=rfl
theorem a4a:evS ns C J Z (.expr e)=RS.ofE (evE ns C J e Z) J (λz Z'=>.ok .next J Z'):=rfl
theorem aGl:evS ns C J Z (.T a b e)=RS.ofE (((evE ns C J e).bnd λv=>(evE ns C J a).bnd λx=>(evE ns C J b).bnd λk=>pF x k v) Z) J (λz Z'=>.ok .next J Z'):=rfl
theorem aCo{k:Nat}{src:Src}{body:List S}:evS ns C J Z (.Z k src body)=RS.ofE (cX ns C J src Z) J (λp Z'=>RS.thaw p.1 (forLoop (dH k) (λJ Z=>aH ns C J Z body) p.2 p.1 J Z')):=rfl
theorem aCx{k k':Nat}{src:Src}{body:List S}:evS ns C J Z (.forP k k' src body)=RS.ofE (cX ns C J src Z) J (λp Z'=>RS.thaw p.1 (forLoop (m8 k k') (λJ Z=>aH ns C J Z body) p.2 p.1 J Z')):=rfl
theorem aFl:evS ns C J Z (.x c t f)=RS.ofE (evE ns C J c Z) J (λv Z'=>match v with | .bool true=>aH ns C J Z' t | .bool false=>aH ns C J Z' f | _=>.stuck):=rfl
theorem aA{k:Nat}(h1:Ev ns C J e Z v Z1)(hk:Nat.blt k J.length=true)(h2:aH ns C (J.set k (some v)) Z1 r=Res):aH ns C J Z (.a k e::r)=Res:=by refine gw (cL ..) (gw (vH ..) (gw (show evE ns C J e Z=_ from h1) ?_));show after ns C r (if k<J.length then RS.ok .next (J.set k (some v)) Z1 else .stuck)=Res;exact gw (Ua (show k<J.length from wy hk)) h2
theorem aP(h1:Ev ns C J e Z v Z1):aH ns C J Z (.ret e::r)=.ok (.ret v) J Z1:=by exact gw (cL ..) (gw (aBd ..) (gw (show evE ns C J e Z=_ from h1) rfl))
theorem b5(h1:Ev ns C J e Z v Z1)(h2:aH ns C J Z1 r=Res):aH ns C J Z (.expr e::r)=Res:=by exact gw (cL ..) (gw (a4a ..) (gw (show evE ns C J e Z=_ from h1) h2))
theorem iR(h1:Ev ns C J e Z v Z1)(h2:Ev ns C J a Z1 x Z2)(h3:Ev ns C J b Z2 y Z3)(h4:pF x y v Z3=.ok w Z4)(h5:aH ns C J Z4 r=Res):aH ns C J Z (.T a b e::r)=Res:=by exact gw (cL ..) (gw (aGl ..) (gw (show ((evE ns C J e).bnd λv=>(evE ns C J a).bnd λx=>(evE ns C J b).bnd λk=>pF x k v) Z=.ok w Z4 from bI h1 (bI h2 (bI h3 h4))) h5))
theorem mX{p:Bool}(h1:Ev ns C J c Z (.bool p) Z1)(h2:after ns C r (aH ns C J Z1 (if p then t else f))=Res):aH ns C J Z (.x c t f::r)=Res:=by refine gw (cL ..) (gw (aFl ..) ?_);refine gw (show evE ns C J c Z=_ from h1) ?_;cases p <;> exact h2
theorem bU(h1:Ev ns C J c Z (.bool true) Z1)(h2:after ns C r (aH ns C J Z1 t)=Res):aH ns C J Z (.x c t f::r)=Res:=mX (p:=true) h1 h2
theorem aL(h1:Ev ns C J c Z (.bool false) Z1)(h2:aH ns C J Z1 r=Res):aH ns C J Z (.x c t []::r)=Res:=mX (p:=false) h1 h2
theorem aB{x:RS}(h:x=.ok .next J' Z')(h2:aH ns C J' Z' r=Res):after ns C r x=Res:=gw h h2
theorem aU{x:RS}(h:x=.ok (.ret v) J' Z'):after ns C r x=.ok (.ret v) J' Z':=gw h rfl
theorem eO{x:RS}{k:Nat}(h:x=.exc k J' Z'):after ns C r x=.exc k J' Z':=gw h rfl
theorem aAp{b:List S}{hs:List (Nat×Hd)}:evS ns C J Z (.try b hs)=(match aH ns C J Z b with | .exc c J' Z'=>p8 C.sub c J' Z' hs | r=>r):=rfl
theorem aBg{b:List S}{hs:List (Nat×Hd)}{f:Fl}(h:aH ns C J Z b=.ok f J1 Z1)(h2:after ns C r (.ok f J1 Z1)=Res):aH ns C J Z (.try b hs::r)=Res:=by exact gw cL (gw aAp (gw h h2))
theorem wJ{b:List S}{hs:List (Nat×Hd)}{c:Nat}(h:aH ns C J Z b=.exc c J1 Z1)(h2:after ns C r (p8 C.sub c J1 Z1 hs)=Res):aH ns C J Z (.try b hs::r)=Res:=by exact gw cL (gw aAp (gw h h2))
theorem n8{k:Nat}:aH ns C J Z (.raise k::r)=.exc k J Z:=rfl
theorem kP{k:Nat}(h:evE ns C J e Z=.exc k Z'):aH ns C J Z (.expr e::r)=.exc k J Z':=by exact gw cL (gw a4a (gw h rfl))
theorem fF{j k:Nat}(h:evE ns C J e Z=.exc k Z'):aH ns C J Z (.a j e::r)=.exc k J Z':=by exact gw cL (gw vH (gw h rfl))
theorem aEc{k:Nat}(h:evE ns C J e Z=.exc k Z'):aH ns C J Z (.ret e::r)=.exc k J Z':=by exact gw cL (gw aBd (gw h rfl))
theorem aI:aH ns C J Z []=.ok .next J Z:=rfl
theorem bT{k:Nat}{src:Src}{body:List S}{it:It}{n:Nat}(h1:cX ns C J src Z=.ok (it,n) Z1)(h2:after ns C r (RS.thaw it (forLoop (dH k) (λJ Z=>aH ns C J Z body) n it J Z1))=Res):aH ns C J Z (.Z k src body::r)=Res:=by refine gw (cL ..) (gw (aCo ..) ?_);rw [h1,RS.ofE];exact h2
theorem lK{k k':Nat}{src:Src}{body:List S}{it:It}{n:Nat}(h1:cX ns C J src Z=.ok (it,n) Z1)(h2:after ns C r (RS.thaw it (forLoop (m8 k k') (λJ Z=>aH ns C J Z body) n it J Z1))=Res):aH ns C J Z (.forP k k' src body::r)=Res:=by refine gw (cL ..) (gw (aCx ..) ?_);rw [h1,RS.ofE];exact h2
theorem aN{fn:Fn}(hl:vs.length=fn.nargs)(h:aH ns C (vs.map some++wf (fn.n-fn.nargs) .none) Z fn.body=.ok (.ret v) J' Z'):evF ns C fn vs Z=.ok v Z':=by unfold evF;exact gw (Ua hl ..) (gw h rfl)
theorem jX{fn:Fn}{k:Nat}(hl:vs.length=fn.nargs)(h:aH ns C (vs.map some++wf (fn.n-fn.nargs) .none) Z fn.body=.exc k J' Z'):evF ns C fn vs Z=.exc k Z':=by unfold evF;exact gw (Ua hl) (gw h rfl)
theorem tS{tgt:V->Env->Option Env}{body:Env->H->RS}{n:Nat}{it:It}(h:aS it Z=some .none):forLoop tgt body n it J Z=.ok .next J Z:=by exact gw (s8 ..) (gw h rfl)
theorem uC{tgt:V->Env->Option Env}{body:Env->H->RS}{n:Nat}{it it':It}(h:aS it Z=some (some (v,it')))(ht:tgt v J=some J1)(hb:body J1 Z=.ok .next J2 Z2)(hr:forLoop tgt body n it' J2 Z2=Res):forLoop tgt body (n+1) it J Z=Res:=by refine gw (s8 ..) (gw h ?_);show uH tgt body J Z v _=_;unfold uH;refine gw ht ?_;show qN (body J1 Z) _=_;exact gw hb hr
theorem a9c{tgt:V->Env->Option Env}{body:Env->H->RS}{n:Nat}{it it':It}{R:RS}(h:aS it Z=some (some (v,it')))(ht:tgt v J=some J1)(hb:body J1 Z=R)(hk:∀k,qN R k=R):forLoop tgt body (n+1) it J Z=R:=by refine gw s8 (gw h ?_);show uH tgt body J Z v _=_;unfold uH;refine gw ht ?_;show qN (body J1 Z) _=_;exact gw hb (hk _)
noncomputable def aBk(p:Nat->Prop):Nat->Prop
 | 0=>True
 | n+1=>aBk p n/\p n
@[elab_as_elim] theorem below{motive:Nat->Prop}{w n:Nat}(h:w<n)(q:aBk motive n):motive w:=by
 induction n with
 | zero=>exact Ue h (xi _)
 | succ n ih=>exact if e:w=n then e▸q.2 else ih (xm (yz h) e) q.1
theorem a2t{i m N:Nat}(e:i+(m+1)=N):i<N:=e▸jb (jm m)
theorem zA{i m N:Nat}(e:i+(m+1)=N):i+1+m=N:=(wz i m).trans e
theorem lm{n:Nat}(h:n<=50000):n<=lim:=za h (by decide)
theorem lm1{n:Nat}(h:n<=200000):n+1<=lim:=za (zw h) (by decide)
theorem lmx{n m:Nat}(h:n<=m+1)(h':m<=200000):n<=lim:=za h (lm1 h')
theorem nz(n:Nat):-4611686018427387904<(n:Int):=wm (by decide) (zy n)
theorem ns_{n:Nat}(h:n<=200000):(n:Int)<4611686018427387904:=vp (xd.mpr h) (by decide)
theorem nlt{n m:Nat}(h:m<=n):¬(n:Int)<m:=kj.mpr (xd.mpr h)
theorem bR{tgt:V->Env->Option Env}{body:Env->H->RS}{it:Nat->It}(P:Nat->Env->H->Prop)(N:Nat)(stop:∀J Z,P N J Z->aS (it N) Z=some .none)(step:∀i J Z,i<N->P i J Z->∃v J1 J2 Z2,aS (it i) Z=some (some (v,it (i+1)))/\tgt v J=some J1/\body J1 Z=.ok .next J2 Z2/\P (i+1) J2 Z2):
  ∀(m i:Nat) (J:Env) (Z:H),i+m=N->P i J Z->∃J' Z',forLoop tgt body m (it i) J Z=.ok .next J' Z'/\P N J' Z':=by
 intro m
 induction m with
 | zero=>
  intro i J Z e p;obtain rfl:i=N:=e;exact ⟨J,Z,tS (stop J Z p),p⟩
 | succ m ih=>
  intro i J Z e p;refine ex4 (step i J Z (a2t e) p) λv J1 J2 Z2 q_h=>?_;refine an4 q_h λh1 h2 h3 h4=>?_;refine ex2 (ih (i+1) J2 Z2 (zA e) h4) λJ' Z' q_h=>?_;obtain ⟨h5,h6⟩:=q_h;exact ⟨J',Z',uC h1 h2 h3 h5,h6⟩
end
noncomputable abbrev Gr(Z Z':H):Prop:=Z <+: Z'
theorem Gr.rfl{Z:H}:Gr Z Z:=List.prefix_refl Z
theorem Gr.app(Z τ:H):Gr Z (Z++τ):=List.prefix_append Z τ
theorem Gr.tr{a b c:H}(h:Gr a b)(h':Gr b c):Gr a c:=List.IsPrefix.trans h h'
theorem Gr.at{Z Z':H}(h:Gr Z Z'){i:Nat}{o:O}(e:Z[i]?=some o):Z'[i]?=some o:=by obtain ⟨τ,rfl⟩:=h;refine gw (xn (zc.mp e).1 ..) ?_;exact e
theorem dI{Z:H}{l:Nat}{xs:List V}(h:Z[l]?=some (.list xs)):fA Z l=some xs:=by unfold fA;exact gw h rfl
theorem a1z{Z:H}{l:Nat}{xs:List (List Nat×V)}(h:Z[l]?=some (.dict xs)):oZ Z l=some xs:=by unfold oZ;exact gw h rfl
theorem a0m{Z:H}{l:Nat}{xs:List (List Nat×V)}(h:Z[l]?=some (.dict xs)):dictAt Z l=some xs:=by unfold dictAt;exact gw h rfl
theorem aE(Z:H)(o:O):(Z++[o])[Z.length]?=some o:=by refine gw (zv (zf _) ..) (gw (vz ..) ?_);rfl
theorem n5(Z:H)(o o':O):(Z++[o]).set Z.length o'=Z++[o']:=gw (fe _ _ (zf _) ..) (gw (vz ..) rfl)
theorem fO{α:Type}{Z:H}{l:Nat}{xs:List V}{f:List V->M α}(h:Z[l]?=some (.list xs)):onL l f Z=f xs Z:=by unfold onL;exact gw (dI h ..) rfl
theorem mQ{α:Type}{Z:H}{l:Nat}{xs:List (List Nat×V)}{f:List (List Nat×V)->M α}(h:Z[l]?=some (.dict xs)):onW l f Z=f xs Z:=by unfold onW;exact gw (a1z h ..) rfl
theorem s9{α:Type}{Z:H}{l:Nat}{xs:List (List Nat×V)}{f:List (List Nat×V)->M α}(h:Z[l]?=some (.dict xs)):onD l f Z=f xs Z:=by unfold onD;exact gw (a0m h ..) rfl
section
variable{ns:List Int}{C:Calls}{J:Env}{Z Z' Z1 Z2:H}
theorem pR{f:V->M (Option V)}{it:Nat->It}(P:Nat->List V->H->Prop)(N:Nat)(stop:∀acc Z,P N acc Z->aS (it N) Z=some .none)(step:∀i acc Z,i<N->P i acc Z->∃v,aS (it i) Z=some (some (v,it (i+1)))/\((∃x Z',f v Z=.ok (some x) Z'/\acc.length+1<=lim/\P (i+1) (acc++[x]) Z')∨∃Z',f v Z=.ok .none Z'/\P (i+1) acc Z')):
  ∀(m i:Nat) (acc:List V) (Z:H),i+m=N->P i acc Z->∃acc' Z',eH f m (it i) acc Z=.ok acc' Z'/\P N acc' Z':=by
 intro m
 induction m with
 | zero=>
  intro i acc Z e p;obtain rfl:i=N:=e;exact ⟨acc,Z,gw (kJ ..) (gw (stop acc Z p ..) rfl),p⟩
 | succ m ih=>
  intro i acc Z e p;obtain ⟨v,h1,h2⟩:=step i acc Z (a2t e) p;rcases h2 with ⟨x,Z',h2,hl,h3⟩ | ⟨Z',h2,h3⟩
  ·refine ex2 (ih (i+1) (acc++[x]) Z' (zA e) h3) λacc' Z'' q_h=>?_;obtain ⟨h4,h5⟩:=q_h;exact ⟨acc',Z'',by refine gw (kJ ..) (gw h1 ?_);show gat acc _ (f v Z)=_;exact gw h2 ((Ua hl).trans h4),h5⟩
  ·refine ex2 (ih (i+1) acc Z' (zA e) h3) λacc' Z'' q_h=>?_;obtain ⟨h4,h5⟩:=q_h;exact ⟨acc',Z'',by refine gw (kJ ..) (gw h1 ?_);show gat acc _ (f v Z)=_;exact gw h2 h4,h5⟩
theorem cG{α:Type}{f:V->M (Option V)}{it:Nat->It}(JJ:H->Prop)(ks:List α)(φ:α->V)(g:α->Option V)(hz:ks.length<=lim)(h0:JJ Z)(hn:∀i Z,JJ Z->aS (it i) Z=some ((ks[i]?).map λk=>(φ k,it (i+1))))(h:∀k∈ks,∀Z,JJ Z->∃Z',f (φ k) Z=.ok (g k) Z'/\JJ Z'):
  ∃Z',eH f ks.length (it 0) [] Z=.ok (ks.filterMap g) Z'/\JJ Z':=by
 refine ex2 (pR (f:=f) (it:=it) (λi acc Z'=>acc=(ks.take i).filterMap g/\JJ Z') ks.length (λacc Z' p=>by refine gw (hn _ _ p.2) (gw (vc (zf _)) ?_);rfl)
  (λi acc Z' hi p=>by
   obtain ⟨rfl,j⟩:=p;obtain ⟨Z'',e,j'⟩:=h _ (xj hi) Z' j;have tk:(ks.take (i+1)).filterMap g=(ks.take i).filterMap g++(g ks[i]).toList:=by
    rw [List.take_succ,zg hi,fg];show _++List.filterMap g [ks[i]]=_;cases hg:g ks[i] <;> rw [zac,hg] <;> rfl
   refine ⟨φ ks[i],by refine gw (hn _ _ j) (gw (zg hi) ?_);rfl,?_⟩;cases hg:g ks[i] with
   | none=>rw [hg] at e tk;exact .inr ⟨_,e,tk.symm▸(yw _).symm,j'⟩
   | some x=>rw [hg] at e tk;exact .inl ⟨x,_,e,za (Nat.succ_le_of_lt (yt (za (zau _ _) (jz _ _)) hi)) hz,tk.symm,j'⟩)
  ks.length 0 [] Z (zp _) ⟨rfl,h0⟩) λacc Z' q_h=>?_;refine an3 q_h λhg q_3 j=>?_;obtain rfl:=q_3
 replace hg:=(xb ..)▸hg;exact ⟨Z',hg,j⟩
theorem hY{α β:Type}(q:α->Bool)(ψ:α->β):∀ks:List α,ks.filterMap (λn=>if q n then some (ψ n) else .none)=(ks.filter q).map ψ:=by
 intro ks
 induction ks with
 | nil=>rfl
 | cons a l ih=>
  rw [zac,zav,ih];cases q a <;> rfl
noncomputable def vN(ns:List Int)(C:Calls)(J:Env)(elt:E)(v:V):M (Option V):=(evE ns C (J++[some v]) elt).bnd λx=>.ret (some x)
theorem kO{elt:E}{v x:V}(h:Ev ns C (J++[some v]) elt Z x Z'):vN ns C J elt v Z=.ok (some x) Z':=bI h rfl
theorem mL{src:Src}{elt:E}{it:It}{n:Nat}{xs:List V}(h1:cX ns C J src Z=.ok (it,n) Z1)(h2:eH (vN ns C J elt) n it [] Z1=.ok xs Z2):Ev ns C J (.comp src elt) Z (.ref (thaw it Z2).length) (thaw it Z2++[.list xs]):=by exact bI h1 (bI (a:=xs) (Z':=Z2) h2 rfl)
noncomputable def fIf(ns:List Int)(C:Calls)(J:Env)(elt cond:E)(v:V):M (Option V):=(evE ns C (J++[some v]) cond).bnd λt=>match t with
 | .bool true=>(evE ns C (J++[some v]) elt).bnd λx=>.ret (some x)
 | .bool false=>.ret .none
 | _=>stuck
theorem nD{elt cond:E}{v x:V}(h1:Ev ns C (J++[some v]) cond Z (.bool true) Z1)(h:Ev ns C (J++[some v]) elt Z1 x Z'):fIf ns C J elt cond v Z=.ok (some x) Z':=bI h1 (bI h rfl)
theorem mC{elt cond:E}{v:V}(h1:Ev ns C (J++[some v]) cond Z (.bool false) Z1):fIf ns C J elt cond v Z=.ok .none Z1:=bI h1 rfl
theorem eP{src:Src}{elt cond:E}{it:It}{n:Nat}{xs:List V}(h1:cX ns C J src Z=.ok (it,n) Z1)(h2:eH (fIf ns C J elt cond) n it [] Z1=.ok xs Z2):Ev ns C J (.J src elt cond) Z (.ref (thaw it Z2).length) (thaw it Z2++[.list xs]):=by exact bI h1 (bI (a:=xs) (Z':=Z2) h2 rfl)
theorem cO{e:E}{k:Int}(h:Ev ns C J e Z (.int k) Z1)(h0:-4611686018427387904<k)(h1:k<4611686018427387904):cX ns C J (.range e) Z=.ok (.range 0 k.toNat,k.toNat) Z1:=
 bI h (by show (if -4611686018427387904<k/\k<4611686018427387904 then M.ret (It.range 0 k.toNat,k.toNat) else stuck) Z1=_;exact gw (Ua ⟨h0,h1⟩ ..) rfl)
theorem bN{e:E}{l:Nat}{xs:List V}(h:Ev ns C J e Z (.ref l) Z1)(hl:Z1[l]?=some (.list xs)):cX ns C J (.of e) Z=.ok (.list l 0,xs.length) Z1:=
 bI h (by show bF ((fA Z1 l).map λxs=>(It.list l 0,xs.length)) Z1=_;exact gw (dI hl ..) rfl)
theorem uR{e:E}{l:Nat}{xs:List V}(h:Ev ns C J e Z (.ref l) Z1)(hl:Z1[l]?=some (.list xs)):cX ns C J (.enum e) Z=.ok (.enum l 0,xs.length) Z1:=
 bI h (by show bF (((fA Z1 l).map λxs=>(l,xs.length)).map λp=>(It.enum p.1 0,p.2)) Z1=_;exact gw (dI hl ..) rfl)
theorem bJ{i N:Nat}(h:i<N):aS (.range i N) Z=some (some (.int i,.range (i+1) N)):=Uf some (Ua h)
theorem cH{N:Nat}:aS (.range N N) Z=some .none:=Uf some (Ub (xg _))
theorem bE{l i:Nat}{xs:List V}{v:V}(hl:Z[l]?=some (.list xs))(h:xs[i]?=some v):aS (.list l i) Z=some (some (v,.list l (i+1))):=by unfold aS;dsimp only;exact gw (dI hl ..) (gw (gh ..) (gw h rfl))
theorem bY{l:Nat}{xs:List V}(hl:Z[l]?=some (.list xs)):aS (.list l xs.length) Z=some .none:=by unfold aS;dsimp only;refine gw (dI hl ..) (gw (gh ..) (gw (vc (zf _) ..) ?_));rfl
theorem dQ{α:Type}{l:Nat}{ks:List α}{φ:α->V}(hl:Z[l]?=some (.list (ks.map φ)))(i:Nat):aS (.list l i) Z=some ((ks[i]?).map λk=>(φ k,.list l (i+1))):=by unfold aS;dsimp only;refine gw (dI hl ..) (gw (gh ..) (gw yk (gw (Option.map_map ..) ?_)));rfl
theorem qY{l i:Nat}{xs:List V}{v:V}(hl:Z[l]?=some (.list xs))(h:xs[i]?=some v):aS (.enum l i) Z=some (some (.tup [.int i,v],.enum l (i+1))):=by unfold aS;dsimp only;exact gw (dI hl ..) (gw (gh ..) (gw h rfl))
theorem rE{l:Nat}{xs:List V}(hl:Z[l]?=some (.list xs)):aS (.enum l xs.length) Z=some .none:=by unfold aS;dsimp only;refine gw (dI hl ..) (gw (gh ..) (gw (vc (zf _) ..) ?_));rfl
theorem u0{k:Int}{n:Nat}(h0:0<=k)(h1:k.toNat<n):iA k n=some k.toNat:=by unfold iA;exact gw (Ua h0 ..) (gw (Ua h1 ..) rfl)
theorem aEx{x:List Nat}{k:Int}(h0:0<=k)(h1:k.toNat<x.length):iB ns (.str x) (.int k) Z=.ok (.str [x[k.toNat]]) Z:=by show bF (((iA k x.length).bind (x[·]?)).map λc=>V.str [c]) Z=_;refine gw (u0 h0 h1 ..) (gw (wh ..) (gw (zg h1 ..) ?_));rfl
theorem kZ{l:Nat}{xs:List V}{k:Int}{v:V}(hl:Z[l]?=some (.list xs))(h0:0<=k)(h1:xs[k.toNat]?=some v):iB ns (.ref l) (.int k) Z=.ok v Z:=by show onL l (λxs=>bF ((iA k xs.length).bind (xs[·]?))) Z=_;refine gw (fO hl ..) (gw (u0 h0 (zc.mp h1).1 ..) (gw (wh ..) (gw h1 ?_)));rfl
theorem nO{l:Nat}{kvs:List (List Nat×V)}{x:List Nat}{v:V}(hl:Z[l]?=some (.dict kvs))(h1:aW kvs x=some v):iB ns (.ref l) (.str x) Z=.ok v Z:=by show onD l (λkvs=>bF (aW kvs x)) Z=_;exact gw (s9 hl ..) (gw h1 rfl)
theorem nT{l:Nat}{xs:List V}(hl:Z[l]?=some (.list xs)):biV ns .len (.ref l) Z=.ok (.int xs.length) Z:=by show onL l (λxs=>M.ret (V.int xs.length)) Z=_;exact gw (fO hl ..) rfl
theorem sL{x y:List Nat}(h:x.length+y.length<=lim):oX .add (.str x) (.str y) Z=.ok (.str (x++y)) Z:=by show mkS (x++y) Z=_;unfold mkS;exact gw (Ua (gw (zd ..) h) ..) rfl
theorem a7v{i j:Nat}{xs ys:List V}(hi:Z[i]?=some (.list xs))(hj:Z[j]?=some (.list ys))(h:xs.length+ys.length<=lim):oX .add (.ref i) (.ref j) Z=.ok (.ref Z.length) (Z++[.list (xs++ys)]):=by show onL i (λxs=>onL j λys=>fY (xs++ys)) Z=_;rw [fO hi,fO hj,eU (by rw [zd];exact h)]
theorem lO{α:Type}(xs:List α)(lo hi:Option Int):(cut xs lo hi).length<=xs.length:=by unfold cut;exact za (xt ..) (gp _ _).length_le
theorem slS{x:List Nat}{a b:V}{lo hi:Option Int}(ha:jN a=some lo)(hb:jN b=some hi)(h:x.length<=lim):gV ns (.str x) a b Z=.ok (.str (cut x lo hi)) Z:=by unfold gV;refine gw ha (gw hb ?_);show mkS (cut x lo hi) Z=_;unfold mkS;exact gw (Ua (za (lO _ _ _) h) ..) rfl
theorem slL{l:Nat}{xs:List V}{a b:V}{lo hi:Option Int}(hl:Z[l]?=some (.list xs))(ha:jN a=some lo)(hb:jN b=some hi)(h:xs.length<=lim):gV ns (.ref l) a b Z=.ok (.ref Z.length) (Z++[.list (cut xs lo hi)]):=by unfold gV;refine gw ha (gw hb ?_);show onL l (λxs=>fY (cut xs lo hi)) Z=_;exact gw (fO hl ..) (gw (eU (za (lO _ _ _) h) ..) rfl)
theorem qF{x y:Int}(h:y≠0):oX .mod (.int x) (.int y) Z=.ok (.int (x.fmod y)) Z:=by show (if y=0 then stuck else M.ret (V.int (x.fmod y))) Z=_;exact gw (Ub h ..) rfl
end
end Mine.Internal.P
namespace Mine.Internal.L11
open PySem Mine.Internal.P
section
variable{ns:List Int}{C:Calls}{Z Z':H}
noncomputable def val:Option Int->V
 | .none=>.none
 | some i=>.int i
theorem aIg(x y:Int)(hy:small y=true):oX .mul (.int x) (.int y) Z=.ok (.int (x*y)) Z:=by show (if (small x || small y)=true then M.ret (V.int (x*y)) else stuck) Z=_;exact gw hy (gw (zbr ..) rfl)
theorem a4q(x:Int):evF ns C qQ [.int x] Z=.ok (.int ((x*48271+7919).fmod 2147483647)) Z:=by
 apply aN rfl;apply aP;apply bB;apply bB;apply bB rfl rfl (aIg x _ rfl)
 all_goals exact rfl
theorem a3d(x y:Int):eA .lt (.int x) (.int y) Z=.ok (.bool (decide (x<y))) Z:=rfl
theorem aAl(k:Nat):evF ns C nK [.scr,.int k] Z=.ok (.int (ns.getD k 0)) Z:=by
 by_cases h:k<ns.length
 ·apply aN rfl;apply bU
  ·apply aM rfl (bD rfl rfl);apply (a3d _ _).trans;exact gw (Uc (uc.mpr h:(k:Int)<ns.length) ..) rfl
  ·apply aU;apply aP;apply aK rfl rfl;show bF (((iA k ns.length).bind (ns[·]?)).map V.int) Z=_;have e:iA k ns.length=some k:=by unfold iA;exact gw (Ua (zy k) ..) (gw (xa ..) (gw (Ua h ..) rfl))
   refine gw e ?_;show bF ((ns[k]?).map V.int) Z=_;refine gw (zaj ..) (gw (zg h ..) ?_);rfl
 ·apply aN rfl;apply aL
  ·apply aM rfl (bD rfl rfl);apply (a3d _ _).trans;exact gw (Ud (λq=>h (uc.mp q):¬(k:Int)<ns.length)) rfl
  ·apply aP;refine gw (zaj ..) (gw (vc (yf.mp h) ..) ?_);rfl
theorem a3y(x y:List Nat):evF ns C nL [.str x,.str y] Z=.ok (.bool (pre y x)) Z:=rfl
theorem eqI(i j:Int):eA .eq (.int i) (.int j) Z=.ok (.bool (decide (i=j))) Z:=rfl
theorem eqS(x y:List Nat):eA .eq (.str x) (.str y) Z=.ok (.bool (decide (x=y))) Z:=rfl
theorem a8r(h0:∀i Z,C.call 11 [.int i] Z=.ok (.bool true) Z)(s t:Option Int):evF ns C tT [val s,val t] Z=.ok (.bool (decide (s=t))) Z:=by
 cases s with
 | none=>cases t <;> rfl
 | some i=>
  cases t with
  | none=>rfl
  | some j=>
   apply aN rfl;apply aL rfl;apply aP;apply hU (aG rfl (h0 i Z));apply jR;apply aM rfl rfl;apply (eqI i j).trans;congr 2;exact decide_eq_decide.mpr ⟨λq=>gw q rfl,λq=>by injection q⟩
theorem dA(x:Int){y:Int}(h:0<y):0<=x.fmod y/\x.fmod y<y:=⟨Int.fmod_nonneg_of_pos _ h,Int.fmod_lt_of_pos _ h⟩
noncomputable def inR:Option Int->Prop
 | .none=>True
 | some i=>-10 ^ 30<=i/\i<=10 ^ 30
theorem a3s(x:Int):∃t,inR t/\∀Z,∃Z',evF ns C i8 [.int x] Z=.ok (val t) Z'/\Gr Z Z':=by
 have q:∀(k:Int) (Z:H),Ev ns C [rI x] (.g .eq (.o .mod (.v 0) (.k (V.int 7))) (.k (V.int k))) Z (.bool (decide (x.fmod 7=k))) Z:=λk Z=>aM rfl rfl (eqI _ _);by_cases h3:x.fmod 7=3
 ·exact ⟨none,trivial,λZ=>⟨Z,aN rfl (bU ((q 3 Z).trans (gw (Uc h3 ..) rfl)) (aU (aP rfl))),Gr.rfl⟩⟩
 ·have h3':=λZ=>(q 3 Z).trans (gw (Ud h3 ..) rfl);by_cases h4:x.fmod 7=4
  ·have e:=dA (x.fdiv 7) (y:=5) (by decide);have h4':=λZ=>(q 4 Z).trans (gw (Uc h4 ..) rfl);have hl:∀Z,Ev ns C [rI x] (.list [(.k (V.int 0)),(.k (V.int 1)),(.neg (.k (V.int 1))),(.o (.pow ()) (.k (V.int 10)) (.k (V.int 30))),(.neg (.o (.pow ()) (.k (V.int 10)) (.k (V.int 30))))]) Z (.ref Z.length) (Z++[.list [.int 0,.int 1,.int (-1),.int (10 ^ 30),.int (-10 ^ 30)]]):=λZ=>bV rfl (by decide);have hi:∀(j:Int) (t:Int),(x.fdiv 7).fmod 5=j->((iA j 5).bind ([V.int 0,V.int 1,V.int (-1),V.int (10 ^ 30),V.int (-10 ^ 30)][·]?))=rI t->inR (some t) ->
     ∃t',inR t'/\∀Z,∃Z',evF ns C i8 [.int x] Z=.ok (val t') Z'/\Gr Z Z':=λj t hj ht hr=>
    ⟨some t,hr,λZ=>⟨_,aN rfl (aL (h3' Z) (bU (h4' Z) (aU (aP (aK (hl Z) rfl (show iB ns (.ref Z.length) (.int ((x.fdiv 7).fmod 5)) _=_ from by
     refine gw hj ?_;unfold iB;dsimp only;refine gw (fO (aE _ _) ..) ?_;show bF ((iA j 5).bind _) _=_;exact gw ht rfl)))))),Gr.app _ _⟩⟩
   have e1:=(jn (n:=5) e.1).mpr e.2;have e2:=Int.toNat_of_nonneg e.1;exact below (motive:=λn=>(n:Int)=(x.fdiv 7).fmod 5->_) e1 ⟨⟨⟨⟨⟨trivial,λe=>hi 0 0 e.symm rfl (by unfold inR;decide)⟩,λe=>hi 1 1 e.symm rfl (by unfold inR;decide)⟩,λe=>hi 2 (-1) e.symm rfl (by unfold inR;decide)⟩,λe=>hi 3 (10 ^ 30) e.symm rfl (by unfold inR;decide)⟩,λe=>hi 4 (-10 ^ 30) e.symm rfl (by unfold inR;decide)⟩ e2
  ·have h4':=λZ=>(q 4 Z).trans (gw (Ud h4 ..) rfl);by_cases h5:x.fmod 7=5
   ·have h5':=λZ=>(q 5 Z).trans (gw (Uc h5 ..) rfl);exact ⟨some _,by have q:=dA (x.fdiv 7) (y:=9) (by decide);exact ⟨km (by decide) q.1,km (kn q.2) (by decide)⟩,λZ=>⟨Z,aN rfl (aL (h3' Z) (aL (h4' Z) (bU (h5' Z) (aU (aP rfl))))),Gr.rfl⟩⟩
   ·have h5':=λZ=>(q 5 Z).trans (gw (Ud h5 ..) rfl);have hb:=dA (x.fdiv 7) (y:=2000000000000000000000000000001) (by decide);exact ⟨some ((x.fdiv 7).fmod 2000000000000000000000000000001-1000000000000000000000000000000),⟨zbb hb.1 1000000000000000000000000000000,zbb (fj hb.2:_<=(2000000000000000000000000000000:Int)) 1000000000000000000000000000000⟩,λZ=>⟨Z,aN rfl (aL (h3' Z) (aL (h4' Z) (aL (h5' Z) (aP rfl)))),Gr.rfl⟩⟩
end
noncomputable def cQ:List Nat:=Nb
noncomputable def Sg(x:List Nat):Prop:=∀c∈x,cQ.contains c=true
noncomputable def Nm(x:List Nat):Prop:=1<=x.length/\x.length<=12/\Sg x
theorem Sg.app{x y:List Nat}(h:Sg x)(h':Sg y):Sg (x++y):=λc hc=>(yh.mp hc).elim (h c) (h' c)
theorem Sg.cut{x:List Nat}(h:Sg x)(lo hi:Option Int):Sg (cut x lo hi):=λc hc=>h c (ug (wn hc))
theorem Sg.one{c:Nat}(h:cQ.contains c=true):Sg [c]:=λd hd=>ze.mp hd▸h
theorem iN{α:Type}(x:List α){k:Int}(h:0<=k):cut x .none (some k)=x.take k.toNat:=by
 show (x.drop 0).take (gB k x.length-0)=_;unfold gB;refine gw (Ua h ..) (gw (List.drop_zero ..) (gw (fk ..) ?_));by_cases q:k.toNat<=x.length
 ·exact gw (yo q ..) rfl
 ·have q:=yd (wc q);exact gw (vq q ..) (gw (xb ..) (gw (xu q ..) rfl))
theorem a6c{α:Type}(x:List α){k:Int}(h:0<=k):(cut x (some k) .none).length<=x.length-k.toNat:=by
 show ((x.drop (gB k x.length)).take (x.length-gB k x.length)).length<=_;refine za (xt _ _) ?_;unfold gB;refine gw (Ua h ..) (gw (ue ..) ?_);rcases fo k.toNat x.length with q | q
 ·exact gw (yo q ..) (zf _)
 ·exact gw (vq q ..) (gw (vz ..) (yj _))
theorem Nm.head{x:List Nat}(h:Sg x)(h1:1<=x.length){k:Int}(hk:1<=k)(hl:k<=12∨x.length<=12):Nm (cut x .none (some k)):=by
 have hz:0<=k:=km (by decide) hk;have e:=iN x (k:=k) hz;refine ⟨?_,?_,h.cut _ _⟩
 ·exact gw e (gw (xo ..) (Nat.le_min.mpr ⟨(Int.le_toNat (n:=1) hz).mpr hk,h1⟩))
 ·exact gw e (gw (xo ..) (hl.elim (λq=>za (fq _ _) (zaw (n:=12).mpr q)) (za (ju _ _))))
section
variable{ns:List Int}{C:Calls}{Z Z':H}
theorem xV(x:Int):∃c,iB ns (.str cQ) (.int (x.fmod 37)) Z=.ok (.str [c]) Z/\cQ.contains c=true:=by obtain ⟨h1,h2⟩:=dA x (y:=37) (by decide);exact ⟨_,aEx (x:=cQ) h1 ((jn (n:=37) h1).mpr h2),za5.mpr (xj _)⟩
theorem a6p(h12:∀x Z,∃y:Int,C.call 13 [.int x] Z=.ok (.int y) Z)(c:Int):∃x,evF ns C j8 [.int c] Z=.ok (.str x) Z/\Nm x:=by
 obtain ⟨g1,g2⟩:=dA c (y:=12) (by decide);have hN:(1+c.fmod 12).toNat<=12/\1<=(1+c.fmod 12).toNat:=⟨zaw (n:=12).mpr (Int.add_le_add_left (fj g2:_<=(11:Int)) 1),(Int.le_toNat (n:=1) (zaf (by decide) g1)).mpr (zak g1)⟩;obtain ⟨J',Z',h,x,m,o,hx,hs,hρ,rfl⟩:=bR (tgt:=dH 4) (body:=λJ Z=>aH ns C J Z [.a 3 (.call 13 [(.v 3)]),.a 2 (.o .add (.v 2) (.i (.v 1) (.o .mod (.v 3) (.k (V.int 37)))))]) (it:=λi=>.range i (1+c.fmod 12).toNat)
  (λi J Z'=>∃(x:List Nat) (m:Int) (o:Option V),x.length=i/\Sg x/\J=[rI c,rS cQ,rS x,rI m,o]/\Z'=Z) (1+c.fmod 12).toNat (λz z z=>cH)
  (λi J Z' hi p=>by
   refine ex3 (p) λx m o q_h=>?_;refine an4 q_h λhx hs q_5 q_6=>?_;obtain rfl:=q_5;obtain rfl:=q_6;obtain ⟨y,hy⟩:=h12 m Z';obtain ⟨d,hd,hds⟩:=xV (ns:=ns) (Z:=Z') y;refine ⟨_,_,_,_,bJ hi,rfl,aA (aG rfl hy) rfl (aA (bB rfl (aK rfl rfl hd) (sL (x:=x) (y:=[d]) ?_)) rfl aI),x++[d],y,_,?_,hs.app (.one hds),rfl,rfl⟩
   ·exact gw hx (za hi (za hN.1 (by decide)))
   ·exact gw (zd ..) (gw hx rfl))
  (1+c.fmod 12).toNat 0 [rI c,rS cQ,rS [],rI c,.none] Z (zp _) ⟨[],c,_,rfl,(λz h=>Ue h yl),rfl,rfl⟩
 subst hρ;refine ⟨x,aN (fn:=j8) (vs:=[.int c]) rfl (aA (v:=.str cQ) rfl rfl (aA rfl rfl (aA rfl rfl (bT (cO (k:=1+c.fmod 12) rfl (wm (by decide) (zaf (by decide) g1)) (ft (Int.add_lt_add_left g2 1) (by decide))) (aB h (aP rfl)))))),hx▸hN.2,hx▸hN.1,hs⟩
theorem aHn(x:List Nat)(c:Nat):meV (.str x) (.find ()) [.str [c]] Z=.ok (.int (l8 c x 0)) Z:=rfl
theorem a2b{A B T n:Nat}(h1:A<=T)(h2:B<=n-(T+1))(h3:T<n)(h4:n<=12):A+1+B<=12:=za (yy (zw h1) h2) (za (zu (ul h3)) h4)
theorem a9v{x:List Nat}(hx:Nm x)(c:Int):∃y,evF ns C p6 [.str x,.int c] Z=.ok (.str y) Z/\Nm y:=by
 refine an3 (hx) λh1 h2 hs=>?_;have hp:(0:Int)<x.length:=gi.mpr h1;obtain ⟨g1,g2⟩:=dA c (y:=x.length) hp;have hT:(c.fmod x.length).toNat<x.length:=(jn g1).mpr g2;have hz:x.length<=lim:=za h2 (by decide);obtain ⟨d,hd,hds⟩:=xV (ns:=ns) (Z:=Z) (l8 x[(c.fmod x.length).toNat] cQ 0+1+(c.fdiv 12).fmod 36);have c1:(cut x .none (some (c.fmod x.length))).length<=(c.fmod x.length).toNat:=gw (iN x g1 ..) (jz _ _);have c2:=a6c x (k:=c.fmod x.length+1) (zaf g1 (by decide));rw [Int.toNat_add g1 (by decide)] at c2;have ky:=a2b c1 c2 hT h2;refine ⟨_,aN (fn:=p6) (vs:=[.str x,.int c]) rfl (aA (v:=.str cQ) rfl rfl (aA (v:=.int (c.fmod x.length)) (bB rfl (bD rfl rfl) (qF (kr hp))) rfl (aA (v:=.int (l8 x[(c.fmod x.length).toNat] cQ 0+1+(c.fdiv 12).fmod 36)) (bB (bB (fZ rfl rfl (a9 (aK rfl rfl (aEx g1 hT))) (aHn _ _)) rfl rfl) rfl rfl) rfl
  (aP (bB (bB (cJ rfl rfl rfl (slS (lo:=.none) (hi:=some (c.fmod x.length)) rfl rfl hz)) (aK rfl rfl hd) (sL ?_)) (cJ rfl rfl rfl (slS (lo:=some (c.fmod x.length+1)) (hi:=.none) rfl rfl hz)) (sL ?_)))))),?_,?_,((hs.cut _ _).app (.one hds)).app (hs.cut _ _)⟩
 ·exact za (zt _ _) (za ky (by decide))
 ·exact gw (zd ..) (za ky (by decide))
 ·exact gw (zd ..) (gw (zd ..) (za (kf 1 _) (zt _ _)))
 ·exact gw (zd ..) (gw (zd ..) ky)
end
noncomputable def isN(v:V):Prop:=∃x,v=.str x/\Nm x
noncomputable def i9(xs:List V):Prop:=∀v∈xs,isN v
theorem i9.app{xs ys:List V}(h:i9 xs)(h':i9 ys):i9 (xs++ys):=λv hv=>(yh.mp hv).elim (h v) (h' v)
theorem i9.cut{xs:List V}(h:i9 xs)(lo hi:Option Int):i9 (cut xs lo hi):=λv hv=>h v (ug (wn hv))
theorem i9.nil:i9 []:=λz h=>Ue h yl
theorem i9.cons{x:List Nat}{xs:List V}(h:Nm x)(h':i9 xs):i9 (.str x::xs):=λv hv=>(ye.mp hv).elim (λe=>⟨x,e,h⟩) (h' v)
section
variable{ns:List Int}{C:Calls}{Z Z':H}
theorem aIh{i:Nat}(h:i<1000):biV ns .str (.int i) Z=.ok (.str (mZ i)) Z:=by show (if (0:Int)<=i/\(i:Int)<1000 then M.ret (V.str (mZ (i:Int).toNat)) else stuck) Z=_;exact gw (Ua ⟨zy i,uc.mpr h⟩ ..) rfl
theorem a5f(i:Nat):(mZ i).length<=3:=by unfold mZ;split <;> (try split) <;> simp
theorem pG:∀d:Nat,d<10->cQ.contains (48+d)=true:=by decide
theorem aAa{i:Nat}(h:i<1000):Sg (mZ i):=by
 have d0:=pG (i % 10) (Nat.mod_lt _ (by decide));have d1:=pG (i / 10 % 10) (Nat.mod_lt _ (by decide));unfold mZ;refine ic ite_ (λq=>?_) λz=>?_
 ·exact .one (pG i q)
 ·refine ic ite_ (λq=>?_) λz=>?_
  ·exact Sg.app (x:=[_]) (.one (pG (i / 10) (zbc q))) (.one d0)
  ·exact Sg.app (x:=[_]) (.one (pG (i / 100) (zbc h))) (Sg.app (x:=[_]) (.one d1) (.one d0))
theorem aAb(h13:∀c Z,∃x,C.call 14 [.int c] Z=.ok (.str x) Z/\Nm x)(h14:∀x c Z,Nm x->∃y,C.call 15 [.str x,.int c] Z=.ok (.str y) Z/\Nm y)(a b:Int):
  ∃l xs Z',evF ns C lQ [.int a,.int b] Z=.ok (.ref l) Z'/\Gr Z Z'/\Z'[l]?=some (.list xs)/\xs≠[]/\xs.length<=137/\i9 xs:=by
 have hl:∀{n m:Nat},n<=m->(m.ble 50000=true)->n<=lim:=λh h'=>za h (za (wy h') (by decide));obtain ⟨x,hx,nx⟩:=h13 a Z;refine an3 (nx) λx1 x2 sx=>?_;obtain ⟨y,hy,ny⟩:=h13 b Z;refine an3 (ny) λy1 y2 sy=>?_;obtain ⟨t,ht,t2⟩:=h14 x b Z ⟨x1,x2,sx⟩;have A1:x.length+y.length<=24:=yy x2 y2;have A2:y.length+1<=13:=yx y2 1;have A3:(y++[97]).length+x.length<=25:=gw (zd ..) (yy A2 x2);have hp:(0:Int)<x.length:=gi.mpr x1;have b1:=(dA b hp).1;obtain ⟨m1,m2⟩:=dA (a.fdiv 7) (y:=7) (by decide);let L1:List V:=[.str x,.str t,.str y,.str (cut (x++y) .none (some 12)),.str (cut x .none (some (1+b.fmod x.length)))];let L2:List V:=[.str (cut (y++[46]) .none (some 12)),.str (cut ((y++[97])++x) .none (some 12))];have n1:i9 L1:=.cons ⟨x1,x2,sx⟩ (.cons t2 (.cons ⟨y1,y2,sy⟩ (.cons (.head (sx.app sy) (gw (zd ..) (za x1 (zt _ _))) (by decide) (.inl (by decide))) (.cons (.head sx x1 (zak b1) (.inr x2)) .nil))));have n2:i9 L2:=.cons (.head (sy.app (.one rfl)) (gw (zd ..) (kf _ _)) (by decide) (.inl (by decide))) (.cons (.head ((sy.app (.one rfl)).app sx) (gw (zd ..) (za x1 (kf _ _))) (by decide) (.inl (by decide))) .nil);let L3:List V:=cut (L1++L2) .none (some (1+(a.fdiv 7).fmod 7));have n3:i9 L3:=(n1.app n2).cut _ _;have l3:L3.length<=7:=lO (L1++L2) _ _;have p3:L3≠[]:=λq=>by
  have e:L3=(L1++L2).take (1+(a.fdiv 7).fmod 7).toNat:=iN _ (zaf (by decide) m1);rw [q,Int.toNat_add (by decide) m1,uz] at e;cases e
 let Z1:=Z++[.list L1];let Z2:=Z1++[.list L2];let Z3:=Z2++[.list (L1++L2)];let Z4:=Z3++[.list L3];have G4:Gr Z Z4:=((Gr.app Z _).tr (Gr.app Z1 _)).tr ((Gr.app Z2 _).tr (Gr.app Z3 _));have S1:Ev ns C [rI a,rI b,rS x,rS y,.none] (.list [(.v 2),(.call 15 [(.v 2),(.v 1)]),(.v 3),(.slice (.o .add (.v 2) (.v 3)) .nil (.k (V.int 12))),(.slice (.v 2) .nil (.o .add (.k (V.int 1)) (.o .mod (.v 1) (.bi .len (.v 2)))))]) Z (.ref Z.length) Z1:=
  bV (aQ rfl (aQ (aG rfl ht) (aQ rfl (bW (cJ (bB rfl rfl (sL (hl A1 rfl))) rfl rfl (slS (lo:=.none) (hi:=some 12) rfl rfl (gw (zd ..) (hl A1 rfl))))
   (cJ rfl rfl (bB rfl (bB rfl (bD rfl rfl) (qF (kr hp))) rfl) (slS (lo:=.none) (hi:=some (1+b.fmod x.length)) rfl rfl (hl x2 rfl))))))) (hl (zf 5) rfl)
 have S2:Ev ns C [rI a,rI b,rS x,rS y,rF Z.length] (.slice (.o .add (.v 4) (.list [(.slice (.o .add (.v 3) (.k (V.str [46]))) .nil (.k (V.int 12))),(.slice (.o .add (.o .add (.v 3) (.k (V.str [97]))) (.v 2)) .nil (.k (V.int 12)))])) .nil (.o .add (.k (V.int 1)) (.o .mod (.o .fdiv (.v 0) (.k (V.int 7))) (.k (V.int 7))))) Z1 (.ref Z3.length) Z4:=
  cJ (bB rfl (bV (bW (cJ (bB rfl rfl (sL (hl A2 rfl))) rfl rfl (slS (lo:=.none) (hi:=some 12) rfl rfl (gw (zd ..) (hl A2 rfl))))
   (cJ (bB (bB rfl rfl (sL (hl A2 rfl))) rfl (sL (hl A3 rfl))) rfl rfl (slS (lo:=.none) (hi:=some 12) rfl rfl (gw (zd ..) (hl A3 rfl))))) (hl (zf 2) rfl))
   (a7v ((Gr.app Z1 _).at (aE Z _)) (aE Z1 _) (hl (zf 7) rfl))) rfl rfl (slL (aE Z2 _) rfl rfl (hl (zf 7) rfl))
 have Q:Ev ns C [rI a,rI b,rS x,rS y,rF Z3.length] (.g .eq (.o .mod (.o .fdiv (.v 1) (.k (V.int 7))) (.k (V.int 4))) (.k (V.int 1))) Z4 (.bool (decide ((b.fdiv 7).fmod 4=1))) Z4:=aM rfl rfl (eqI _ _);by_cases hq:(b.fdiv 7).fmod 4=1
 ·obtain ⟨w1,w2⟩:=dA (b.fdiv 28) (y:=130) (by decide);have w3:((b.fdiv 28).fmod 130).toNat<130:=(jn (n:=130) w1).mpr w2;refine ex2 (pR (f:=vN ns C [rI a,rI b,rS x,rS y,rF Z3.length] (.o .add (.k (V.str [110])) (.bi .str (.v 5)))) (it:=λi=>.range i ((b.fdiv 28).fmod 130).toNat)
   (λi acc Z'=>acc.length=i/\i9 acc/\Z'=Z4) ((b.fdiv 28).fmod 130).toNat (λz z z=>cH)
   (λi acc Z' hi p=>by
    refine an3 (p) λh1 h2 q_2=>?_;obtain rfl:=q_2;have hi':i<130:=ke hi w3;have d:=yg (a5f i) 1;refine ⟨_,bJ hi,.inl ⟨.str ([110]++mZ i),Z4,kO (bB rfl (bD rfl (aIh (ke hi' (by decide)))) (sL (hl d rfl))),h1▸hl hi' rfl,gw (zd ..) (gw h1 rfl),h2.app (.cons ⟨gw (zd ..) (zt _ _),gw (zd ..) (za d (by decide)),Sg.app (.one rfl) (aAa (ke hi' (by decide)))⟩ .nil),rfl⟩⟩)
   ((b.fdiv 28).fmod 130).toNat 0 [] Z4 (zp _) ⟨rfl,.nil,rfl⟩) λacc Z' q_h=>?_;refine an4 q_h λhg hacc nacc q_5=>?_;obtain rfl:=q_5
  have l4:L3.length+acc.length<=137:=yy l3 (hacc▸yd w3);refine ⟨_,L3++acc,_,aN (fn:=lQ) (vs:=[.int a,.int b]) rfl (aA (aG rfl hx) rfl (aA (aG rfl hy) rfl (aA S1 rfl (aA S2 rfl (bU (Q.trans (gw (Uc hq ..) rfl)) (aB (aA (bB rfl (mL (cO (k:=(b.fdiv 28).fmod 130) rfl (wm (by decide) w1) (ft w2 (by decide))) hg) (a7v ((Gr.app Z4 _).at (aE Z3 _)) (aE Z4 _) (hl l4 rfl))) rfl aI) (aP rfl))))))),(G4.tr (Gr.app Z4 _)).tr (Gr.app _ _),aE _ _,λq=>p3 (List.append_eq_nil_iff.mp q).1,gw (zd ..) l4,n3.app nacc⟩
 ·exact ⟨Z3.length,L3,Z4,aN (fn:=lQ) (vs:=[.int a,.int b]) rfl (aA (aG rfl hx) rfl (aA (aG rfl hy) rfl (aA S1 rfl (aA S2 rfl (aL (Q.trans (gw (Ud hq ..) rfl)) (aP rfl)))))),G4,aE Z3 _,p3,za l3 (by decide),n3⟩
end
noncomputable abbrev Ws:=List (List Nat×Option Int)
noncomputable abbrev Kv:=List (List Nat×V)
noncomputable def wV(ws:Ws):List V:=ws.map λp=>.tup [.str p.1,val p.2]
noncomputable def wE(ws:Ws):Kv:=ws.map λp=>(p.1,val p.2)
noncomputable def put(d:Kv)(ws:Ws):Kv:=aZ d (wE ws)
noncomputable def get(d:Kv)(n:List Nat):V:=(aW d n).getD .none
noncomputable def pS(o:Option V)(ws:Ws)(n:List Nat):Option V:=ws.foldl (λa q=>if q.1=n then some (val q.2) else a) o
theorem rM(k n:List Nat)(v:V):∀d:Kv,aW (bP d k v) n=if k=n then some v else aW d n:=by
 intro d
 induction d with
 | nil=>
  show (if k=n then some v else .none)=_;rfl
 | cons p_ r ih=>
  obtain ⟨a,x⟩:=p_;show aW (if a=k then (a,v)::r else (a,x)::bP r k v) n=if k=n then some v else (if a=n then some x else aW r n);by_cases h:a=k
  ·refine gw (Ua h ..) ?_;show (if a=n then some v else aW r n)=_;refine gw h ?_;split <;> rfl
  ·refine gw (Ub h ..) ?_;show (if a=n then some x else aW (bP r k v) n)=_;refine gw ih ?_;by_cases h1:a=n
   ·exact gw (Ua h1 ..) (gw (Ub (λq=>h (h1.trans q.symm))) (gw (Ua h1 ..) rfl))
   ·exact gw (Ub h1 ..) (gw (Ub h1 ..) rfl)
theorem f0(k:List Nat)(v:V):∀d:Kv,(bP d k v).length<=d.length+1:=by
 intro d
 induction d with
 | nil=>
  exact zf _
 | cons p_ r ih=>
  obtain ⟨a,x⟩:=p_;show (if a=k then (a,v)::r else (a,x)::bP r k v).length<=_;refine ic ite_ (λz=>?_) λz=>?_
  ·exact yi _
  ·exact zw (ih)
theorem tZ(d:Kv)(ws:Ws)(p:List Nat×Option Int):put d (ws++[p])=bP (put d ws) p.1 (val p.2):=by unfold put wE aZ;exact gw (xc ..) (gw (vw ..) rfl)
theorem xN(n:List Nat):∀(ws:Ws) (d:Kv),aW (put d ws) n=pS (aW d n) ws n:=by
 intro ws
 induction ws with
 | nil=>
  intro _;exact rfl
 | cons p ws ih=>
  intro d;show aW (put (bP d p.1 (val p.2)) ws) n=pS (if p.1=n then some (val p.2) else aW d n) ws n;rw [ih,rM]
theorem iE(ws:Ws)(d:Kv):(put d ws).length<=d.length+ws.length:=by
 induction ws generalizing d with
 | nil=>exact zf _
 | cons p ws ih=>
  refine za (ih (bP d p.1 (val p.2))) ?_;have:=f0 p.1 (val p.2) d;exact za (yx this _) (zu (wz _ _))
section
variable{ns:List Int}{C:Calls}{Z Z':H}
theorem uY{ws:Ws}{i:Nat}(h:i<ws.length):(wV ws)[i]?=some (.tup [.str ws[i].1,val ws[i].2]):=by unfold wV;refine gw (yk ..) (gw (zg h ..) ?_);rfl
theorem bM{α:Type}(l:List α){i:Nat}(h:i<l.length):l.take (i+1)=l.take i++[l[i]]:=by refine gw (List.take_succ ..) (gw (zg h ..) ?_);rfl
theorem setD{l:Nat}{kvs:Kv}{x:List Nat}{v:V}(hl:Z[l]?=some (.dict kvs))(h:(bP kvs x v).length<=lim):pF (.ref l) (.str x) v Z=.ok .none (Z.set l (.dict (bP kvs x v))):=by show onW l (λkvs=>fN l (bP kvs x v)) Z=_;refine gw (mQ hl ..) ?_;unfold fN;rw [Ua h]
theorem a0q{l:Nat}{ws:Ws}(hl:Z[l]?=some (.list (wV ws)))(hz:ws.length<=50000):evF ns C gX [.ref l] Z=.ok (.ref Z.length) (Z++[.dict (put [] ws)]):=by
 obtain ⟨J',Z',h,o,o',rfl,rfl⟩:=bR (tgt:=m8 2 3) (body:=λJ Z=>aH ns C J Z [.T (.v 1) (.v 2) (.v 3)]) (it:=λi=>.list l i)
  (λi J Z'=>∃o o':Option V,J=[rF l,rF Z.length,o,o']/\Z'=Z++[.dict (put [] (ws.take i))]) (wV ws).length
  (λJ Z' p=>by obtain ⟨o,o',rfl,rfl⟩:=p;exact bY ((Gr.app Z _).at hl))
  (λi J Z' hi p=>by
   obtain ⟨o,o',rfl,rfl⟩:=p;have hi':i<ws.length:=by rw [wV,zb] at hi;exact hi
   have e:=tZ [] (ws.take i) ws[i];replace e:=(bM ws hi' ..)▸e;exact ⟨_,_,_,_,bE ((Gr.app Z _).at hl) (uY hi'),rfl,iR rfl rfl rfl (setD (aE Z _) (bw e (za (iE _ []) (za (yg (za (xt _ _) hz) _) (by decide))))) aI,_,_,rfl,(gw (n5 ..) (bw e rfl))⟩)
  (wV ws).length 0 [rF l,rF Z.length,.none,.none] (Z++[.dict []]) (zp _) ⟨_,_,rfl,rfl⟩
 rw [wV,zb,xb] at h;exact aN (fn:=gX) (vs:=[.ref l]) rfl (aA (v:=.ref Z.length) rfl rfl (lK (bN rfl ((Gr.app Z _).at hl)) (aB (by rw [wV,zb];exact h) (aP rfl))))
noncomputable def LP(ws:Ws)(n:List Nat)(i:Nat)(p:Int):Prop:=(p=-1/\pS .none (ws.take i) n=.none)∨∃(j:Nat) (t:Option Int),p=j/\ws[j]?=some (n,t)/\pS .none (ws.take i) n=some (val t)
theorem zR{ws:Ws}{i:Nat}(h:i<ws.length)(n:List Nat):pS .none (ws.take (i+1)) n=if ws[i].1=n then some (val ws[i].2) else pS .none (ws.take i) n:=by refine gw (bM ws h ..) ?_;unfold pS;exact gw (vw ..) rfl
theorem a1m{l:Nat}{ws:Ws}(hl:Z[l]?=some (.list (wV ws)))(hz:ws.length<=50000)(n:List Nat):∃p,evF ns C iI [.ref l,.str n] Z=.ok (.int p) Z/\LP ws n ws.length p:=by
 obtain ⟨J',Z',h,p,o,hp,rfl,rfl⟩:=bR (tgt:=dH 3) (body:=λJ Z=>aH ns C J Z [.x (.g .eq (.i (.i (.v 0) (.v 3)) (.k (V.int 0))) (.v 1)) [.a 2 (.v 3)] []]) (it:=λi=>.range i ws.length)
  (λi J Z'=>∃(p:Int) (o:Option V),LP ws n i p/\J=[rF l,rS n,rI p,o]/\Z'=Z) ws.length (λz z z=>cH)
  (λi J Z' hi p=>by
   obtain ⟨p,o,hp,rfl,rfl⟩:=p;have hc:Ev ns C [rF l,rS n,rI p,rI i] (.g .eq (.i (.i (.v 0) (.v 3)) (.k (V.int 0))) (.v 1)) Z' (.bool (decide (ws[i].1=n))) Z':=
    aM (aK (aK rfl rfl (kZ hl (zy i) (uY hi))) rfl rfl) rfl (eqS _ _)
   have lt:=zR hi n;by_cases hq:ws[i].1=n
   ·refine ⟨_,_,_,_,bJ hi,rfl,bU (hc.trans (gw (Uc hq ..) rfl)) (aB (aA rfl rfl aI) aI),i,_,.inr ⟨i,ws[i].2,rfl,?_,?_⟩,rfl,rfl⟩
    ·exact gw (zg hi ..) (bw hq rfl)
    ·exact gw lt (gw (Ua hq ..) rfl)
   ·refine ⟨_,_,_,_,bJ hi,rfl,aL (hc.trans (gw (Ud hq ..) rfl)) aI,p,_,?_,rfl,rfl⟩;unfold LP;exact gw lt (gw (Ub hq ..) hp))
  ws.length 0 [rF l,rS n,rI (-1),.none] Z (zp _) ⟨-1,_,.inl ⟨rfl,rfl⟩,rfl,rfl⟩
 have hs:cX ns C [rF l,rS n,rI (-1),.none] (.range (.bi .len (.v 0))) Z'=.ok (.range 0 ws.length,ws.length) Z':=by
  have:=cO (ns:=ns) (C:=C) (J:=[rF l,rS n,rI (-1),.none]) (e:=.bi .len (.v 0)) (k:=(wV ws).length) (bD rfl (nT hl)) (nz _) (by rw [wV,zb];exact ns_ (za hz (by decide)));rw [wV,zb,xa] at this;exact this
 exact ⟨p,aN (fn:=iI) (vs:=[.ref l,.str n]) rfl (aA rfl rfl (bT hs (aB h (aP rfl)))),hp⟩
theorem kD{l:Nat}{kvs:Kv}{m:Me}(hl:Z[l]?=some (.dict kvs))(h:wM m=2):meK m (.ref l) Z=.ok .none Z:=by unfold meK;dsimp only;refine gw hl ?_;dsimp only;exact gw (Ua h ..) rfl
end
noncomputable def keysOf(d:Kv):List (List Nat):=d.map (·.1)
noncomputable def a6g(a b:Nat):Bool:=a == b || b == 0
noncomputable def T0:Tab:=⟨fs,cls,a6g⟩
section
variable{ns:List Int}{C:Calls}{J J' J1:Env}{Z Z' Z1 Z2 Z3 Z4:H}{a e o:E}{x v w:V}{es:List E}{vs:List V}{r:List S}{Res:RS}{k:Nat}
theorem rX{tgt:V->Env->Option Env}{body:Env->H->RS}{it:Nat->It}(P:Nat->Env->H->Prop)(D:RS->Prop)(N:Nat)(stop:∀J Z,P N J Z->aS (it N) Z=some .none)(step:∀i J Z,i<N->P i J Z->∃v J1,aS (it i) Z=some (some (v,it (i+1)))/\tgt v J=some J1/\((∃J2 Z2,body J1 Z=.ok .next J2 Z2/\P (i+1) J2 Z2)∨∃R,body J1 Z=R/\(∀k,qN R k=R)/\D R)):
  ∀(m i:Nat) (J:Env) (Z:H),i+m=N->P i J Z->(∃J' Z',forLoop tgt body m (it i) J Z=.ok .next J' Z'/\P N J' Z')∨D (forLoop tgt body m (it i) J Z):=by
 intro m
 induction m with
 | zero=>
  intro i J Z e p;obtain rfl:i=N:=e;exact .inl ⟨J,Z,tS (stop J Z p),p⟩
 | succ m ih=>
  intro i J Z e p;refine ex2 (step i J Z (a2t e) p) λv J1 q_h=>?_;refine an3 q_h λh1 h2 h3=>?_;rcases h3 with ⟨J2,Z2,h3,h4⟩ | ⟨R,h3,hk,h4⟩
  ·exact gw (uC h1 h2 h3 rfl ..) (ih (i+1) J2 Z2 (zA e) h4)
  ·exact gw (a9c h1 h2 h3 hk) (.inr h4)
theorem neI(i j:Int):eA .ne (.int i) (.int j) Z=.ok (.bool (!decide (i=j))) Z:=rfl
theorem neS(x y:List Nat):eA .ne (.str x) (.str y) Z=.ok (.bool (!decide (x=y))) Z:=rfl
theorem pU{l:Nat}{P:Kv}(hl:Z[l]?=some (.dict P))(h:P.length<=50000):biV ns .list (.ref l) Z=.ok (.ref Z.length) (Z++[.list ((keysOf P).map V.str)]):=by
 have hlim:lim=16777216:=rfl;have e:b9 Z (.ref l)=some ((keysOf P).map V.str):=by unfold b9;dsimp only;rw [hl,keysOf,vt];rfl
 show (bF (b9 Z (.ref l))).bnd fY Z=_;exact gw e (eU (by rw [zb,keysOf,zb];exact lm h))
theorem kL{l:Nat}{xs:List V}{m:Me}(hl:Z[l]?=some (.list xs))(h:wM m=1):meK m (.ref l) Z=.ok .none Z:=by unfold meK;dsimp only;refine gw hl ?_;dsimp only;exact gw (Ua h ..) rfl
theorem kY{l:Nat}{xs:List V}{v:V}(hl:Z[l]?=some (.list xs))(h:xs.length+1<=lim):meV (.ref l) .append [v] Z=.ok .none (Z.set l (.list (xs++[v]))):=by unfold meV;dsimp only;refine gw hl ?_;show sE l (xs++[v]) Z=_;unfold sE;rw [Ua (by rw [zd];exact h)]
theorem aBv{n:List Nat}:evS ns C J Z (.Y a n e)=RS.ofE (((evE ns C J e).bnd λv=>(evE ns C J a).bnd λu=>iT u n v) Z) J (λz Z'=>.ok .next J Z'):=rfl
theorem aBm{c:Nat}(h1:Evs ns C J es Z vs Z1)(h3:C.new c vs Z1=.ok v Z2):Ev ns C J (.new c es) Z v Z2:=bI h1 h3
theorem aO{n:List Nat}(h1:Ev ns C J a Z x Z1)(h2:eY x n Z1=.ok v Z2):Ev ns C J (.attr a n) Z v Z2:=bI h1 h2
theorem k7{c d:Nat}{kvs:Kv}{n:List Nat}(hl:Z[d]?=some (.dict kvs))(h:aW kvs n=some v):eY (.inst c d) n Z=.ok v Z:=by show onD d (λkvs=>bF (aW kvs n)) Z=_;exact gw (s9 hl ..) (gw h rfl)
theorem aV{m:List Nat}{i:Nat}(h1:Ev ns C J o Z x Z1)(h2:C.U x m Z1=.ok i Z2)(h3:Evs ns C J es Z2 vs Z3)(h4:C.call i (x::vs) Z3=.ok v Z4):Ev ns C J (.u o m es) Z v Z4:=bI h1 (bI h2 (bI h3 h4))
theorem aHq{f k:Nat}(h1:Evs ns C J es Z vs Z1)(h3:C.call f vs Z1=.exc k Z2):evE ns C J (.call f es) Z=.exc k Z2:=bI h1 h3
theorem eR{m:List Nat}{i k:Nat}(h1:Ev ns C J o Z x Z1)(h2:C.U x m Z1=.ok i Z2)(h3:Evs ns C J es Z2 vs Z3)(h4:C.call i (x::vs) Z3=.exc k Z4):evE ns C J (.u o m es) Z=.exc k Z4:=bI h1 (bI h2 (bI h3 h4))
theorem aCg{b:E}{i j:Int}(h1:Ev ns C J a Z (.int i) Z1)(h2:Ev ns C J b Z1 (.int j) Z2):Ev ns C J (.mm .mn a b) Z (.int (min i j)) Z2:=bI h1 (bI h2 rfl)
theorem eI{n:List Nat}(h1:Ev ns C J e Z v Z1)(h2:Ev ns C J a Z1 x Z2)(h4:iT x n v Z2=.ok w Z4)(h5:aH ns C J Z4 r=Res):aH ns C J Z (.Y a n e::r)=Res:=by exact gw (cL ..) (gw (aBv ..) (gw (show ((evE ns C J e).bnd λv=>(evE ns C J a).bnd λu=>iT u n v) Z=.ok w Z4 from bI h1 (bI h2 h4)) h5))
theorem rL{c d:Nat}{kvs:Kv}{n:List Nat}(hl:Z[d]?=some (.dict kvs))(h:(bP kvs n v).length<=lim):iT (.inst c d) n v Z=.ok .none (Z.set d (.dict (bP kvs n v))):=by show onW d (λkvs=>fN d (bP kvs n v)) Z=_;refine gw (mQ hl ..) ?_;unfold fN;exact gw (Ua h ..) rfl
theorem m3{fn:Fn}(hl:vs.length=fn.nargs)(h:aH ns C (vs.map some++wf (fn.n-fn.nargs) .none) Z fn.body=.ok .next J' Z'):evF ns C fn vs Z=.ok .none Z':=by unfold evF;exact gw (Ua hl ..) (gw h rfl)
theorem aY(hm:C.U=aJ T0){d i:Nat}{kvs:Kv}{m:List Nat}(h:Z[d]?=some (.dict kvs))(h1:aW kvs m=.none)(h2:((T0.cls[1]?).bind λp=>p.2.lookup m)=some i):C.U (.inst 1 d) m Z=.ok i Z:=by refine gw hm ?_;show onD d (λkvs=>match aW kvs m with | .none=>bF ((T0.cls[1]?).bind λp=>p.2.lookup m) | some _=>stuck) Z=_;exact gw (s9 h ..) (gw h1 (gw h2 rfl))
theorem cA{m:Nat}(o:O){i:Nat}{x:O}(h:i≠m)(e:Z[i]?=some x):(Z.set m o)[i]?=some x:=by refine gw (wo (Ne.symm h) ..) ?_;exact e
theorem eZ{m:Nat}{x:O}(h:Z[m]?=some x)(o:O):(Z.set m o)[m]?=some o:=ud (zc.mp h).1
end
theorem cps{p:Prop}(h:∀G:Prop,(p->G)->G):p:=h p id
structure Dl where
 start:Nat
 st:Nat
 kat:Nat
 ws:Ws
 said:List V
 seen:List (List Nat)
 O:List (List Nat)
structure St where
 n:Nat
 d:Nat->Dl
 row:List Nat
 names:List (List Nat)
 I:List Nat->List (Nat×Option Int)
set_option genCtorIdx false in
inductive Cell where
 | b (j:Nat) | d (j k:Nat) | h (x:List Nat)
noncomputable def Cell.ctorIdx(v:Cell):Nat:=Cell.casesOn v (λz=>0) (λz z=>1) (λz=>2)
structure Pl where
 A:Cell->Nat
 ow:Nat->Cell
noncomputable abbrev Fz:=Nat->Option O
noncomputable def iL(s:Nat):List Nat:=if s=0 then Ng else if s=1 then Nq else NN
noncomputable def dlE(t m a w s e h:Nat):Kv:=[(Na,.int t),(Nn,.str (iL m)),(Nj,.int a),(Nh,.ref w),(NH,.ref s),(NG,.ref e),(Np,.ref h)]
noncomputable def nV(l:List (List Nat)):List V:=l.map V.str
noncomputable def tV(l:List (List Nat)):Kv:=l.map λx=>(x,.bool true)
noncomputable def shE(s d r:Nat):Kv:=[(Nk,.ref s),(Nc,.ref d),([114,111,119],.ref r)]
noncomputable def hV(l:List (Nat×Option Int)):List V:=l.map λp=>.tup [.int p.1,val p.2]
noncomputable def lwE(t m a w s e h:Nat):Kv:=[(Na,.int t),(Ni,.str (iL m)),(Nf,.ref w),(Ny,.ref e),(Np,.ref h),(Nt,.int a),(Nv,.ref s)]
structure Kd where
 b0:Nat->Nat->Nat->O
 dE:Nat->Nat->Nat->Nat->Nat->Nat->Nat->O
 nE:List (List Nat)->O
 dv:Nat->V
noncomputable abbrev shK:Kd:=⟨λs d r=>.dict (shE s d r),λt m a w s e h=>.dict (dlE t m a w s e h),λl=>.dict (tV l),.inst 0⟩
noncomputable abbrev lwK(xs:List (List Nat)):Kd:=⟨λz z z=>.list (nV xs),λt m a w s e h=>.dict (lwE t m a w s e h),λl=>.list (nV l),.ref⟩
noncomputable def iC(κ:Kd)(D:Dl)(P:Pl)(k:Nat):Nat->O
 | 0=>κ.dE D.start D.st D.kat (P.A (.d 1 k)) (P.A (.d 2 k)) (P.A (.d 3 k)) (P.A (.d 4 k))
 | 1=>.list (wV D.ws)
 | 2=>.list D.said
 | 3=>κ.nE D.seen
 | _=>κ.nE D.O
theorem dJ{D D':Dl}{P:Pl}{k q i:Nat}(h:i≠q)(hi:i<5)(h0:q=0∨(D'.start=D.start/\D'.st=D.st/\D'.kat=D.kat))(h1:q=1∨D'.ws=D.ws)(h2:q=2∨D'.said=D.said)(h3:q=3∨D'.seen=D.seen)(h4:q=4∨D'.O=D.O):iC κ D' P k i=iC κ D P k i:=by
 rcases i with _ | _ | _ | _ | i
 ·obtain ⟨a,b,c⟩:=h0.resolve_left h.symm;show κ.dE D'.start D'.st D'.kat _ _ _ _=_;exact gw a (gw b (gw c rfl))
 ·exact Uf (λx=>O.list (wV x)) (h1.resolve_left h.symm)
 ·exact Uf O.list (h2.resolve_left h.symm)
 ·exact Uf κ.nE (h3.resolve_left h.symm)
 ·exact Uf κ.nE (h4.resolve_left λe=>h ((Uf (·+4) (za6.mp (zal hi))).trans e.symm))
noncomputable def oY(κ:Kd)(S:St)(P:Pl):Nat->O
 | 0=>κ.b0 (P.A (.b 1)) (P.A (.b 2)) (P.A (.b 3))
 | 1=>.dict (S.names.map λx=>(x,.ref (P.A (.h x))))
 | 2=>.list ((zs S.n).map λk=>κ.dv (P.A (.d 0 k)))
 | _=>.list (S.row.map λk:Nat=>.int k)
theorem lS{S S':St}{P:Pl}{q j:Nat}(h:j≠q)(hj:j<4)(h1:q=1∨S'.names=S.names)(h2:q=2∨S'.n=S.n)(h3:q=3∨S'.row=S.row):oY κ S' P j=oY κ S P j:=by
 rcases j with _ | _ | _ | j
 ·rfl
 ·exact Uf (λx:List (List Nat)=>O.dict (x.map λx=>(x,.ref (P.A (.h x))))) (h1.resolve_left h.symm)
 ·exact Uf (λn=>O.list ((zs n).map λk=>κ.dv (P.A (.d 0 k)))) (h2.resolve_left h.symm)
 ·exact Uf (λx:List Nat=>O.list (x.map λk:Nat=>.int k)) (h3.resolve_left λe=>h ((Uf (·+3) (za6.mp (zal hj))).trans e.symm))
noncomputable def ren(κ:Kd)(S:St)(P:Pl):Cell->O
 | .b j=>oY κ S P j
 | .d j k=>iC κ (S.d k) P k j
 | .h x=>.list (hV (S.I x))
noncomputable def dU(S:St):Cell->Prop
 | .b j=>j<4
 | .d j k=>j<5/\k<S.n
 | .h x=>x∈S.names
structure Iv(κ:Kd)(G:Fz)(S:St)(P:Pl)(Z:H):Prop where
 c:∀c,dU S c->Z[P.A c]?=some (ren κ S P c)/\P.ow (P.A c)=c
 fz:∀i o,G i=some o->Z[i]?=some o/\∀c,dU S c->P.A c≠i
noncomputable abbrev Inv:Fz->St->Pl->H->Prop:=Iv shK
section
variable{κ:Kd}{G:Fz}{S S':St}{P P':Pl}{Z Z' Z1:H}{c c₀:Cell}{o:O}
theorem Iv.gr(h:Iv κ G S P Z)(g:Gr Z Z'):Iv κ G S P Z':=⟨λc l=>⟨g.at (h.c c l).1,(h.c c l).2⟩,λi o e=>⟨g.at (h.fz i o e).1,(h.fz i o e).2⟩⟩
theorem Iv.lt(h:Iv κ G S P Z)(l:dU S c):P.A c<Z.length:=(zc.mp (h.c c l).1).1
theorem Iv.ne(h:Iv κ G S P Z){d:Cell}(l:dU S c)(l':dU S d)(e:c≠d):P.A c≠P.A d:=λq=>e (bw ((h.c c l).2 ..) (bw ((h.c d l').2 ..) (gw q rfl)))
theorem Iv.step(h:Iv κ G S P Z)(g:Gr Z Z1)(l:dU S c₀)(he:P'.A c₀=P.A c₀)(hc:∀c,dU S' c->(dU S c/\P'.A c=P.A c/\P'.ow (P.A c)=c/\(c≠c₀->ren κ S' P' c=ren κ S P c))∨(Z.length<=P'.A c/\Z1[P'.A c]?=some (ren κ S' P' c)/\P'.ow (P'.A c)=c))(ho:o=ren κ S' P' c₀):Iv κ G S' P' (Z1.set (P.A c₀) o):=by
 subst ho;refine ⟨λc lc=>?_,λi o e=>?_⟩
 ·rcases hc c lc with ⟨l1,e1,e2,e3⟩ | ⟨g1,e1,e2⟩
  ·refine gw e1 ?_;by_cases q:c=c₀
   ·subst q;exact ⟨eZ (g.at (h.c c l1).1) _,e2⟩
   ·exact gw (e3 q ..) ⟨cA _ (h.ne l1 l q) (g.at (h.c c l1).1),e2⟩
  ·exact ⟨cA _ (wq (zj (h.lt l) g1)) e1,e2⟩
 ·obtain ⟨f1,f2⟩:=h.fz i o e;have:=(zc.mp f1).1;exact ⟨cA _ (f2 c₀ l).symm (g.at f1),λc lc=>(hc c lc).elim (λq=>gw (q.2.1 ..) (f2 c q.1)) λq=>wq (zj this q.1)⟩
theorem Iv.store(h:Iv κ G S P Z)(l:dU S c₀)(hl:∀c,dU S' c->dU S c)(hr:∀c,c≠c₀->dU S c->ren κ S' P c=ren κ S P c)(ho:o=ren κ S' P c₀):Iv κ G S' P (Z.set (P.A c₀) o):=
 h.step (P':=P) Gr.rfl l rfl (λc lc=>.inl ⟨hl c lc,rfl,(h.c c (hl c lc)).2,λq=>hr c q (hl c lc)⟩) ho
theorem Iv.b(h:Iv κ G S P Z)(j:Nat)(hj:j<4):Z[P.A (.b j)]?=some (oY κ S P j):=(h.c (.b j) hj).1
theorem Iv.d(h:Iv κ G S P Z)(j:Nat){k:Nat}(hj:j<5)(hk:k<S.n):Z[P.A (.d j k)]?=some (iC κ (S.d k) P k j):=(h.c (.d j k) ⟨hj,hk⟩).1
theorem Iv.h(h:Iv κ G S P Z){x:List Nat}(hx:x∈S.names):Z[P.A (.h x)]?=some (.list (hV (S.I x))):=(h.c (.h x) hx).1
noncomputable def St.setD(S:St)(k:Nat)(D:Dl):St:={ S with d:=λj=>if j=k then D else S.d j }
theorem Iv.storeD(h:Iv κ G S P Z){j k:Nat}{D:Dl}(l:dU S (.d j k))(hr:∀i,i≠j->i<5->iC κ D P k i=iC κ (S.d k) P k i)(ho:o=iC κ D P k j):Iv κ G (S.setD k D) P (Z.set (P.A (.d j k)) o):=by
 refine h.store l (λc q=>?_) (λc q lc=>?_) ?_
 ·cases c <;> exact q
 ·cases c with
  | b i=>rfl
  | h x=>rfl
  | d i k'=>
   show iC κ (if k'=k then D else S.d k') P k' i=_;by_cases e:k'=k
   ·subst e;exact gw (Ua rfl ..) (hr i (λe=>q (gw e rfl)) lc.1)
   ·exact gw (Ub e ..) rfl
 ·show o=iC κ (if k=k then D else S.d k) P k j;exact gw (Ua rfl ..) ho
theorem St.setD_at(S:St)(k:Nat)(D:Dl):(S.setD k D).d k=D:=Ua rfl
theorem St.setD_ne(S:St){k k':Nat}(D:Dl)(h:k'≠k):(S.setD k D).d k'=S.d k':=Ub h
theorem St.setD_setD(S:St)(k:Nat)(D D':Dl):(S.setD k D).setD k D'=S.setD k D':=by
 unfold St.setD;congr 1;funext j;show (if j=k then D' else (if j=k then D else S.d j))=if j=k then D' else S.d j;by_cases h:j=k
 ·exact gw (Ua h ..) (gw (Ua h ..) rfl)
 ·exact gw (Ub h ..) (gw (Ub h ..) (gw (Ub h ..) rfl))
structure Fr(G:Fz)(S:St)(P:Pl)(a:Nat):Prop where
 ne:∀c,dU S c->P.A c≠a
 no:G a=.none
theorem Iv.fr(I:Iv κ G S P Z){a:Nat}(h:Z.length<=a):Fr G S P a:=⟨λc l=>yq (zj (I.lt l) h),by
 cases e:G a with
 | none=>rfl
 | some o=>exact (yf.mpr h (zc.mp (I.fz a o e).1).1).elim⟩
theorem Iv.put(I:Iv κ G S P Z){a:Nat}(f:Fr G S P a)(o:O):Iv κ G S P (Z.set a o):=
 ⟨λc l=>⟨cA _ (f.ne c l) (I.c c l).1,(I.c c l).2⟩,λi x e=>⟨cA _ (λq=>by replace e:=(f.no ..)▸q▸e;cases e) (I.fz i x e).1,(I.fz i x e).2⟩⟩
open Classical in
noncomputable def mx(S:St)(P:Pl)(Z:H):Fz:=λi=>if ∃c,dU S c/\P.A c=i then .none else Z[i]?
theorem Iv.mx(I:Iv κ G S P Z):Iv κ (mx S P Z) S P Z:=⟨I.c,λi o e=>by
 unfold Mine.Internal.L11.mx at e;revert e;refine ic ite_ (λz e=>?_) λq e=>?_
 ·cases e
 ·exact ⟨e,λc l w=>q ⟨c,l,w⟩⟩⟩
noncomputable def a9m(S:St)(P:Pl)(a:Nat):Prop:=∀c,dU S c->P.A c≠a
noncomputable def nof:Fz:=λz=>.none
theorem Iv.kept(I:Iv κ (Mine.Internal.L11.mx S P Z) S' P' Z'){a:Nat}(f:a9m S P a)(h:Z[a]?=some o):Z'[a]?=some o/\a9m S' P' a:=
 I.fz a o (by
  unfold Mine.Internal.L11.mx;exact gw (Ub (λq=>by obtain ⟨c,l,e⟩:=q;exact f c l e)) h)
end
noncomputable abbrev sh(P:Pl):V:=.inst 1 (P.A (.b 0))
noncomputable abbrev dl(P:Pl)(k:Nat):V:=.inst 0 (P.A (.d 0 k))
section
variable{ns:List Int}{C:Calls}{J:Env}{Z Z' Z1 Z2 Z3 Z4:H}{a b c:E}{x y z v w:V}{G:Fz}{S:St}{P:Pl}
theorem tA{op op':Cmp}(h1:Ev ns C J a Z x Z1)(h2:Ev ns C J b Z1 y Z2)(h3:eA op x y Z2=.ok (.bool true) Z2)(h4:Ev ns C J c Z2 z Z3)(h5:eA op' y z Z3=.ok v Z4):Ev ns C J (.cmp2 op op' a b c) Z v Z4:=
 bI h1 (bI h2 (bI h3 (bI h4 h5)))
theorem zV{i j:Int}(h:i<=j):eA .le (.int i) (.int j) Z=.ok (.bool true) Z:=by show R.ok (V.bool (decide (i<=j))) Z=_;exact gw (Uc h ..) rfl
theorem aIb{i j:Int}(h:¬i<=j):eA .le (.int i) (.int j) Z=.ok (.bool false) Z:=by show R.ok (V.bool (decide (i<=j))) Z=_;exact gw (Ud h ..) rfl
theorem aBx{i j:Int}(h:i<j):eA .lt (.int i) (.int j) Z=.ok (.bool true) Z:=by show R.ok (V.bool (decide (i<j))) Z=_;exact gw (Uc h ..) rfl
theorem aFs{i j:Int}(h:¬i<j):eA .lt (.int i) (.int j) Z=.ok (.bool false) Z:=by show R.ok (V.bool (decide (i<j))) Z=_;exact gw (Ud h ..) rfl
theorem nJ(x y:Int):eA .gt (.int x) (.int y) Z=.ok (.bool (decide (y<x))) Z:=rfl
theorem zC(x y:Int):eA .ge (.int x) (.int y) Z=.ok (.bool (decide (y<=x))) Z:=rfl
theorem rC{α:Type}(f:α->Bool):∀l:List α,fR (l.map λc=>V.bool (f c))=some (l.map f):=by
 intro l
 induction l with
 | nil=>
  exact rfl
 | cons a l ih=>
  show (fR (l.map λc=>V.bool (f c))).map (f a::·)=_;exact gw ih rfl
theorem aIk{l:Nat}{xs:List V}{bs:List Bool}(hl:Z[l]?=some (.list xs))(h:fR xs=some bs):biV ns .any (.ref l) Z=.ok (.bool (bs.any id)) Z:=by show onL l (λxs=>bF ((fR xs).map λbs=>V.bool (bs.any id))) Z=_;exact gw (fO hl ..) (gw h rfl)
theorem aHx{l:Nat}{xs:List V}{bs:List Bool}(hl:Z[l]?=some (.list xs))(h:fR xs=some bs):biV ns .all (.ref l) Z=.ok (.bool (bs.all id)) Z:=by show onL l (λxs=>bF ((fR xs).map λbs=>V.bool (bs.all id))) Z=_;exact gw (fO hl ..) (gw h rfl)
theorem a9p(x:List Nat)(hx:x.length<=12):∃Z',evF ns C lH [.str x] Z=.ok (.bool (x.all λc=>cQ.contains c)) Z'/\Gr Z Z':=by obtain ⟨Z',h,rfl⟩:=cG (f:=vN ns C [rS x] (.g .N (.v 1) (.con (V.str cQ)))) (it:=λi=>.seq x i) (·=Z) x (λc=>.str [c]) (λc=>some (V.bool (cQ.contains c))) (za hx (by decide)) rfl (λz z z=>rfl) λc z Z z=>⟨Z,kO (show Ev ns C _ (.g .N (.v 1) (.con (V.str cQ))) Z _ Z from aM rfl rfl rfl),by assumption⟩;replace h:=(show x.filterMap (λc=>some (V.bool (cQ.contains c)))=x.map (λc=>V.bool (cQ.contains c)) from congrFun uu x)▸h;exact ⟨Z'++[.list (x.map λc=>V.bool (cQ.contains c))],aN (fn:=lH) (vs:=[.str x]) rfl (aL (orF rfl (or1 (aM (bD rfl rfl) rfl ((nJ _ _).trans (gw (Ud (show ¬(12:Int)<x.length from kj.mpr (xd.mpr hx))) rfl))))) (aP (bD (mL (it:=.seq x 0) (n:=x.length) rfl h) ((aHx (aE _ _) (rC _ _)).trans (gw (List.all_map ..) rfl))))),Gr.app _ _⟩
theorem a6x(h2:∀(x:List Nat) (Z:H),x.length<=12->∃Z',C.call 2 [.str x] Z=.ok (.bool (x.all λc=>cQ.contains c)) Z'/\Gr Z Z')(x:List Nat)(hx:x.length<=12):
  ∃Z',evF ns C oK [.str x] Z=.ok (.bool ((x.all λc=>cQ.contains c)&&decide (0<x.length))) Z'/\Gr Z Z':=by
 obtain ⟨Z',h,g⟩:=h2 x Z hx;refine ⟨Z',aN rfl (aP ?_),g⟩;cases hb:x.all λc=>cQ.contains c with
 | false=>replace h:=hb▸h;exact jU (aG rfl h)
 | true=>
  replace h:=hb▸h;refine hU (aG rfl h) (jR (aM (bD rfl rfl) rfl ((nJ _ _).trans ?_)));refine gw (Bool.true_and ..) ?_;congr 2;exact decide_eq_decide.mpr gi
theorem Nm.is{x:List Nat}(h:Nm x):((x.all λc=>cQ.contains c)&&decide (0<x.length))=true:=by exact gw (wt.mpr h.2.2 ..) (gw (Uc (show 0<x.length from h.1)) rfl)
theorem tC(h3:∀(x:List Nat) (Z:H),x.length<=12->∃Z',C.call 3 [.str x] Z=.ok (.bool ((x.all λc=>cQ.contains c)&&decide (0<x.length))) Z'/\Gr Z Z')(s:V){x:List Nat}(hx:Nm x):∃Z',evF ns C gG [s,.str x] Z=.ok .none Z'/\Gr Z Z':=by obtain ⟨Z',h,g⟩:=h3 x Z hx.2.1;replace h:=(hx.is ..)▸h;exact ⟨Z',m3 rfl (aL (cE (aG rfl h) rfl) aI),g⟩
theorem a3h(h1:∀i Z,C.call 1 [.int i] Z=.ok (.bool true) Z){t:Option Int}(ht:inR t):evF ns C nG [val t] Z=.ok (.bool true) Z:=by
 cases t with
 | none=>rfl
 | some i=>exact aN rfl (aL rfl (aP (hU (aG rfl (h1 i Z)) (jR (tA rfl rfl (zV (i:=0-1000000000000000000000000000000) ht.1) rfl (zV ht.2))))))
theorem gW(I:Inv G S P Z):eY (sh P) Nk Z=.ok (.ref (P.A (.b 1))) Z:=k7 (I.b 0 (by decide)) rfl
theorem fC(I:Inv G S P Z):eY (sh P) Nc Z=.ok (.ref (P.A (.b 2))) Z:=k7 (I.b 0 (by decide)) rfl
theorem jG(I:Inv G S P Z):eY (sh P) [114,111,119] Z=.ok (.ref (P.A (.b 3))) Z:=k7 (I.b 0 (by decide)) rfl
theorem gP{κ:Kd}(I:Iv κ G S P Z):biV ns .len (.ref (P.A (.b 2))) Z=.ok (.int S.n) Z:=by exact gw (nT (I.b 2 (by decide)) ..) (gw (zb ..) (gw (we ..) rfl))
theorem eQ{κ:Kd}(I:Iv κ G S P Z):biV ns .len (.ref (P.A (.b 3))) Z=.ok (.int S.row.length) Z:=by exact gw (nT (I.b 3 (by decide)) ..) (gw (zb ..) rfl)
theorem cD{κ:Kd}(I:Iv κ G S P Z){k:Nat}(hk:k<S.n):iB ns (.ref (P.A (.b 2))) (.int k) Z=.ok (κ.dv (P.A (.d 0 k))) Z:=
 kZ (I.b 2 (by decide)) (zy k) (by refine gw (xa ..) (gw (yk ..) (gw (zad hk ..) ?_));rfl)
theorem nU(h1:∀i Z,C.call 1 [.int i] Z=.ok (.bool true) Z)(I:Inv G S P Z){k:Nat}(hk:k<S.n):evF ns C fD [sh P,.int k] Z=.ok (dl P k) Z:=
 aN rfl (aL (orF (cE (aG rfl (h1 k Z)) rfl) (or1 (cE (tA rfl rfl (zV (zy k)) (bD (aO rfl (fC I)) (gP I)) (aBx (uc.mpr hk))) rfl))) (aP (aK (aO rfl (fC I)) rfl (cD I hk))))
theorem aIl(x y:List Nat):eA .ne (.str x) (.str y) Z=.ok (.bool (!decide (x=y))) Z:=neS x y
theorem j6(I:Inv G S P Z){k:Nat}(hk:k<S.n):eY (dl P k) Nn Z=.ok (.str (iL (S.d k).st)) Z:=k7 (I.d 0 (by decide) hk) rfl
theorem kA(I:Inv G S P Z){k:Nat}(hk:k<S.n):eY (dl P k) Na Z=.ok (.int (S.d k).start) Z:=k7 (I.d 0 (by decide) hk) rfl
theorem a5t(I:Inv G S P Z){k:Nat}(hk:k<S.n):eY (dl P k) Nj Z=.ok (.int (S.d k).kat) Z:=k7 (I.d 0 (by decide) hk) rfl
theorem j9(I:Inv G S P Z){k:Nat}(hk:k<S.n):eY (dl P k) Nh Z=.ok (.ref (P.A (.d 1 k))) Z:=k7 (I.d 0 (by decide) hk) rfl
theorem nW(I:Inv G S P Z){k:Nat}(hk:k<S.n):eY (dl P k) NH Z=.ok (.ref (P.A (.d 2 k))) Z:=k7 (I.d 0 (by decide) hk) rfl
theorem y8(I:Inv G S P Z){k:Nat}(hk:k<S.n):eY (dl P k) NG Z=.ok (.ref (P.A (.d 3 k))) Z:=k7 (I.d 0 (by decide) hk) rfl
theorem tQ(I:Inv G S P Z){k:Nat}(hk:k<S.n):eY (dl P k) Np Z=.ok (.ref (P.A (.d 4 k))) Z:=k7 (I.d 0 (by decide) hk) rfl
theorem iM(s:Nat):decide (iL s=Ng)=decide (s=0):=by
 unfold iL;by_cases h:s=0
 ·exact gw (Ua h ..) (gw (Uc h ..) rfl)
 ·refine gw (Ub h ..) (gw (Ud h ..) ?_);split <;> rfl
noncomputable abbrev a6q(C:Calls):Prop:=∀{G:Fz}{S:St}{P:Pl}{Z:H}{k:Nat},Inv G S P Z->k<S.n->C.call 44 [sh P,.int k] Z=.ok (dl P k) Z
theorem tJ(hm:C.U=aJ T0)(h30:a6q C)(I:Inv G S P Z){k:Nat}(hk:k<S.n)(ho:(S.d k).st=0):evF ns C dN [sh P,.int k] Z=.ok (dl P k) Z:=
 aN rfl (aA (aV rfl (aY hm (I.b 0 (by decide)) rfl rfl) rfl (h30 I hk)) rfl (aL (aM (aO rfl (j6 I hk)) rfl ((neS _ _).trans (gw ho rfl))) (aP rfl)))
theorem sJ(hm:C.U=aJ T0)(h30:a6q C)(I:Inv G S P Z){k:Nat}(hk:k<S.n)(ho:(S.d k).st≠0):evF ns C dN [sh P,.int k] Z=.exc 2 Z:=
 jX rfl (aA (aV rfl (aY hm (I.b 0 (by decide)) rfl rfl) rfl (h30 I hk)) rfl (bU (aM (aO rfl (j6 I hk)) rfl ((neS _ _).trans (gw (iM ..) (gw (Ud ho ..) rfl)))) (eO n8)))
end
noncomputable def bX(ws:Ws)(n:List Nat):Bool:=(pS .none ws n).isSome
theorem f6(f:List Nat->V)(n:List Nat):∀l:List (List Nat),aW (l.map λx=>(x,f x)) n=if n∈l then some (f n) else .none:=by
 intro l
 induction l with
 | nil=>
  exact gw (Ub yl ..) rfl
 | cons a l ih=>
  show (if a=n then some (f a) else aW (l.map λx=>(x,f x)) n)=_;refine gw ih ?_;by_cases h:a=n
  ·exact gw (Ua h ..) (gw (Ua (h▸zm) ..) (gw h rfl))
  ·refine gw (Ub h ..) ?_;by_cases h':n∈l
   ·exact gw (Ua h' ..) (gw (Ua (zr _ h') ..) rfl)
   ·exact gw (Ub h' ..) (gw (Ub (λq=>(ye.mp q).elim (λe=>h e.symm) h')) rfl)
section
variable{ns:List Int}{C:Calls}{J:Env}{Z Z' Z1 Z2 Z3 Z4:H}{G:Fz}{S:St}{P:Pl}
noncomputable abbrev xA(C:Calls):Prop:=∀{l:Nat}{ws:Ws}{Z:H},Z[l]?=some (.list (wV ws))->ws.length<=50000->∀n,∃p,C.call 6 [.ref l,.str n] Z=.ok (.int p) Z/\LP ws n ws.length p
theorem oO(h6:xA C)(I:Inv G S P Z){k:Nat}(hk:k<S.n)(hz:(S.d k).ws.length<=50000)(n:List Nat):evF ns C kI [dl P k,.str n] Z=.ok (.bool (bX (S.d k).ws n)) Z:=by
 obtain ⟨p,hp,q⟩:=h6 (I.d 1 (by decide) hk) hz n;refine aN rfl (aP (aM (aG (bW (aO rfl (j9 I hk)) rfl) hp) rfl ((zC _ _).trans ?_)));unfold bX;unfold LP at q;replace q:=(xb ..)▸q;rcases q with ⟨rfl,q⟩ | ⟨j,t,rfl,_,q⟩
 ·exact gw q rfl
 ·exact gw q (gw (Uc (zy j) ..) rfl)
theorem inD{l:Nat}{kvs:Kv}{n:List Nat}(hl:Z[l]?=some (.dict kvs)):eA .N (.str n) (.ref l) Z=.ok (.bool (aW kvs n).isSome) Z:=by show (match Z[l]? with | some (.list xs)=>bF ((dL (.str n) xs).map (yes false)) Z | some (.dict kvs)=>onS (.str n) (λx=>M.ret (yes false (aW kvs x).isSome)) Z | _=>R.stuck)=_;exact gw hl rfl
theorem aAf(l:List (List Nat))(n:List Nat):(aW (tV l) n).isSome=decide (n∈l):=by
 unfold tV;rw [f6 (λz=>V.bool true)];by_cases h:n∈l
 ·rw [Ua h,Uc h];rfl
 ·rw [Ub h,Ud h];rfl
theorem yI(l:List (List Nat)):keysOf (tV l)=l:=by unfold keysOf tV;exact gw (vt ..) (List.map_id l)
noncomputable abbrev IsU(C:Calls):Prop:=∀(x y:List Nat) (Z:H),C.call 5 [.str x,.str y] Z=.ok (.bool (pre y x)) Z
theorem a4g{src elt:E}{ks:List (List Nat)}{l:Nat}(f:List Nat->Bool)(hs:Ev ns C J src Z (.ref l) Z1)(hl:Z1[l]?=some (.list (ks.map V.str)))(hz:ks.length<=50000)(hc:∀x Z',Gr Z1 Z'->∃Z'',Ev ns C (J++[rS x]) elt Z' (.bool (f x)) Z''/\Gr Z' Z''):∃Z',Ev ns C J (.bi .any (.comp (.of src) elt)) Z (.bool (ks.any f)) Z'/\Gr Z1 Z':=by
 obtain ⟨Z',h,g⟩:=cG (f:=vN ns C J elt) (it:=λi=>.list l i) (Gr Z1) ks V.str (λx=>some (V.bool (f x))) (lm hz) Gr.rfl (λi Z' g=>dQ (g.at hl) i) λx z Z' g=>by obtain ⟨Z'',e,g'⟩:=hc x Z' g;exact ⟨Z'',kO e,g.tr g'⟩
 replace h:=(show ks.filterMap (λc=>some (V.bool (f c)))=ks.map (λc=>V.bool (f c)) from congrFun uu ks)▸(show (ks.map V.str).length=ks.length from zb ..).symm▸h;exact ⟨Z'++[.list (ks.map λc=>V.bool (f c))],bD (mL (bN hs hl) h) ((aIk (aE Z' _) (rC _ _)).trans (gw (List.any_map ..) rfl)),g.tr (Gr.app _ _)⟩
noncomputable def looks(D:Dl)(n:List Nat):Bool:=decide (n∈D.seen) || D.O.any λh=>pre h n
theorem qH(h5:IsU C)(I:Inv G S P Z){k:Nat}(hk:k<S.n)(hz:(S.d k).O.length<=50000)(n:List Nat):∃Z',evF ns C fT [dl P k,.str n] Z=.ok (.bool (looks (S.d k) n)) Z'/\Gr Z Z':=by
 have q1:Ev ns C [some (dl P k),rS n] (.g .N (.v 1) (.attr (.v 0) NG)) Z (.bool (decide (n∈(S.d k).seen))) Z:=aM rfl (aO rfl (y8 I hk)) ((inD (I.d 3 (by decide) hk)).trans (gw (aAf ..) rfl));unfold looks;cases hs:decide (n∈(S.d k).seen) with
 | true=>replace q1:=hs▸q1;exact ⟨Z,aN (fn:=fT) rfl (bU q1 (aU (aP rfl))),Gr.rfl⟩
 | false=>
  replace q1:=hs▸q1;have h4:biV ns .list (.ref (P.A (.d 4 k))) Z=.ok (.ref Z.length) (Z++[.list ((S.d k).O.map V.str)]):=(pU (P:=tV (S.d k).O) (I.d 4 (by decide) hk) (by unfold tV;exact gw (zb ..) hz)).trans (gw (yI ..) rfl);obtain ⟨Z',e,g⟩:=a4g (ns:=ns) (J:=[some (dl P k),rS n]) (src:=.bi .list (.attr (.v 0) Np)) (elt:=.call 5 [(.v 1),(.v 2)]) (λh=>pre h n) (bD (aO rfl (tQ I hk)) h4) (aE Z _) hz (λx Z' z=>⟨Z',aG rfl (h5 n x Z'),Gr.rfl⟩);exact ⟨Z',aN (fn:=fT) rfl (aL q1 (aP e)),(Gr.app Z _).tr g⟩
noncomputable abbrev wL(C:Calls):Prop:=∀{G:Fz}{S:St}{P:Pl}{Z:H}{k:Nat},Inv G S P Z->k<S.n->(S.d k).O.length<=50000->∀n,∃Z',C.call 9 [dl P k,.str n] Z=.ok (.bool (looks (S.d k) n)) Z'/\Gr Z Z'
noncomputable abbrev sY(C:Calls):Prop:=∀{l:Nat}{ws:Ws}{Z:H},Z[l]?=some (.list (wV ws))->ws.length<=50000->C.call 7 [.ref l] Z=.ok (.ref Z.length) (Z++[.dict (put [] ws)])
noncomputable def kys(ws:Ws):List (List Nat):=keysOf (put [] ws)
noncomputable def wl(ws:Ws)(D:Dl):Bool:=(kys ws).any (looks D)
theorem qG(h7:sY C)(h9:wL C)(I:Inv G S P Z){j k:Nat}(hj:j<S.n)(hk:k<S.n)(hz:(S.d j).ws.length<=50000)(hh:(S.d k).O.length<=50000):∃Z',evF ns C cR [sh P,dl P j,dl P k] Z=.ok (.bool (wl (S.d j).ws (S.d k))) Z'/\Gr Z Z':=by
 have pl:(put [] (S.d j).ws).length<=50000:=za (iE _ []) (za (yg hz _) (by decide));have hks:(kys (S.d j).ws).length<=50000:=by unfold kys keysOf;exact gw (zb ..) pl
 have g2:Gr Z (Z++[O.dict (put [] (S.d j).ws)]++[O.list ((kys (S.d j).ws).map V.str)]):=(Gr.app Z _).tr (Gr.app _ _);obtain ⟨Z',e,g⟩:=a4g (ns:=ns) (J:=[some (sh P),some (dl P j),some (dl P k)]) (src:=.bi .list (.call 7 [(.attr (.v 1) Nh)])) (elt:=.call 9 [(.v 2),(.v 3)]) (looks (S.d k)) (bD (aG (a9 (aO rfl (j9 I hj))) (h7 (I.d 1 (by decide) hj) hz)) (pU (aE Z _) pl)) (aE _ _) hks (λx Z' g=>by
  obtain ⟨Z'',e,g'⟩:=h9 (I.gr (g2.tr g)) hk hh x;exact ⟨Z'',aG rfl e,g'⟩)
 exact ⟨Z',aN (fn:=cR) rfl (aP e),g2.tr g⟩
noncomputable abbrev a5q(C:Calls):Prop:=∀{G:Fz}{S:St}{P:Pl}{Z:H}{j k:Nat},Inv G S P Z->j<S.n->k<S.n->(S.d j).ws.length<=50000->(S.d k).O.length<=50000->∃Z',C.call 56 [sh P,dl P j,dl P k] Z=.ok (.bool (wl (S.d j).ws (S.d k))) Z'/\Gr Z Z'
noncomputable abbrev qW(C:Calls):Prop:=∀{G:Fz}{S:St}{P:Pl}{Z:H}{k:Nat},Inv G S P Z->k<S.n->(S.d k).ws.length<=50000->∀n,C.call 8 [dl P k,.str n] Z=.ok (.bool (bX (S.d k).ws n)) Z
noncomputable def mb(JJ K:Dl)(ks:List (List Nat)):Bool:=(ks.any λn=>bX JJ.ws n || looks JJ n) || (decide (JJ.kat<=K.start)&&wl JJ.ws K)
noncomputable def bh(JJ K:Dl):Bool:=decide (K.start<JJ.kat)&&wl JJ.ws K
theorem vV(m n:Nat):decide ((m:Int)<=n)=decide (m<=n):=decide_eq_decide.mpr xd
theorem pM(m n:Nat):decide ((m:Int)<n)=decide (m<n):=decide_eq_decide.mpr uc
theorem a3r(hm:C.U=aJ T0)(h8:qW C)(h9:wL C)(h42:a5q C)(I:Inv G S P Z){j k l:Nat}(hj:j<S.n)(hk:k<S.n)(hz:(S.d j).ws.length<=50000)(hhj:(S.d j).O.length<=50000)(hhk:(S.d k).O.length<=50000){ks:List (List Nat)}(hl:Z[l]?=some (.list (ks.map V.str))):
  ∃Z',evF ns C bK [sh P,dl P j,dl P k,.ref l] Z=.ok (.bool (mb (S.d j) (S.d k) ks)) Z'/\Gr Z Z':=by
 refine cps λG K=>?_;have hq:=rX (tgt:=dH 4) (body:=λJ Z=>aH ns C J Z [.x (.or [(.call 8 [(.v 1),(.v 4)]),(.call 9 [(.v 1),(.v 4)])]) [.ret (.k (V.bool true))] []]) (it:=λi=>.list l i)
  (λi J Z'=>(∃o,J=[some (sh P),some (dl P j),some (dl P k),rF l,o])/\Gr Z Z'/\(ks.take i).any (λn=>bX (S.d j).ws n || looks (S.d j) n)=false) (λr=>∃J' Z',r=.ok (.ret (.bool true)) J' Z'/\Gr Z Z'/\ks.any (λn=>bX (S.d j).ws n || looks (S.d j) n)=true) (ks.map V.str).length
  (λJ Z' p=>bY (p.2.1.at hl))
  (λi J Z' hi p=>by
   obtain ⟨⟨o,rfl⟩,g,no⟩:=p;replace hi:=(zb ..)▸hi;have I':=I.gr g;have e8:=h8 I' hj hz ks[i];obtain ⟨Z'',e9,g'⟩:=h9 I' hj hhj ks[i];refine ⟨.str ks[i],_,bE (g.at hl) (by refine gw (yk ..) (gw (zg hi ..) ?_);rfl),rfl,?_⟩;have hc:∃Z3,Ev ns C [some (sh P),some (dl P j),some (dl P k),rF l,rS (ks[i])] (.or [(.call 8 [(.v 1),(.v 4)]),(.call 9 [(.v 1),(.v 4)])]) Z' (.bool (bX (S.d j).ws ks[i] || looks (S.d j) ks[i])) Z3/\Gr Z' Z3:=by
    cases hw:bX (S.d j).ws ks[i] with
    | true=>exact ⟨Z',orT (aG rfl (hw▸e8)),Gr.rfl⟩
    | false=>exact ⟨Z'',orF (aG rfl (hw▸e8)) (or1 (aG rfl e9)),g'⟩
   obtain ⟨Z3,hc,g3⟩:=hc;cases hb:(bX (S.d j).ws ks[i] || looks (S.d j) ks[i]) with
   | true=>exact .inr ⟨_,bU (hb▸hc) (aU (aP rfl)),λz=>rfl,_,_,rfl,g.tr g3,wu.mpr ⟨_,xj hi,hb⟩⟩
   | false=>exact .inl ⟨_,_,aL (hb▸hc) aI,⟨_,rfl⟩,g.tr g3,gw (bM ks hi) (gw fu (gw no (gw (jc ..) (gw hb rfl))))⟩)
  (ks.map V.str).length 0 [some (sh P),some (dl P j),some (dl P k),rF l,.none] Z (zp _) ⟨⟨_,rfl⟩,Gr.rfl,rfl⟩
 unfold mb at K;rcases hq with ⟨J',Z',h,⟨o,rfl⟩,g,no⟩ | ⟨J',Z',h,g,q⟩
 ·have I':=I.gr g;rw [zb,xb] at no;replace K:=no▸K;obtain ⟨Z'',e42,g'⟩:=h42 I' hj hk hz hhk;have hc:Ev ns C [some (sh P),some (dl P j),some (dl P k),rF l,o] (.g .le (.attr (.v 1) Nj) (.attr (.v 2) Na)) Z' (.bool (decide ((S.d j).kat<=(S.d k).start))) Z':=(aM (aO rfl (a5t I' hj)) (aO rfl (kA I' hk)) rfl).trans (by exact gw (vV ..) rfl);cases hb:decide ((S.d j).kat<=(S.d k).start) with
  | false=>replace hc:=hb▸hc;replace K:=hb▸K;exact K ⟨Z',aN (fn:=bK) rfl (bT (bN rfl hl) (aB h (aP (jU hc)))),g⟩
  | true=>replace hc:=hb▸hc;replace K:=hb▸K;exact K ⟨Z'',aN (fn:=bK) rfl (bT (bN rfl hl) (aB h (aP (hU hc (jR (aV rfl (aY hm (I'.b 0 (by decide)) rfl rfl) rfl e42)))))),g.tr g'⟩
 ·replace K:=q▸K;exact K ⟨Z',aN (fn:=bK) rfl (bT (bN rfl hl) (aU h)),g⟩
noncomputable def iV(l:List Nat):List V:=l.map λk:Nat=>.int k
theorem aCm{l:Nat}{xs:List V}{v:V}{n:Nat}(hl:Z[l]?=some (.list xs))(h:gH v xs 0=some n):meV (.ref l) .index [v] Z=.ok (.int n) Z:=by unfold meV;dsimp only;refine gw hl ?_;show bF ((gH v xs 0).map λ(n:Nat)=>V.int n) Z=_;exact gw h rfl
theorem aGm{l:Nat}{kvs:Kv}{x:List Nat}{v:V}(hl:Z[l]?=some (.dict kvs)):meV (.ref l) .get [.str x,v] Z=.ok ((aW kvs x).getD v) Z:=by unfold meV;dsimp only;rw [hl];rfl
theorem cY{j:Nat}{v:V}(h:J[j]?=some (some v)):Ev ns C J (.v j) Z v Z:=by show (match J[j]? with | some (some v)=>M.ret v | _=>stuck) Z=_;exact gw h rfl
theorem j5{κ:Kd}(I:Iv κ G S P Z)(hh:∀x,x∉S.names->S.I x=[]){e:E}{n:List Nat}{i:Nat}(he:Ev ns C J e Z (.ref (P.A (.b 1))) Z)(hi:J[i]?=some (rS n)):
  ∃l,Ev ns C J (.me e .get [(.v i),(.list [])]) Z (.ref l) (Z++[.list []])/\(Z++[.list []])[l]?=some (.list (hV (S.I n))):=by
 have I':=I.gr (Gr.app Z [.list []]);have e:Ev ns C J (.me e .get [(.v i),(.list [])]) Z ((aW (S.names.map λx=>(x,V.ref (P.A (.h x)))) n).getD (.ref Z.length)) (Z++[.list []]):=
  fZ he (kD (I.b 1 (by decide)) rfl) (bW (cY hi) (bV rfl (yj _))) (aGm (I'.b 1 (by decide)))
 rw [f6 λx=>V.ref (P.A (.h x))] at e;by_cases h:n∈S.names
 ·replace e:=(Ua h ..)▸e;exact ⟨_,e,I'.h h⟩
 ·replace e:=(Ub h ..)▸e;exact ⟨_,e,(gw (hh n h ..) (aE Z _))⟩
theorem mV(I:Inv G S P Z)(hh:∀x,x∉S.names->S.I x=[]){n:List Nat}{i:Nat}(h0:J[0]?=some (some (sh P)))(hi:J[i]?=some (rS n)):
  ∃l,Ev ns C J (.me (.attr (.v 0) Nk) .get [(.v i),(.list [])]) Z (.ref l) (Z++[.list []])/\(Z++[.list []])[l]?=some (.list (hV (S.I n))):=j5 I hh (aO (cY h0) (gW I)) hi
theorem uD{l:List (Nat×Option Int)}{i:Nat}(h:i<l.length):(hV l)[i]?=some (.tup [.int l[i].1,val l[i].2]):=by unfold hV;refine gw (yk ..) (gw (zg h ..) ?_);rfl
noncomputable abbrev oE(C:Calls):Prop:=∀(s:V) {x:List Nat} (Z:H),Nm x->∃Z',C.call 46 [s,.str x] Z=.ok .none Z'/\Gr Z Z'
end
section
variable{ns:List Int}{C:Calls}{J:Env}{Z Z':H}
theorem xS(k:Nat):∀l:List Nat,dL (.int k) (iV l)=some (decide (k∈l)):=by
 intro l
 induction l with
 | nil=>
  exact rfl
 | cons a l ih=>
  show (match some (decide ((a:Int)=k)),dL (.int k) (iV l) with | some p,some q=>some (p || q) | _,_=>.none)=_;refine gw ih ?_;show some (decide ((a:Int)=k) || decide (k∈l))=_;congr 1;exact iw (uh ..) (gw (fi ..) (gw (decide_eq_true_eq ..) (gw (decide_eq_true_eq ..) (gw (decide_eq_true_eq ..) (iw (ye ..) ⟨λh=>h.imp (λe=>(zam.mp e).symm) id,λh=>h.imp (λe=>zam.mpr e.symm) id⟩)))))
theorem a1e{k:Nat}:∀(l:List Nat) (i:Nat),k∈l->∃m,gH (.int k) (iV l) i=some (i+m)/\l[m]?=some k:=by
 intro l
 induction l with
 | nil=>
  intro _ h;exact Ue h yl
 | cons a l ih=>
  intro i h;show ∃m,(if decide ((a:Int)=k)=true then (dL (.int k) (iV l)).map λz=>i else gH (.int k) (iV l) (i+1))=some (i+m)/\(a::l)[m]?=some k;by_cases e:a=k
  ·exact gw (Ua (Uc (zam.mpr e)) ..) (gw (xS ..) ⟨0,rfl,Uf some e⟩)
  ·rw [Ub (by rw [Ud λq=>e (zam.mp q)];exact vg)];obtain ⟨m,q,w⟩:=ih (i+1) ((ye.mp h).elim (λq=>Ue q.symm e) id);exact ⟨m+1,q.trans (Uf some (wz i m)),w⟩
theorem yG{l:List Nat}{i:Nat}(h:i<l.length):(iV l)[i]?=rI (l[i]):=by unfold iV;refine gw (yk ..) (gw (zg h ..) ?_);rfl
theorem fP(l:List Nat):(iV l).length=l.length:=zb ..
theorem yE(p i:Nat):min (p:Int) i=((min p i:Nat):Int):=by
 rcases fo p i with h | h
 ·exact gw (yo h ..) (gw (fw (xd.mpr h) ..) rfl)
 ·exact gw (vq h ..) (gw (gy (xd.mpr h) ..) rfl)
theorem inI{b:Nat}{bs:List Nat}(k:Nat)(hb:Z[b]?=some (.list (iV bs))):eA .N (.int k) (.ref b) Z=.ok (.bool (decide (k∈bs))) Z:=by show (match Z[b]? with | some (.list xs)=>bF ((dL (.int k) xs).map (yes false)) Z | some (.dict kvs)=>onS (.int k) (λx=>.ret (yes false (aW kvs x).isSome)) Z | _=>R.stuck)=_;refine gw hb ?_;show bF ((dL (.int k) (iV bs)).map (yes false)) Z=_;exact gw (xS ..) rfl
noncomputable def Pr(rs:List Nat)(g:Nat->Bool)(p:Nat):Prop:=(∀(j k:Nat),j<p->rs[j]?=some k->g k=false)/\(p=rs.length∨∃k,rs[p]?=some k/\g k=true)
noncomputable def Lt(rs:List Nat)(f:Nat->Bool)(p:Nat):Prop:=∃(i k:Nat),p<=i/\rs[i]?=some k/\f k=true
noncomputable def Plc(rs:List Nat)(f g:Nat->Bool)(v:V):Prop:=∃p:Nat,Pr rs g p/\((v=.none/\Lt rs f p)∨(v=.int p/\¬Lt rs f p))
theorem Pr.le{rs:List Nat}{g:Nat->Bool}{p:Nat}(h:Pr rs g p):p<=rs.length:=h.2.elim zu λq=>yd (zc.mp q.choose_spec.1).1
theorem Pr.not_lt{rs:List Nat}{g:Nat->Bool}{p q:Nat}(h:Pr rs g p)(h':Pr rs g q):¬p<q:=λl=>by
 rcases h.2 with e | ⟨k,e,w⟩
 ·exact yf.mpr h'.le (e▸l)
 ·exact vg ((h'.1 p k l e).symm.trans w)
theorem Plc.one{rs:List Nat}{f g:Nat->Bool}{v w:V}(h:Plc rs f g v)(h':Plc rs f g w):v=w:=by
 obtain ⟨p,a,b⟩:=h;obtain ⟨q,a',b'⟩:=h';obtain rfl:p=q:=kg (yf.mp (a'.not_lt a)) (yf.mp (a.not_lt a'));rcases b with ⟨rfl,b⟩ | ⟨rfl,b⟩ <;> rcases b' with ⟨rfl,b'⟩ | ⟨rfl,b'⟩
 ·rfl
 ·exact Ue b b'
 ·exact Ue b' b
 ·rfl
theorem u6{r a b:Nat}{rs as bs:List Nat}(hr:Z[r]?=some (.list (iV rs)))(ha:Z[a]?=some (.list (iV as)))(hb:Z[b]?=some (.list (iV bs)))(hz:rs.length<=50000)(hs:∀k∈as,k∈rs)(hnd:rs.Nodup):
  ∃v,evF ns C gK [.ref r,.ref a,.ref b] Z=.ok v Z/\Plc rs (λk=>decide (k∈as)) (λk=>decide (k∈bs)) v:=by
 refine cps λG' K=>?_;have hlr:biV ns .len (.ref r) Z=.ok (.int rs.length) Z:=gw (nT hr) (gw (fP ..) rfl);obtain ⟨J',Z',h,⟨p,o,hp,rfl,hp2⟩,rfl⟩:=bR (tgt:=dH 4) (body:=λJ Z=>aH ns C J Z [.x (.g .N (.i (.v 0) (.v 4)) (.v 2)) [.a 3 (.mm .mn (.v 3) (.v 4))] []]) (it:=λi=>.range i rs.length)
  (λi J Z'=>(∃(p:Nat) (o:Option V),(p=rs.length∨∃k,rs[p]?=some k/\decide (k∈bs)=true)/\J=[rF r,rF a,rF b,rI p,o,.none]/\∀j k,j<i->rs[j]?=some k->k∈bs->p<=j)/\Z'=Z) rs.length (λy y y=>cH)
  (λi J Z' hi q=>by
   obtain ⟨⟨p,o,hp,rfl,hp2⟩,rfl⟩:=q;have hc:Ev ns C [rF r,rF a,rF b,rI p,rI i,.none] (.g .N (.i (.v 0) (.v 4)) (.v 2)) Z' (.bool (decide (rs[i]∈bs))) Z':=
    aM (aK rfl rfl (kZ hr (zy i) (v:=.int rs[i]) (gw (xa ..) (yG hi)))) rfl (inI _ hb)
   by_cases q:rs[i]∈bs
   ·refine ⟨.int i,_,_,Z',bJ hi,rfl,bU (hc.trans (gw (Uc q ..) rfl)) (aB (aA (aCg rfl rfl) rfl aI) aI),⟨min p i,rI i,(fo p i).elim (λw=>(yo w).symm▸hp) (λw=>(vq w).symm▸.inr ⟨_,zg hi,Uc q⟩),?_,λj k hj e hk=>?_⟩,rfl⟩
    ·show [_,_,_,rI (min (p:Int) i),_,_]=_;exact gw (yE ..) rfl
    ·exact (jd (yz hj)).elim (λq=>za (fq _ _) (hp2 j k q e hk)) λq=>q▸ju _ _
   ·refine ⟨.int i,_,_,Z',bJ hi,rfl,aL (hc.trans (gw (Ud q ..) rfl)) aI,⟨p,rI i,hp,rfl,λj k hj e hk=>?_⟩,rfl⟩;refine (jd (yz hj)).elim (λq=>hp2 j k q e hk) λw=>Ue ?_ q;subst w;replace e:=(zg hi ..)▸e;exact Option.some.inj e▸hk)
  rs.length 0 [rF r,rF a,rF b,rI rs.length,.none,.none] Z (zp _) ⟨⟨rs.length,.none,.inl rfl,rfl,λy y h=>Ue h (xi _)⟩,rfl⟩
 have hsr:=cO (ns:=ns) (C:=C) (J:=[rF r,rF a,rF b,rI rs.length,.none,.none]) (Z:=Z') (e:=.bi .len (.v 0)) (k:=rs.length) (bD rfl hlr) (nz _) (ns_ (za hz (by decide)));replace hsr:=(xa ..)▸hsr;have h2:=rX (tgt:=dH 5) (body:=λJ Z=>aH ns C J Z [.x (.g .ge (.me (.v 0) .index [(.v 5)]) (.v 3)) [.ret (.k V.none)] []]) (it:=λi=>.list a i)
  (λi J Z''=>(∃o',J=[rF r,rF a,rF b,rI p,o,o'])/\Z''=Z'/\∀k∈as.take i,k∈rs.take p) (λR=>∃J',R=.ok (.ret .none) J' Z'/\Lt rs (λk=>decide (k∈as)) p) (iV as).length (λJ Z p=>by obtain ⟨_,rfl,_⟩:=p;exact bY ha)
  (λi J Z'' hi q=>by
   obtain ⟨⟨o',rfl⟩,rfl,no⟩:=q;have hi':i<as.length:=by replace hi:=(fP ..)▸hi;exact hi
   obtain ⟨m,e1,hm⟩:=a1e rs 0 (hs as[i] (xj hi'));replace e1:=(zp ..)▸e1;have hc:Ev ns C [rF r,rF a,rF b,rI p,o,rI (as[i])] (.g .ge (.me (.v 0) .index [(.v 5)]) (.v 3)) Z'' (.bool (decide ((p:Int)<=m))) Z'':=aM (fZ rfl (kL hr rfl) rfl (aCm hr e1)) rfl (zC _ _);refine ⟨.int as[i],_,bE ha (yG hi'),rfl,?_⟩;by_cases q:(p:Int)<=m
   ·exact .inr ⟨_,bU (hc.trans (gw (Uc q ..) rfl)) (aU (aP rfl)),λy=>rfl,_,rfl,m,_,xd.mp q,hm,Uc (xj hi')⟩
   ·refine .inl ⟨_,Z'',aL (hc.trans (gw (Ud q ..) rfl)) aI,⟨_,rfl⟩,rfl,λk hk=>?_⟩;replace hk:=(bM as hi' ..)▸hk;exact (yh.mp hk).elim (no k) λw=>gw (ze.mp w ..) (ym ((ve (wc λz=>q (xd.mpr z))).trans hm)))
  (iV as).length 0 [rF r,rF a,rF b,rI p,o,.none] Z' (zp _) ⟨⟨_,rfl⟩,rfl,λy h=>Ue h yl⟩
 have pr:Pr rs (λk=>decide (k∈bs)) p:=⟨λj k hj e=>Ud λq=>Nat.not_le.mpr hj (hp2 j k (zc.mp e).1 e q),hp⟩;rcases h2 with ⟨J'',Z'',h',⟨o',rfl⟩,rfl,no⟩ | ⟨J'',h',lt⟩
 ·replace no:=(xb ..)▸(fP ..)▸no;refine K ⟨_,aN (fn:=gK) rfl (aA (bD rfl hlr) rfl (bT hsr (aB h (bT (bN rfl ha) (aB h' (aP rfl)))))),p,pr,.inr ⟨rfl,λw=>?_⟩⟩;obtain ⟨i,k,hi,e,hk⟩:=w;obtain ⟨j,hj,e'⟩:=List.mem_iff_getElem.mp (no k (of_decide_eq_true hk));have hl:j<p:=zj hj (jz _ _);have e2:rs[j]?=some k:=(ve hl).symm.trans ((zg hj).trans (Uf some e'));exact yf.mpr hi ((List.getElem?_inj (zc.mp e).1 hnd).mp (e.trans e2.symm)▸hl)
 ·exact K ⟨_,aN (fn:=gK) rfl (aA (bD rfl hlr) rfl (bT hsr (aB h (bT (bN rfl ha) (aU h'))))),p,pr,.inl ⟨rfl,lt⟩⟩
end
noncomputable def Pl.grow(P:Pl)(L k j₀ c:Nat):Pl where
 A:=λx=>match x with
  | .d j k'=>if k'=k/\j₀<=j/\j<j₀+c then L+(j-j₀) else P.A (.d j k')
  | x=>P.A x
 ow:=λi=>if i<L then P.ow i else .d (j₀+(i-L)) k
noncomputable def Pl.growH(P:Pl)(L:Nat)(x:List Nat):Pl where
 A:=λc=>match c with
  | .h y=>if y=x then L else P.A (.h y)
  | c=>P.A c
 ow:=λi=>if i<L then P.ow i else .h x
section
variable{κ:Kd}{G:Fz}{S S':St}{P P':Pl}{Z Z' Z1:H}{c c₀:Cell}{o:O}{L k j₀ n:Nat}
theorem dR{j k':Nat}(h:k'≠k∨j<j₀∨j₀+n<=j):(P.grow L k j₀ n).A (.d j k')=P.A (.d j k'):=Ub λq=>h.elim (λw=>w q.1) λw=>w.elim (yf.mpr q.2.1) (Nat.not_le.mpr q.2.2)
theorem iU{j:Nat}(h:j₀<=j)(h':j<j₀+n):(P.grow L k j₀ n).A (.d j k)=L+(j-j₀):=Ua ⟨rfl,h,h'⟩
theorem n9(hb:∀j,P'.A (.b j)=P.A (.b j))(h0:∀k,k<S.n->P'.A (.d 0 k)=P.A (.d 0 k))(hh:∀x,x∈S.names->P'.A (.h x)=P.A (.h x))(j:Nat):oY κ S P' j=oY κ S P j:=by
 match j with
 | 0=>show κ.b0 _ _ _=_;rw [hb,hb,hb];rfl
 | 1=>exact Uf O.dict (xz λx q=>gw (hh x q ..) rfl)
 | 2=>exact Uf O.list (xz λx q=>gw (h0 x (xw.mp q) ..) rfl)
 | _+3=>rfl
theorem kR{D:Dl}{j:Nat}(h:j=0->∀i,1<=i->i<5->P'.A (.d i k)=P.A (.d i k)):iC κ D P' k j=iC κ D P k j:=by
 rcases j with _ | _ | _ | _ | j
 ·show κ.dE _ _ _ _ _ _ _=_;exact gw (h rfl 1 (by decide) (by decide) ..) (gw (h rfl 2 (by decide) (by decide) ..) (gw (h rfl 3 (by decide) (by decide) ..) (gw (h rfl 4 (by decide) (by decide) ..) rfl)))
 ·rfl
 ·rfl
 ·rfl
 ·rfl
theorem Iv.grow(I:Iv κ G S P Z)(g:Gr Z Z1)(l:dU S c₀)(hne:∀j,j₀<=j->j<j₀+n->c₀≠.d j k)(hnew:∀j,j₀<=j->j<j₀+n->Z1[Z.length+(j-j₀)]?=some (ren κ S' (P.grow Z.length k j₀ n) (.d j k)))(hold:∀c,dU S' c->(∀j,j₀<=j->j<j₀+n->c≠.d j k)->dU S c/\(c≠c₀->ren κ S' (P.grow Z.length k j₀ n) c=ren κ S P c))(ho:o=ren κ S' (P.grow Z.length k j₀ n) c₀):Iv κ G S' (P.grow Z.length k j₀ n) (Z1.set (P.A c₀) o):=by
 have off:∀c,(∀j,j₀<=j->j<j₀+n->c≠.d j k)->(P.grow Z.length k j₀ n).A c=P.A c:=λc h=>by
  cases c with
  | b j=>rfl
  | h x=>rfl
  | d j k'=>exact dR (by
    by_cases q:k'=k
    ·by_cases q1:j<j₀
     ·exact .inr (.inl q1)
     ·by_cases q2:j<j₀+n
      ·exact Ue (gw q rfl) (h j (yf.mp q1) q2)
      ·exact .inr (.inr (yf.mp q2))
    ·exact .inl q)
 refine I.step g l (off c₀ hne) (λc lc=>?_) ho;by_cases q:∀j,j₀<=j->j<j₀+n->c≠.d j k
 ·obtain ⟨l1,e⟩:=hold c lc q;refine .inl ⟨l1,off c q,?_,e⟩;show (if P.A c<Z.length then P.ow (P.A c) else _)=c;exact gw (Ua (I.lt l1) ..) ((I.c c l1).2)
 ·refine .inr ?_;obtain ⟨j,q1,q2,q3⟩:∃j,j₀<=j/\j<j₀+n/\c=.d j k:=Classical.byContradiction λw=>q λj a b e=>w ⟨j,a,b,e⟩;subst q3;refine gw (iU q1 q2 ..) ?_;refine ⟨zt _ _,hnew j q1 q2,?_⟩;show (if Z.length+(j-j₀)<Z.length then _ else Cell.d (j₀+(Z.length+(j-j₀)-Z.length)) k)=_;exact gw (Ub (yf.mpr (zt _ _)) ..) (gw (xe ..) (gw (Nat.add_sub_cancel' q1 ..) rfl))
theorem Iv.growH(I:Iv κ G S P Z){x:List Nat}(g:Gr Z Z1)(l:dU S c₀)(hne:c₀≠.h x)(hnew:Z1[Z.length]?=some (ren κ S' (P.growH Z.length x) (.h x)))(hold:∀c,dU S' c->c≠.h x->dU S c/\(c≠c₀->ren κ S' (P.growH Z.length x) c=ren κ S P c))(ho:o=ren κ S' (P.growH Z.length x) c₀):Iv κ G S' (P.growH Z.length x) (Z1.set (P.A c₀) o):=by
 have off:∀c,c≠.h x->(P.growH Z.length x).A c=P.A c:=λc h=>by
  cases c with
  | b j=>rfl
  | d j k=>rfl
  | h y=>exact Ub λe=>h (by exact gw e rfl)
 refine I.step g l (off c₀ hne) (λc lc=>?_) ho;by_cases q:c=.h x
 ·subst q;refine .inr ?_;have e:(P.growH Z.length x).A (.h x)=Z.length:=Ua rfl;exact gw e ⟨zf _,hnew,Ub (xg _)⟩
 ·obtain ⟨l1,e⟩:=hold c lc q;refine .inl ⟨l1,off c q,?_,e⟩;show (if P.A c<Z.length then P.ow (P.A c) else _)=c;rw [Ua (I.lt l1)];exact (I.c c l1).2
end
section
variable{ns:List Int}{C:Calls}{J:Env}{Z Z' Z1 Z2 Z3 Z4:H}{G:Fz}{S:St}{P:Pl}
theorem tF(a t:H)(o:O):(a++[o]++t)[a.length]?=some o:=(Gr.app _ t).at (aE a o)
theorem tK(a t:H)(o o':O):(a++[o]++t).set a.length o'=a++[o']++t:=by rw [zbd _ _ (by rw [zd];exact yv _),n5]
theorem k6{c:Nat}{t:H}{kvs:Kv}{n:List Nat}{v:V}(h:zat (bP kvs n v).length 16=true):iT (.inst c Z.length) n v (Z++[.dict kvs]++t)=.ok .none (Z++[.dict (bP kvs n v)]++t):=by exact gw (rL (tF Z t _) (za (wy h) (by decide)) ..) (gw (tK ..) rfl)
theorem yS(Z t:H)(o:O):Z.length+1+t.length=(Z++[o]++t).length:=gw (zd ..) (gw (zd ..) rfl)
theorem j7(t:H)(o:O):Ev ns C J (.list []) (Z++[o]++t) (.ref (Z.length+1+t.length)) (Z++[o]++(t++[.list []])):=by exact gw (yS Z t o ..) (bw (zh ..) (bV rfl (yj _)))
theorem oV(t:H)(o:O):Ev ns C J .dict0 (Z++[o]++t) (.ref (Z.length+1+t.length)) (Z++[o]++(t++[.dict []])):=by exact gw (yS Z t o ..) (bw (zh ..) rfl)
noncomputable def dl0(r:Nat):Dl:=⟨r,0,0,[],[],[],[]⟩
theorem sD(r:Nat):evF ns C cC [.inst 0 Z.length,.int r] (Z++[.dict []])=.ok .none (Z++[.dict (dlE r 0 0 (Z.length+1) (Z.length+2) (Z.length+3) (Z.length+4))]++[.list [],.list [],.dict [],.dict []]):=by have e:Z++[O.dict []]=Z++[O.dict []]++[]:=(yw _).symm;exact gw e (m3 (fn:=cC) rfl (eI rfl rfl (k6 rfl) (eI rfl rfl (k6 rfl) (eI rfl rfl (k6 rfl) (eI (j7 _ _) rfl (k6 rfl) (eI (j7 _ _) rfl (k6 rfl) (eI (oV _ _) rfl (k6 rfl) (eI (oV _ _) rfl (k6 rfl) aI))))))))
end
noncomputable def St.beg(S:St):St:={ S.setD S.n (dl0 S.row.length) with n:=S.n+1 }
noncomputable def Pl.Sim(P P':Pl):Prop:=P'.A (.b 0)=P.A (.b 0)
section
variable{ns:List Int}{C:Calls}{J:Env}{Z Z' Z1:H}{G:Fz}{S:St}{P:Pl}
theorem iY(a t:H)(o:O)(i:Nat):(a++[o]++t)[a.length+(i+1)]?=t[i]?:=by rw [zv (by rw [zd];exact yg (kf 1 i) _)];congr 1;exact gw (zd ..) (zbe _ _ _)
noncomputable abbrev aHz(C:Calls):Prop:=∀(r:Nat) (Z:H),C.new 0 [.int r] Z=.ok (.inst 0 Z.length) (Z++[.dict (dlE r 0 0 (Z.length+1) (Z.length+2) (Z.length+3) (Z.length+4))]++[.list [],.list [],.dict [],.dict []])
theorem a2h(h0:aHz C)(I:Inv G S P Z)(hz:S.n<=50000):∃P' Z',evF ns C gD [sh P] Z=.ok (.int S.n) Z'/\P.Sim P'/\Inv G S.beg P' Z':=by
 let P':=P.grow Z.length S.n 0 5;let Z1:=Z++[O.dict (dlE S.row.length 0 0 (Z.length+1) (Z.length+2) (Z.length+3) (Z.length+4))]++[O.list [],.list [],.dict [],.dict []];have g:Gr Z Z1:=(Gr.app Z _).tr (Gr.app _ _);let xs:List V:=(zs S.n).map λk=>.inst 0 (P.A (.d 0 k));have I':Inv G S.beg P' (Z1.set (P.A (.b 2)) (.list (xs++[.inst 0 Z.length]))):=by
  refine I.grow (S':=S.beg) g (by show 2<4;decide) (λj z z=>by intro q;cases q) (λj z hj=>?_) (λc lc hc=>?_) ?_
  ·show Z1[Z.length+(j-0)]?=some (iC shK (if S.n=S.n then dl0 S.row.length else S.d S.n) P' S.n j);refine gw (Ua rfl ..) (gw (fk ..) ?_);have hj:j<5:=zp 5▸hj;refine below (motive:=λj=>Z1[Z.length+j]?=some (iC shK (dl0 S.row.length) P' S.n j)) hj ⟨⟨⟨⟨⟨trivial,?_⟩,iY Z _ _ 0⟩,iY Z _ _ 1⟩,iY Z _ _ 2⟩,iY Z _ _ 3⟩;show Z1[Z.length]?=some (.dict (dlE _ _ _ (P'.A (.d 1 S.n)) (P'.A (.d 2 S.n)) (P'.A (.d 3 S.n)) (P'.A (.d 4 S.n))));exact gw (iU (by decide) (by decide) ..) (gw (iU (by decide) (by decide) ..) (gw (iU (by decide) (by decide) ..) (gw (iU (by decide) (by decide) ..) (tF Z _ _))))
  ·cases c with
   | b j=>exact ⟨lc,λq=>(lS (S:=S) (S':=S.beg) (q:=2) (λe=>q (by exact gw e rfl)) lc (.inr rfl) (.inl rfl) (.inr rfl)).trans (n9 (S:=S) (P:=P) (P':=P') (λz=>rfl) (λk hk=>dR (.inl (yq hk))) (λz z=>rfl) j)⟩
   | h x=>exact ⟨lc,λz=>rfl⟩
   | d j k=>
    obtain ⟨h1,h2⟩:=lc;have h2:k<S.n+1:=h2;have this:k≠S.n:=λq=>hc j (yj _) (zp 5▸h1) (gw q rfl);refine ⟨⟨h1,xm (yz h2) this⟩,λz=>?_⟩;show iC shK (if k=S.n then dl0 S.row.length else S.d k) P' k j=iC shK (S.d k) P k j;exact gw (Ub this ..) (kR (λz i z z=>dR (.inl this)))
  ·show O.list _=.list ((zs (S.n+1)).map λk=>V.inst 0 (P'.A (.d 0 k)));refine gw (fx ..) (gw (xc ..) ?_);congr 2
   ·exact xz λk q=>gw (dR (.inl (yq (xw.mp q))) ..) rfl
   ·show _=[V.inst 0 (P'.A (.d 0 S.n))];exact gw (iU (by decide) (by decide) ..) rfl
 refine ⟨P',_,aN (fn:=gD) rfl (b5 (fZ (aO rfl (fC I)) (kL (I.b 2 (by decide)) rfl) (a9 (aBm (a9 (bD (aO rfl (jG I)) (eQ I))) (h0 _ _))) (kY (xs:=xs) (g.at (I.b 2 (by decide))) ?_)) (aP (bB (bD (aO (x:=sh P) rfl (fC (P:=P') I')) (gP (P:=P') I')) rfl ?_))),rfl,I'⟩
 ·show (zbf _ _).length+1<=lim;exact gw (zb ..) (gw (we ..) (lm1 (za hz (by decide))))
 ·show R.ok (V.int (((S.n+1:Nat):Int)-1)) _=_;congr 2;exact je (S.n:Int) 1
end
section
variable{ns:List Int}{C:Calls}{J:Env}{Z Z' Z1 Z2 Z3 Z4:H}{G:Fz}{S:St}{P:Pl}{k:Nat}
noncomputable abbrev dG(C:Calls):Prop:=∀{G:Fz}{S:St}{P:Pl}{Z:H}{k:Nat},Inv G S P Z->k<S.n->((S.d k).st=0->C.call 45 [sh P,.int k] Z=.ok (dl P k) Z)/\((S.d k).st≠0->C.call 45 [sh P,.int k] Z=.exc 2 Z)
theorem lC(h31:dG C)(hm:C.U=aJ T0)(I:Inv G S P Z)(hk:k<S.n)(ho:(S.d k).st=0)(h0:J[0]?=some (some (sh P)))(h1:J[1]?=some (rI k)):Ev ns C J (.u (.v 0) Nl [(.v 1)]) Z (dl P k) Z:=
 aV (cY h0) (aY hm (I.b 0 (by decide)) rfl rfl) (a9 (cY h1)) ((h31 I hk).1 ho)
theorem wD(h31:dG C)(hm:C.U=aJ T0)(I:Inv G S P Z)(hk:k<S.n)(ho:(S.d k).st≠0)(h0:J[0]?=some (some (sh P)))(h1:J[1]?=some (rI k)):evE ns C J (.u (.v 0) Nl [(.v 1)]) Z=.exc 2 Z:=
 eR (cY h0) (aY hm (I.b 0 (by decide)) rfl rfl) (a9 (cY h1)) ((h31 I hk).2 ho)
theorem xO(ws:Ws)(n:List Nat)(t:Option Int):wV ws++[.tup [.str n,val t]]=wV (ws++[(n,t)]):=by unfold wV;exact gw (xc ..) rfl
theorem iJ(ws:Ws):(wV ws).length=ws.length:=zb ..
theorem eV{es:List E}{vs:List V}(h1:Evs ns C J es Z vs Z1)(h:zat vs.length 16=true):Ev ns C J (.tup es) Z (.tup vs) Z1:=aFc h1 (za (wy h) (by decide))
theorem Iv.said{κ:Kd}(I:Iv κ G S P Z)(hk:k<S.n)(v:V):Iv κ G (S.setD k { S.d k with said:=(S.d k).said++[v] }) P (Z.set (P.A (.d 2 k)) (.list ((S.d k).said++[v]))):=
 I.storeD (j:=2) ⟨(by decide:2<5),hk⟩ (λi hi h5=>dJ (q:=2) hi h5 (.inr ⟨rfl,rfl,rfl⟩) (.inr rfl) (.inl rfl) (.inr rfl) (.inr rfl)) rfl
theorem aHy{e1 e2 e3:E}{p q r:Bool}(h1:Ev ns C J e1 Z (.bool p) Z)(h2:Ev ns C J e2 Z (.bool q) Z)(h3:Ev ns C J e3 Z (.bool r) Z):Ev ns C J (.and [e1,e2,e3]) Z (.bool (p&&(q&&r))) Z:=by
 cases p
 ·exact jU h1
 ·cases q
  ·exact hU h1 (jU h2)
  ·exact hU h1 (hU h2 (jR h3))
noncomputable def tkn(S:St)(k:Nat)(n:List Nat)(j:Nat):Bool:=!decide ((j:Int)=k)&&(decide (iL (S.d j).st=Ng)&&bX (S.d j).ws n)
noncomputable def taken(S:St)(k:Nat)(n:List Nat):Bool:=(zs S.n).any (tkn S k n)
noncomputable def lat(t:Nat)(l:List (Nat×Option Int)):Bool:=l.any λp=>decide (t<p.1)
theorem a0x{f:Nat->Bool}{i:Nat}(h:(zs i).any f=false)(h':f i=false):(zs (i+1)).any f=false:=by exact gw fx (gw fu (gw h (gw (jc ..) (gw h' rfl))))
theorem a1n(hm:C.U=aJ T0)(h31:dG C)(h32:oE C)(h4:∀{t Z},inR t->C.call 4 [val t] Z=.ok (.bool true) Z)(h8:qW C)(I:Inv G S P Z)(hh:∀x,x∉S.names->S.I x=[])(hk:k<S.n)(hz:S.n<=50000)(hw:∀j,j<S.n->(S.d j).ws.length<=50000)(hs:(S.d k).said.length<=50000)(ho:(S.d k).st=0){n:List Nat}(hx:Nm n){t:Option Int}(ht:inR t):
  ∃Z',(∃e,evF ns C aX [sh P,.int k,.str n,val t] Z=.exc e Z'/\Inv G S P Z'/\((taken S k n=true/\e=6)∨(taken S k n=false/\lat (S.d k).start (S.I n)=true/\e=7)))∨(taken S k n=false/\lat (S.d k).start (S.I n)=false/\evF ns C aX [sh P,.int k,.str n,val t] Z=.ok .none Z'/\Inv G (S.setD k { S.d k with ws:=(S.d k).ws++[(n,t)],said:=(S.d k).said++[.tup [.str Nu,.str n,val t]] }) P Z'):=by
 refine cps λG' K=>?_;obtain ⟨Z1,e32,g1⟩:=h32 (sh P) Z hx;have I1:=I.gr g1;have a1:∀{R:RS}{b:List Mine.Internal.S},aH ns C [some (sh P),rI k,rS n,some (val t),some (dl P k),.none,.none,.none,.none] Z1 (.Z 5 (.range (.bi .len (.attr (.v 0) Nc))) b::aX.body.drop 4)=R ->
   aH ns C [some (sh P),rI k,rS n,some (val t),.none,.none,.none,.none,.none] Z ([.a 4 (.u (.v 0) Nl [(.v 1)]),.expr (.u (.v 0) Nw [(.v 2)]),.x (.not (.call 4 [(.v 3)])) [.dead] []]++.Z 5 (.range (.bi .len (.attr (.v 0) Nc))) b::aX.body.drop 4)=R:=λh=>
  aA (lC h31 hm I hk ho rfl rfl) rfl (b5 (aV rfl (aY hm (I.b 0 (by decide)) rfl rfl) rfl e32) (aL (cE (aG rfl (h4 ht)) rfl) h))
 have hsr:=cO (ns:=ns) (C:=C) (J:=[some (sh P),rI k,rS n,some (val t),some (dl P k),.none,.none,.none,.none]) (Z:=Z1) (e:=.bi .len (.attr (.v 0) Nc)) (k:=S.n) (bD (aO rfl (fC I1)) (gP I1)) (nz _) (ns_ (za hz (by decide)));rw [xa] at hsr;have q1:=rX (tgt:=dH 5) (body:=λJ Z=>aH ns C J Z [.a 6 (.i (.attr (.v 0) Nc) (.v 5)),
  .x (.and [(.g .ne (.v 5) (.v 1)),(.g .eq (.attr (.v 6) Nn) (.k (V.str Ng))),(.call 8 [(.v 6),(.v 2)])]) [.raise 6] []]) (it:=λi=>.range i S.n)
  (λi J Z'=>(∃o o',J=[some (sh P),rI k,rS n,some (val t),some (dl P k),o,o',.none,.none])/\Z'=Z1/\(zs i).any (tkn S k n)=false) (λR=>∃J',R=.exc 6 J' Z1/\taken S k n=true) S.n (λz z z=>cH)
  (λi J Z' hi p=>by
   obtain ⟨⟨o,o',rfl⟩,rfl,no⟩:=p;have hc:Ev ns C [some (sh P),rI k,rS n,some (val t),some (dl P k),rI i,some (dl P i),.none,.none] (.and [(.g .ne (.v 5) (.v 1)),(.g .eq (.attr (.v 6) Nn) (.k (V.str Ng))),(.call 8 [(.v 6),(.v 2)])]) Z' (.bool (tkn S k n i)) Z':=
    aHy (aM rfl rfl (neI _ _)) (aM (aO rfl (j6 I1 hi)) rfl (eqS _ _)) (aG rfl (h8 I1 hi (hw i hi) n))
   refine ⟨.int i,_,bJ hi,rfl,?_⟩;cases hb:tkn S k n i with
   | true=>exact .inr ⟨_,aA (aK (aO rfl (fC I1)) rfl (cD I1 hi)) rfl (bU (hb▸hc) (eO n8)),λz=>rfl,_,rfl,wu.mpr ⟨i,xw.mpr hi,hb⟩⟩
   | false=>exact .inl ⟨_,_,aA (aK (aO rfl (fC I1)) rfl (cD I1 hi)) rfl (aL (hb▸hc) aI),⟨_,_,rfl⟩,rfl,a0x no hb⟩)
  S.n 0 [some (sh P),rI k,rS n,some (val t),some (dl P k),.none,.none,.none,.none] Z1 (zp _) ⟨⟨_,_,rfl⟩,rfl,rfl⟩
 rcases q1 with ⟨J',Z',h,⟨o,o',rfl⟩,rfl,tk⟩ | ⟨J',h,tk⟩
 ·obtain ⟨l,eg,hl⟩:=mV (ns:=ns) (C:=C) (J:=[some (sh P),rI k,rS n,some (val t),some (dl P k),o,o',.none,.none]) (i:=2) I1 hh rfl rfl;have I2:=I1.gr (Gr.app Z' [.list []]);have q2:=rX (tgt:=m8 7 8) (body:=λJ Z=>aH ns C J Z [.x (.g .gt (.v 7) (.attr (.v 4) Na)) [.raise 7] []]) (it:=λi=>.list l i)
   (λi J Z''=>(∃q q',J=[some (sh P),rI k,rS n,some (val t),some (dl P k),o,o',q,q'])/\Z''=Z'++[.list []]/\lat (S.d k).start ((S.I n).take i)=false) (λR=>∃J',R=.exc 7 J' (Z'++[.list []])/\lat (S.d k).start (S.I n)=true) (hV (S.I n)).length (λJ Z p=>by obtain ⟨_,rfl,_⟩:=p;exact bY hl)
   (λi J Z'' hi p=>by
    obtain ⟨⟨q,q',rfl⟩,rfl,no⟩:=p;have hi':i<(S.I n).length:=by rw [hV,zb] at hi;exact hi
    have hc:Ev ns C [some (sh P),rI k,rS n,some (val t),some (dl P k),o,o',rI ((S.I n)[i].1),some (val (S.I n)[i].2)] (.g .gt (.v 7) (.attr (.v 4) Na)) (Z'++[.list []]) (.bool (decide ((S.d k).start<(S.I n)[i].1))) (Z'++[.list []]):=
     (aM rfl (aO rfl (kA I2 hk)) (nJ _ _)).trans (gw (pM ..) rfl)
    refine ⟨_,_,bE hl (uD hi'),rfl,?_⟩;cases hb:decide ((S.d k).start<(S.I n)[i].1) with
    | true=>exact .inr ⟨_,bU (hb▸hc) (eO n8),λz=>rfl,_,rfl,wu.mpr ⟨_,xj hi',hb⟩⟩
    | false=>exact .inl ⟨_,_,aL (hb▸hc) aI,⟨_,_,rfl⟩,rfl,by unfold lat at no ⊢;exact gw (bM _ hi') (gw fu (gw no (gw (jc ..) (gw hb rfl))))⟩)
   (hV (S.I n)).length 0 [some (sh P),rI k,rS n,some (val t),some (dl P k),o,o',.none,.none] (Z'++[.list []]) (zp _) ⟨⟨_,_,rfl⟩,rfl,rfl⟩
  rcases q2 with ⟨J'',Z'',h',⟨q,q',rfl⟩,rfl,lt⟩ | ⟨J'',h',lt⟩
  ·rw [show (hV (S.I n)).length=(S.I n).length from zb ..,xb] at lt;let D1:Dl:={ S.d k with ws:=(S.d k).ws++[(n,t)] };have I3:Inv G (S.setD k D1) P ((Z'++[O.list []]).set (P.A (.d 1 k)) (O.list (wV (S.d k).ws++[V.tup [.str n,val t]]))):=I2.storeD ⟨(by decide:1<5),hk⟩ (λi hi h5=>dJ (q:=1) hi h5 (.inr ⟨rfl,rfl,rfl⟩) (.inl rfl) (.inr rfl) (.inr rfl) (.inr rfl)) (Uf O.list (xO _ _ _));have eD:(S.setD k D1).d k=D1:=S.setD_at k D1;have hk':k<(S.setD k D1).n:=hk;have I4:=I3.said hk' (.tup [.str Nu,.str n,val t]);have hsd:=I3.d 2 (by decide) hk';rw [eD] at hsd I4;rw [St.setD_setD] at I4;refine K ⟨_,.inr ⟨tk,lt,m3 (fn:=aX) rfl (a1 (bT hsr (aB h (lK (bN eg hl) (aB h' (b5 (fZ (aO rfl (j9 I2 hk)) (kL (I2.d 1 (by decide) hk) rfl) (a9 (eV rfl rfl)) (kY (I2.d 1 (by decide) hk) ?_)) (b5 (fZ (aO rfl (nW I3 hk')) (kL hsd rfl) (a9 (eV rfl rfl)) (kY hsd ?_)) aI))))))),I4⟩⟩
   ·show (wV _).length+1<=lim;rw [iJ];exact lm1 (za (hw k hk) (by decide))
   ·exact lm1 (za hs (by decide))
  ·exact K ⟨_,.inl ⟨7,jX (fn:=aX) rfl (a1 (bT hsr (aB h (lK (bN eg hl) (eO h'))))),I2,.inr ⟨tk,lt,rfl⟩⟩⟩
 ·exact K ⟨_,.inl ⟨6,jX (fn:=aX) rfl (a1 (bT hsr (eO h))),I1,.inl ⟨tk,rfl⟩⟩⟩
theorem wS(hm:C.U=aJ T0)(h31:dG C)(I:Inv G S P Z)(hk:k<S.n)(ho:(S.d k).st≠0){n v:V}:evF ns C aX [sh P,.int k,n,v] Z=.exc 2 Z:=
 jX (fn:=aX) rfl (fF (wD h31 hm I hk ho rfl rfl))
end
theorem St.setD_same(S:St)(k:Nat):S.setD k (S.d k)=S:=by
 unfold St.setD;have:(λj=>if j=k then S.d k else S.d j)=S.d:=funext λj=>by
  by_cases h:j=k
  ·exact gw (Ua h ..) (gw h rfl)
  ·exact gw (Ub h ..) rfl
 exact gw (this ..) rfl
noncomputable def cI(l:List (List Nat))(n:List Nat):List (List Nat):=if n∈l then l else l++[n]
theorem pH(l:List (List Nat))(n:List Nat):(cI l n).length<=l.length+1:=by
 unfold cI;refine ic ite_ (λz=>?_) λz=>?_
 ·exact yi _
 ·exact gw (zd ..) (zf _)
theorem sI(n:List Nat):∀l:List (List Nat),bP (tV l) n (.bool true)=tV (cI l n):=by
 intro l
 induction l with
 | nil=>
  exact rfl
 | cons a l ih=>
  show (if a=n then (a,V.bool true)::tV l else (a,V.bool true)::bP (tV l) n (.bool true))=_;refine gw ih ?_;unfold cI;by_cases h:a=n
  ·exact gw (Ua h ..) (gw (Ua (h▸zm) ..) rfl)
  ·refine gw (Ub h ..) ?_;by_cases h':n∈l
   ·exact gw (Ua h' ..) (gw (Ua (zr _ h') ..) rfl)
   ·exact gw (Ub h' ..) (gw (Ub (λq=>(ye.mp q).elim (λe=>h e.symm) h')) rfl)
noncomputable def lw(ws:Ws)(n:List Nat):Option (Option Int):=ws.foldl (λa q=>if q.1=n then some q.2 else a) .none
theorem sK(n:List Nat)(ws:Ws):pS .none ws n=(lw ws n).map val:=by
 have:∀(ws:Ws) (o:Option (Option Int)),pS (o.map val) ws n=(ws.foldl (λa q=>if q.1=n then some q.2 else a) o).map val:=by
  intro ws
  induction ws with
  | nil=>intro o;rfl
  | cons p ws ih=>
   intro o;show pS (if p.1=n then some (val p.2) else o.map val) ws n=(ws.foldl _ (if p.1=n then some p.2 else o)).map val;rw [←ih];congr 1;split <;> rfl
 exact this ws .none
theorem xI{s t:Option Int}(h:val s=val t):s=t:=by
 cases s with
 | none=>cases t with
  | none=>rfl
  | some j=>cases h
 | some i=>cases t with
  | none=>cases h
  | some j=>cases h;rfl
theorem a7h{o:Option (Option Int)}{t:Option Int}(h:o.map val=some (val t)):o=some t:=by
 cases o with
 | none=>cases h
 | some s=>exact Uf some (xI (Option.some.inj h))
theorem aFz(ws:Ws)(n:List Nat):(lw ws n).isSome=bX ws n:=by unfold bX;refine gw (sK ..) ?_;cases lw ws n <;> rfl
noncomputable def amv(l:List (Nat×Option Int))(m:Nat):Option Int:=l.foldl (λa p=>if p.1<=m then p.2 else a) .none
theorem a2g(l:List (Nat×Option Int))(p:Nat×Option Int)(m:Nat):amv (l++[p]) m=if p.1<=m then p.2 else amv l m:=by unfold amv;exact gw (vw ..) rfl
noncomputable def sb(ws:Ws)(f:List Nat->Option Int)(n:List Nat):Option Int:=(lw ws n).getD (f n)
noncomputable def St.base(S:St)(k:Nat)(n:List Nat):Option Int:=amv (S.I n) (S.d k).start
section
variable{ns:List Int}{C:Calls}{J:Env}{Z Z' Z1 Z2 Z3 Z4:H}{G:Fz}{S:St}{P:Pl}{k c:Nat}
theorem bH{α:Type}(l:List α)(a:α):(l++[a]).length=l.length+1:=gw (zd ..) rfl
theorem qJ{l:Nat}{xs:List V}(hl:Z[l]?=some (.list xs))(h:xs.length<=50000):biV ns .list (.ref l) Z=.ok (.ref Z.length) (Z++[.list xs]):=by
 have e:b9 Z (.ref l)=some xs:=by unfold b9;dsimp only;exact gw hl rfl
 show (bF (b9 Z (.ref l))).bnd fY Z=_;rw [e];exact eU (lm h)
theorem tM(I:Inv G S P Z)(hh:∀x,x∉S.names->S.I x=[]){n:List Nat}{m:Nat}:∃Z',evF ns C dO [sh P,.str n,.int m] Z=.ok (val (amv (S.I n) m)) Z'/\Gr Z Z':=by
 obtain ⟨l,e,hl⟩:=mV (ns:=ns) (C:=C) (J:=[some (sh P),rS n,rI m,some .none,.none,.none]) (i:=1) I hh rfl rfl;obtain ⟨J',Z',h,⟨o,o',rfl⟩,rfl⟩:=bR (tgt:=m8 4 5) (body:=λJ Z=>aH ns C J Z [.x (.g .le (.v 4) (.v 2)) [.a 3 (.v 5)] []]) (it:=λi=>.list l i)
  (λi J Z'=>(∃o o',J=[some (sh P),rS n,rI m,some (val (amv ((S.I n).take i) m)),o,o'])/\Z'=Z++[.list []]) (hV (S.I n)).length (λJ Z p=>by obtain ⟨_,rfl⟩:=p;exact bY hl)
  (λi J Z' hi p=>by
   obtain ⟨⟨o,o',rfl⟩,rfl⟩:=p;have hi':i<(S.I n).length:=by rw [hV,zb] at hi;exact hi
   have es:=a2g ((S.I n).take i) (S.I n)[i] m;replace es:=(bM _ hi' ..)▸es;by_cases q:(S.I n)[i].1<=m
   ·replace es:=(Ua q ..)▸es;exact ⟨_,_,_,_,bE hl (uD hi'),rfl,bU (aM rfl rfl (zV (xd.mpr q))) (aB (aA rfl rfl aI) aI),⟨_,_,gw es rfl⟩,rfl⟩
   ·replace es:=(Ub q ..)▸es;exact ⟨_,_,_,_,bE hl (uD hi'),rfl,aL (aM rfl rfl (aIb λz=>q (xd.mp z))) aI,⟨_,_,gw es rfl⟩,rfl⟩)
  (hV (S.I n)).length 0 [some (sh P),rS n,rI m,some .none,.none,.none] (Z++[.list []]) (zp _) ⟨⟨_,_,rfl⟩,rfl⟩
 rw [show (S.I n).take (hV (S.I n)).length=S.I n by rw [show (hV (S.I n)).length=(S.I n).length from zb ..,xb]] at h;exact ⟨_,aN (fn:=dO) rfl (aA rfl rfl (lK (bN e hl) (aB h (aP rfl)))),Gr.app _ _⟩
noncomputable abbrev AtM(C:Calls):Prop:=∀{G:Fz}{S:St}{P:Pl}{Z:H},Inv G S P Z->(∀x,x∉S.names->S.I x=[])->∀{n:List Nat}{m:Nat},∃Z',C.call 47 [sh P,.str n,.int m] Z=.ok (val (amv (S.I n) m)) Z'/\Gr Z Z'
theorem vU(hm:C.U=aJ T0)(h6:xA C)(h33:AtM C)(I:Inv G S P Z)(hh:∀x,x∉S.names->S.I x=[])(hk:k<S.n)(hz:(S.d k).ws.length<=50000)(n:List Nat):∃Z',evF ns C dC [sh P,dl P k,.str n] Z=.ok (val (sb (S.d k).ws (S.base k) n)) Z'/\Gr Z Z':=by
 obtain ⟨p,hp',q⟩:=h6 (I.d 1 (by decide) hk) hz n;have ha:Ev ns C [some (sh P),some (dl P k),rS n,.none] (.call 6 [(.attr (.v 1) Nh),(.v 2)]) Z (.int p) Z:=aG (bW (aO rfl (j9 I hk)) rfl) hp';unfold LP at q;replace q:=(sK ..)▸(xb ..)▸q;unfold sb;rcases q with ⟨rfl,q⟩ | ⟨j,t,rfl,q,q'⟩
 ·obtain ⟨Z2,e2,g2⟩:=h33 I hh (n:=n) (m:=(S.d k).start);exact gw (show lw (S.d k).ws n=.none from Option.map_eq_none_iff.mp q) ⟨Z2,aN (fn:=dC) rfl (aA ha rfl (aL (aM rfl rfl ((zC _ _).trans rfl)) (aP (aV rfl (aY hm (I.b 0 (by decide)) rfl rfl) (bW rfl (aO rfl (kA I hk))) e2)))),g2⟩
 ·obtain ⟨hj,ej⟩:=zc.mp q;have e1:(wV (S.d k).ws)[j]?=some (.tup [.str n,val t]):=gw (uY hj ..) (gw ej rfl);exact gw (a7h q' ..) ⟨Z,aN (fn:=dC) rfl (aA ha rfl (bU (aM rfl rfl ((zC _ _).trans (gw (Uc (zy j) ..) rfl))) (aU (aP (aK (aK (aO rfl (j9 I hk)) rfl (kZ (I.d 1 (by decide) hk) (zy j) e1)) rfl rfl))))),Gr.rfl⟩
noncomputable abbrev mT(C:Calls):Prop:=∀{G:Fz}{S:St}{P:Pl}{Z:H}{k:Nat},Inv G S P Z->(∀x,x∉S.names->S.I x=[])->k<S.n->(S.d k).ws.length<=50000->∀n,∃Z',C.call 48 [sh P,dl P k,.str n] Z=.ok (val (sb (S.d k).ws (S.base k) n)) Z'/\Gr Z Z'
theorem a0s(hm:C.U=aJ T0)(h31:dG C)(I:Inv G S P Z)(hk:k<S.n)(ho:(S.d k).st≠0){n:V}:evF ns C cP [sh P,.int k,n] Z=.exc 2 Z:=
 jX (fn:=cP) rfl (fF (wD h31 hm I hk ho rfl rfl))
noncomputable def Dl.rd(D:Dl)(n:List Nat)(v:V):Dl:={ D with seen:=if bX D.ws n then D.seen else cI D.seen n,said:=D.said++[v] }
theorem a9r(hm:C.U=aJ T0)(h31:dG C)(h32:oE C)(h34:mT C)(h8:qW C)(I:Inv G S P Z)(hh:∀x,x∉S.names->S.I x=[])(hk:k<S.n)(ho:(S.d k).st=0)(hz:(S.d k).ws.length<=50000)(hs:(S.d k).said.length<=50000)(hsn:(S.d k).seen.length<=50000){n:List Nat}(hx:Nm n):
  ∃Z',evF ns C cP [sh P,.int k,.str n] Z=.ok (val (sb (S.d k).ws (S.base k) n)) Z'/\Inv G (S.setD k ((S.d k).rd n (.tup [.str NB,.str n,val (sb (S.d k).ws (S.base k) n)]))) P Z':=by
 refine cps λG' K=>?_;obtain ⟨Z1,e1,g1⟩:=h32 (sh P) Z hx;have I1:=I.gr g1;obtain ⟨Z2,e2,g2⟩:=h34 I1 hh hk hz n;have I2:=I1.gr g2;have e8:=h8 I2 hk hz n;generalize ht:sb (S.d k).ws (S.base k) n=t at e2 K;obtain ⟨Z3,s3,I3⟩:∃Z3,aH ns C [some (sh P),rI k,rS n,some (dl P k),some (val t)] Z2 (if !bX (S.d k).ws n then [.T (.attr (.v 3) NG) (.v 2) (.k (V.bool true))] else [])=.ok .next [some (sh P),rI k,rS n,some (dl P k),some (val t)] Z3/\Inv G (S.setD k { S.d k with seen:=if bX (S.d k).ws n then (S.d k).seen else cI (S.d k).seen n }) P Z3:=by
  cases bX (S.d k).ws n with
  | true=>
   refine ⟨Z2,aI,?_⟩;have:S.setD k { S.d k with seen:=(S.d k).seen }=S:=St.setD_same S k;show Inv G (S.setD k { S.d k with seen:=(S.d k).seen }) P Z2;exact gw (this ..) I2
  | false=>
   have hl:=f0 n (.bool true) (tV (S.d k).seen);have hl':(tV (S.d k).seen).length=(S.d k).seen.length:=by unfold tV;exact gw (zb ..) rfl
   exact ⟨_,iR rfl (aO rfl (y8 I2 hk)) rfl (setD (v:=.bool true) (x:=n) (I2.d 3 (by decide) hk) (lmx hl (hl'▸za hsn (by decide)))) aI,
    I2.storeD (j:=3) (k:=k) (D:={ S.d k with seen:=cI (S.d k).seen n }) (o:=.dict (bP (tV (S.d k).seen) n (.bool true))) ⟨(by decide:3<5),hk⟩ (λi hi h5=>dJ (q:=3) hi h5 (.inr ⟨rfl,rfl,rfl⟩) (.inr rfl) (.inr rfl) (.inl rfl) (.inr rfl)) (Uf O.dict (sI n _))⟩
 generalize hsq:(if bX (S.d k).ws n then (S.d k).seen else cI (S.d k).seen n)=sn at I3;have eD:(S.setD k { S.d k with seen:=sn }).d k={ S.d k with seen:=sn }:=S.setD_at k _;have hk':k<(S.setD k { S.d k with seen:=sn }).n:=hk;have hsd:=I3.d 2 (by decide) hk';have I4:=I3.said hk' (.tup [.str NB,.str n,val t]);rw [eD] at hsd I4;replace I4:=(St.setD_setD ..)▸I4;refine K ⟨_,aN (fn:=cP) rfl (aA (lC h31 hm I hk ho rfl rfl) rfl (b5 (aV rfl (aY hm (I.b 0 (by decide)) rfl rfl) rfl e1) (aA (aV rfl (aY hm (I1.b 0 (by decide)) rfl rfl) rfl e2) rfl (mX (cE (aG rfl e8) rfl) (aB s3 (b5 (fZ (aO rfl (nW I3 hk')) (kL hsd rfl) (a9 (eV rfl rfl)) (kY hsd (lm1 (n:=(S.d k).said.length) (za hs (by decide))))) (aP rfl))))))),?_⟩;unfold Dl.rd;exact gw hsq I4
end
theorem fX{l:List (List Nat)}{n y:List Nat}:y∈cI l n↔y∈l∨y=n:=by
 unfold cI;refine ic ite_ (λh=>?_) λz=>?_
 ·exact ⟨.inl,λq=>q.elim id λe=>e▸h⟩
 ·rw [yh,ze]
noncomputable def a8(l xs:List (List Nat)):List (List Nat):=xs.foldl cI l
theorem fJ{y:List Nat}:∀{xs l:List (List Nat)},y∈a8 l xs↔y∈l∨y∈xs:=by
 intro xs
 induction xs with
 | nil=>intro l;exact ⟨.inl,λq=>q.elim id λq=>Ue q yl⟩
 | cons a xs ih=>
  intro l;show y∈a8 (cI l a) xs↔_;rw [ih,fX,ye,or_assoc]
theorem fM:∀(xs l:List (List Nat)),(a8 l xs).length<=l.length+xs.length:=by
 intro xs
 induction xs with
 | nil=>
  intro _;exact zf _
 | cons a xs ih=>
  intro l;exact za (ih (cI l a)) (za (yx (pH l a) _) (zu (wz _ _)))
theorem jT{k:List Nat}{v:V}:∀{d:Kv},k∉keysOf d->bP d k v=d++[(k,v)]:=by
 intro d
 induction d with
 | nil=>
  intro _;exact rfl
 | cons p_ r ih=>
  obtain ⟨a,x⟩:=p_;intro h;show (if a=k then _ else (a,x)::bP r k v)=_;exact gw (Ub (λ(e:a=k)=>h (gw e zm))) (gw (ih λq=>h (zr _ q)) rfl)
section
variable{ns:List Int}{C:Calls}{J:Env}{Z Z' Z1 Z2 Z3 Z4:H}{G:Fz}{S S':St}{P P':Pl}{c k:Nat}
theorem Iv.un{κ:Kd}(I:Iv κ G S P Z)(I':Iv κ (Mine.Internal.L11.mx S P Z) S' P' Z'):Iv κ G S' P' Z':=⟨I'.c,λi o e=>I'.kept (λc l=>(I.fz i o e).2 c l) (I.fz i o e).1⟩
theorem dZ(f:List Nat->V)(l:List (List Nat)):keysOf (l.map λx=>(x,f x))=l:=by unfold keysOf;exact gw (vt ..) (List.map_id l)
theorem a9z{l:Nat}{kvs:Kv}{x:List Nat}{u v:V}(hl:Z[l]?=some (.dict kvs))(h:aW kvs x=some u):meV (.ref l) .setdefault [.str x,v] Z=.ok u Z:=by unfold meV;dsimp only;refine gw hl ?_;show (match aW kvs x with | some u=>M.ret u | .none=>(fN l (bP kvs x v)).bnd λz=>M.ret v) Z=_;exact gw h rfl
theorem a8j{l:Nat}{kvs:Kv}{x:List Nat}{v:V}(hl:Z[l]?=some (.dict kvs))(h:aW kvs x=.none)(hz:(bP kvs x v).length<=lim):meV (.ref l) .setdefault [.str x,v] Z=.ok v (Z.set l (.dict (bP kvs x v))):=by unfold meV;dsimp only;refine gw hl ?_;show (match aW kvs x with | some u=>M.ret u | .none=>(fN l (bP kvs x v)).bnd λz=>M.ret v) Z=_;refine gw h ?_;unfold fN;exact gw (Ua hz ..) rfl
noncomputable def Pl.Eqd(P P':Pl):Prop:=(∀j,P'.A (.b j)=P.A (.b j))/\∀j k,P'.A (.d j k)=P.A (.d j k)
theorem a0f(I:Inv G S P Z)(hh:∀y,y∉S.names->S.I y=[]){x:List Nat}(hz:S.names.length<=200000){i:Nat}(h0:J[0]?=some (some (sh P)))(hi:J[i]?=some (rS x)):
  ∃P' Z',Ev ns C J (.me (.attr (.v 0) Nk) .setdefault [(.v i),(.list [])]) Z (.ref (P'.A (.h x))) Z'/\Inv G { S with names:=cI S.names x } P' Z'/\P.Eqd P':=by
 have I':=I.gr (Gr.app Z [.list []]);unfold cI;by_cases h:x∈S.names
 ·exact gw (Ua h ..) ⟨P,Z++[.list []],fZ (aO (cY h0) (gW I)) (kD (I.b 1 (by decide)) rfl) (bW (cY hi) (bV rfl (yj _))) (a9z (I'.b 1 (by decide)) (by rw [f6 λx=>V.ref (P.A (.h x)),Ua h])),I',λz=>rfl,λz z=>rfl⟩
 ·refine gw (Ub h ..) ?_;have ed:bP (S.names.map λx=>(x,V.ref (P.A (.h x)))) x (.ref Z.length)=(S.names.map λx=>(x,V.ref (P.A (.h x))))++[(x,.ref Z.length)]:=jT (by rw [dZ λx=>V.ref (P.A (.h x))];exact h);have hne:∀y,y∈S.names->(P.growH Z.length x).A (.h y)=P.A (.h y):=λy hy=>Ub λ(e:y=x)=>h (bw e hy);have I2:Inv G { S with names:=S.names++[x] } (P.growH Z.length x) ((Z++[O.list []]).set (P.A (.b 1)) (O.dict ((S.names.map λx=>(x,V.ref (P.A (.h x))))++[(x,.ref Z.length)]))):=by
   refine I.growH (S':={ S with names:=S.names++[x] }) (Gr.app Z _) (by show 1<4;decide) (by intro q;cases q) ?_ (λc lc hc=>?_) ?_
   ·show _=some (O.list (hV (S.I x)));exact gw (hh x h ..) (aE Z _)
   ·cases c with
    | b j=>exact ⟨lc,λq=>(lS (S:=S) (S':={ S with names:=S.names++[x] }) (q:=1) (λe=>q (by exact gw e rfl)) lc (.inl rfl) (.inr rfl) (.inr rfl)).trans (n9 (S:=S) (P:=P) (P':=P.growH Z.length x) (λz=>rfl) (λz z=>rfl) hne j)⟩
    | h y=>
     refine ⟨(yh.mp lc).elim id λq=>Ue (Uf Cell.h (ze.mp q)) hc,λz=>rfl⟩
    | d j k=>exact ⟨lc,λz=>kR (λz z z z=>rfl)⟩
   ·show O.dict _=O.dict ((S.names++[x]).map λy=>(y,V.ref ((P.growH Z.length x).A (.h y))));refine gw (xc ..) ?_;congr 2
    ·exact xz λy hy=>gw (hne y hy ..) rfl
    ·show _=[(x,V.ref ((P.growH Z.length x).A (.h x)))];exact gw (show (P.growH Z.length x).A (.h x)=Z.length from Ua rfl) rfl
  refine ⟨_,_,?_,I2,λz=>rfl,λz z=>rfl⟩;refine gw (show (P.growH Z.length x).A (.h x)=Z.length from Ua rfl) (bw ed ?_);refine fZ (aO (cY h0) (gW I)) (kD (I.b 1 (by decide)) rfl) (bW (cY hi) (bV rfl (yj _))) (a8j (I'.b 1 (by decide)) (by rw [f6 λx=>V.ref (P.A (.h x)),Ub h]) ?_);rw [ed,zd,zb];exact lm1 hz
noncomputable def dM(S:St)(k:Nat)(g:List Nat->Option Int)(ks:List (List Nat))(x:List Nat):List (Nat×Option Int):=if x∈ks then S.I x++[((S.d k).kat,g x)] else S.I x
theorem wP(I:Inv G S P Z)(hh:∀y,y∉S.names->S.I y=[])(hk:k<S.n){lk vL:Nat}{ks:List (List Nat)}{d:Kv}{g:List Nat->Option Int}(hl:G lk=some (.list (ks.map V.str)))(hv:G vL=some (.dict d))(hnd:ks.Nodup)(hg:∀x∈ks,aW d x=some (val (g x)))(hz:S.names.length+ks.length<=200000)(hs:∀x,(S.I x).length<=50000){r4 r5 r6 r7 r8:Option V}:
  ∃Z' P' o,forLoop (dH 10) (λJ Z=>aH ns C J Z [.expr (.me (.me (.attr (.v 0) Nk) .setdefault [(.v 10),(.list [])]) .append [(.tup [(.attr (.v 2) Nj),(.i (.v 9) (.v 10))])])]) (ks.map V.str).length (.list lk 0) [some (sh P),rI k,some (dl P k),rF lk,r4,r5,r6,r7,r8,rF vL,.none] Z =
   .ok .next [some (sh P),rI k,some (dl P k),rF lk,r4,r5,r6,r7,r8,rF vL,o] Z'/\Inv G { S with names:=a8 S.names ks,I:=dM S k g ks } P' Z'/\P.Eqd P':=by
 refine cps λG' K=>?_;obtain ⟨J',Z',hF,P',o,rfl,I',e'⟩:=bR (tgt:=dH 10) (body:=λJ Z=>aH ns C J Z [.expr (.me (.me (.attr (.v 0) Nk) .setdefault [(.v 10),(.list [])]) .append [(.tup [(.attr (.v 2) Nj),(.i (.v 9) (.v 10))])])]) (it:=λi=>.list lk i)
  (λi J' Z'=>∃P' o,J'=[some (sh P),rI k,some (dl P k),rF lk,r4,r5,r6,r7,r8,rF vL,o]/\Inv G { S with names:=a8 S.names (ks.take i),I:=dM S k g (ks.take i) } P' Z'/\P.Eqd P')
  (ks.map V.str).length (λJ Z p=>by obtain ⟨_,_,_,I,_⟩:=p;exact bY (I.fz lk _ hl).1)
  (λi J' Z' hi p=>by
   refine cps λG' K=>?_;refine ex2 (p) λP' o q_h=>?_;refine an4 q_h λq_2 I' hb hd=>?_;obtain rfl:=q_2;have hi':i<ks.length:=by replace hi:=(zb ..)▸hi;exact hi
   have hxs:ks[i]∉ks.take i:=λq=>by
    replace hnd:=(xf hi' ..)▸(yb i ks ..)▸hnd;exact (wv.mp hnd).2.2 _ q _ zm rfl
   have shP:sh P'=sh P:=Uf (V.inst 1) (hb 0);have hh':∀y,y∉a8 S.names (ks.take i)->dM S k g (ks.take i) y=[]:=λy hy=>by
    unfold dM;rw [fJ] at hy;exact gw (Ub λq=>hy (.inr q)) (hh y λq=>hy (.inl q))
   refine ex2 (a0f (ns:=ns) (C:=C) (J:=[some (sh P),rI k,some (dl P k),rF lk,r4,r5,r6,r7,r8,rF vL,rS (ks[i])]) (x:=ks[i]) (i:=10) I' hh' (za (fM (ks.take i) S.names) (za (yg (xt _ _) _) hz)) (gw shP rfl) rfl) λP2 Z2 q_h=>?_;refine an4 q_h λev I2 hb2 hd2=>?_;have hx2:ks[i]∈cI (a8 S.names (ks.take i)) ks[i]:=fX.mpr (.inr rfl);have hp:=I2.h (x:=ks[i]) hx2;have at1:=a5t I2 (show k<S.n from hk);replace at1:=(show dl P2 k=dl P k from Uf (V.inst 0) ((hd2 0 k).trans (hd 0 k)))▸at1;have eh:dM S k g (ks.take i) ks[i]=S.I ks[i]:=Ub hxs;have en:cI (a8 S.names (ks.take i)) ks[i]=a8 S.names (ks.take (i+1)):=by
    refine gw (bM ks hi' ..) ?_;unfold a8;exact gw (vw ..) rfl
   have I3:Inv G { S with names:=a8 S.names (ks.take (i+1)),I:=dM S k g (ks.take (i+1)) } P2 (Z2.set (P2.A (.h ks[i])) (.list (hV (S.I ks[i])++[.tup [.int (S.d k).kat,val (g ks[i])]]))):=by
    refine bw en ?_;refine I2.store (S':={ S with names:=cI (a8 S.names (ks.take i)) ks[i],I:=dM S k g (ks.take (i+1)) }) (c₀:=.h ks[i]) hx2 (λc l=>by cases c <;> exact l) (λc q v=>?_) ?_
    ·cases c with
     | b j=>rfl
     | d j k'=>rfl
     | h y=>
      refine Uf (λl=>O.list (hV l)) ?_;show dM S k g (ks.take (i+1)) y=dM S k g (ks.take i) y;unfold dM;have:y∈ks.take (i+1)↔y∈ks.take i:=by
       exact gw (bM ks hi' ..) (iw (yh ..) (iw (ze ..) ⟨λw=>w.resolve_right λe=>q (gw e rfl),.inl⟩))
      by_cases w:y∈ks.take i
      ·exact gw (Ua w ..) (gw (Ua (this.mpr w) ..) rfl)
      ·exact gw (Ub w ..) (gw (Ub λz=>w (this.mp z)) rfl)
    ·show O.list _=O.list (hV (dM S k g (ks.take (i+1)) ks[i]));unfold dM;refine gw (Ua (gw (bM ks hi' ..) (xx _ (ze.mpr rfl))) ..) ?_;unfold hV;exact gw (xc ..) rfl
   have hp:Z2[P2.A (.h ks[i])]?=some (.list (hV (S.I ks[i]))):=bw eh hp;have hln':=hs ks[i];refine K ⟨.str ks[i],_,_,_,bE (I'.fz lk _ hl).1 (by refine gw (yk ..) (gw (zg hi' ..) ?_);rfl),rfl,b5 (fZ ev (kL hp rfl) (a9 (eV (bW (aO rfl at1) (aK rfl rfl (nO (I2.fz vL _ hv).1 (hg ks[i] (xj hi'))))) rfl)) (kY hp ?_)) aI,P2,rS (ks[i]),rfl,I3,λj=>(hb2 j).trans (hb j),λj k=>(hd2 j k).trans (hd j k)⟩;unfold hV;exact gw (zb ..) (lm1 (za hln' (by decide))))
  (ks.map V.str).length 0 [some (sh P),rI k,some (dl P k),rF lk,r4,r5,r6,r7,r8,rF vL,.none] Z (zp _) ⟨P,.none,rfl,by
   have:dM S k g (ks.take 0)=S.I:=funext λx=>Ub yl;exact gw (this ..) I,λv=>rfl,λv v=>rfl⟩
 rw [xu (by rw [zb];exact zf _)] at I';exact K ⟨Z',P',o,hF,I',e'⟩
end
theorem qI(k:List Nat)(v:V):∀(d:Kv) (n:List Nat),n∈keysOf (bP d k v)->k=n∨n∈keysOf d:=by
 intro d
 induction d with
 | nil=>
  intro n h;exact .inl (ze.mp h).symm
 | cons p_ r ih=>
  obtain ⟨a,x⟩:=p_;intro n h;have h:n∈keysOf (if a=k then (a,v)::r else (a,x)::bP r k v):=h;split at h
  ·exact .inr h
  ·exact (ye.mp h).elim (λe=>.inr (e▸zm)) λq=>(ih n q).elim .inl λq=>.inr (zr _ q)
theorem oF(k:List Nat)(v:V):∀(d:Kv),(keysOf d).Nodup->(keysOf (bP d k v)).Nodup:=by
 intro d
 induction d with
 | nil=>
  intro _;exact vv _ _
 | cons p_ r ih=>
  obtain ⟨a,x⟩:=p_;intro h;show (keysOf (if a=k then (a,v)::r else (a,x)::bP r k v)).Nodup;obtain ⟨h1,h2⟩:=wg.mp h;split
  ·exact h
  ·rename_i hk;exact wg.mpr ⟨λq=>(qI k v r a q).elim (λe=>hk e.symm) h1,ih h2⟩
theorem m6:∀(ws:Ws) (d:Kv),(keysOf d).Nodup->(keysOf (put d ws)).Nodup:=by
 intro ws
 induction ws with
 | nil=>
  intro _ h;exact h
 | cons p ws ih=>
  intro d h;exact ih (bP d p.1 (val p.2)) (oF _ _ d h)
theorem iP(n:List Nat):∀d:Kv,n∈keysOf d↔(aW d n).isSome=true:=by
 intro d
 induction d with
 | nil=>
  exact ⟨λh=>Ue h yl,λh=>Ue h vg⟩
 | cons p_ r ih=>
  obtain ⟨a,x⟩:=p_;show n∈a::keysOf r↔(if a=n then some x else aW r n).isSome=true;by_cases e:a=n
  ·exact gw (Ua e ..) ⟨λz=>rfl,λz=>e▸zm⟩
  ·rw [Ub e,←ih];exact ⟨λh=>(ye.mp h).elim (λq=>Ue q.symm e) id,λh=>zr _ h⟩
theorem aHl(ws:Ws)(x:List Nat):aW (put [] ws) x=(lw ws x).map val:=gw (xN ..) (gw (show aW ([]:Kv) x=.none from rfl) (gw (sK ..) rfl))
theorem a2o(ws:Ws){x:List Nat}(h:x∈keysOf (put [] ws)):aW (put [] ws) x=some (val ((lw ws x).getD .none)):=by
 have h1:=(iP x _).mp h;rw [aHl] at h1 ⊢;cases hl:lw ws x with
 | none=>replace h1:=hl▸h1;cases h1
 | some t=>rfl
section
variable{ns:List Int}{C:Calls}{J:Env}{Z Z' Z1 Z2 Z3 Z4:H}{G:Fz}{S S':St}{P P':Pl}{c k:Nat}
theorem Iv.but{κ:Kd}(I:Iv κ G S P Z){a:Nat}(f:Fr G S P a)(h:∀p o,p≠a->Z[p]?=some o->Z'[p]?=some o):Iv κ G S P Z':=
 ⟨λc l=>⟨h _ _ (f.ne c l) (I.c c l).1,(I.c c l).2⟩,λi o e=>⟨h _ _ (λq=>by replace e:=(f.no ..)▸q▸e;cases e) (I.fz i o e).1,(I.fz i o e).2⟩⟩
noncomputable abbrev yU(C:Calls):Prop:=∀{G:Fz}{S:St}{P:Pl}{Z:H},Inv G S P Z->∀{j k l:Nat},j<S.n->k<S.n->(S.d j).ws.length<=50000->(S.d j).O.length<=50000->(S.d k).O.length<=50000->∀{ks:List (List Nat)},Z[l]?=some (.list (ks.map V.str))->∃Z',C.call 55 [sh P,dl P j,dl P k,.ref l] Z=.ok (.bool (mb (S.d j) (S.d k) ks)) Z'/\Gr Z Z'
theorem Iv.but2{κ:Kd}(I:Iv κ G S P Z){a b:Nat}(f:Fr G S P a)(f':Fr G S P b)(h:∀p o,p≠a->p≠b->Z[p]?=some o->Z'[p]?=some o):Iv κ G S P Z':=
 ⟨λc l=>⟨h _ _ (f.ne c l) (f'.ne c l) (I.c c l).1,(I.c c l).2⟩,λi o e=>⟨h _ _ (λq=>by replace e:=(f.no ..)▸q▸e;cases e) (λq=>by replace e:=(f'.no ..)▸q▸e;cases e) (I.fz i o e).1,(I.fz i o e).2⟩⟩
theorem a5c{a v:Nat}{as:List Nat}{j:Nat}(bb:Bool)(ha:Z[a]?=some (.list (iV as)))(hv:J[v]?=some (rF a))(h6:J[6]?=some (rI j))(hz:as.length<=200000):
  ∃Z',aH ns C J Z (if bb then [.expr (.me (.v v) .append [(.v 6)])] else [])=.ok .next J Z'/\(∀p x,p≠a->Z[p]?=some x->Z'[p]?=some x)/\Z'[a]?=some (.list (iV (as++if bb then [j] else []))):=by
 cases bb with
 | false=>exact ⟨Z,aI,λz z z e=>e,ha.trans (gw (yw as) rfl)⟩
 | true=>
  refine ⟨Z.set a (.list (iV as++[.int j])),b5 (fZ (cY hv) (kL ha rfl) (a9 (cY h6)) (kY ha ?_)) aI,λp x h e=>cA _ h e,?_⟩
  ·exact gw (fP ..) (lm1 hz)
  ·rw [eZ ha,iV,iV,xc];rfl
theorem nH{f:Nat->Bool}{l:List Nat}{i:Nat}(h:i<l.length):(l.take (i+1)).filter f=(l.take i).filter f++if f l[i] then [l[i]] else []:=by rw [bM l h,List.filter_append,zav];rfl
theorem z0{f:Nat->Bool}{l:List Nat}{i:Nat}:((l.take i).filter f).length<=l.length:=za (jo _ _) (xt _ _)
theorem wB(hm:C.U=aJ T0)(h41:yU C)(h44:a5q C)(I:Inv G S P Z)(hk:k<S.n)(hrow:∀j∈S.row,j<S.n)(hw:∀j,j<S.n->(S.d j).ws.length<=50000/\(S.d j).O.length<=50000)(hz:S.row.length<=50000){lk a b:Nat}{ks:List (List Nat)}(hl:Z[lk]?=some (.list (ks.map V.str)))(ha:Z[a]?=some (.list []))(hb:Z[b]?=some (.list []))(fa:Fr G S P a)(fb:Fr G S P b)(h1:lk≠a)(h2:lk≠b)(hab:a≠b):
  ∃Z' o o',forLoop (dH 6) (λJ Z=>aH ns C J Z [.a 7 (.i (.attr (.v 0) Nc) (.v 6)),
  .x (.u (.v 0) Nx [(.v 7),(.v 2),(.v 3)]) [.expr (.me (.v 4) .append [(.v 6)])] [],
  .x (.and [(.g .gt (.attr (.v 7) Nj) (.attr (.v 2) Na)),(.u (.v 0) No [(.v 7),(.v 2)])]) [.expr (.me (.v 5) .append [(.v 6)])] []]) (iV S.row).length (.list (P.A (.b 3)) 0) [some (sh P),rI k,some (dl P k),rF lk,rF a,rF b,.none,.none,.none,.none,.none] Z =
   .ok .next [some (sh P),rI k,some (dl P k),rF lk,rF a,rF b,o,o',.none,.none,.none] Z'/\(∀p x,p≠a->p≠b->Z[p]?=some x->Z'[p]?=some x)/\Z'[a]?=some (.list (iV (S.row.filter λj=>mb (S.d j) (S.d k) ks)))/\Z'[b]?=some (.list (iV (S.row.filter λj=>bh (S.d j) (S.d k)))):=by
 refine cps λG' K=>?_;obtain ⟨J',Z',hF,⟨o,o',rfl⟩,e1,e2,e2'⟩:=bR (tgt:=dH 6) (body:=λJ Z=>aH ns C J Z [.a 7 (.i (.attr (.v 0) Nc) (.v 6)),
  .x (.u (.v 0) Nx [(.v 7),(.v 2),(.v 3)]) [.expr (.me (.v 4) .append [(.v 6)])] [],
  .x (.and [(.g .gt (.attr (.v 7) Nj) (.attr (.v 2) Na)),(.u (.v 0) No [(.v 7),(.v 2)])]) [.expr (.me (.v 5) .append [(.v 6)])] []]) (it:=λi=>.list (P.A (.b 3)) i)
  (λi J' Z'=>(∃o o',J'=[some (sh P),rI k,some (dl P k),rF lk,rF a,rF b,o,o',.none,.none,.none])/\(∀p x,p≠a->p≠b->Z[p]?=some x->Z'[p]?=some x)/\Z'[a]?=some (.list (iV ((S.row.take i).filter λj=>mb (S.d j) (S.d k) ks)))/\Z'[b]?=some (.list (iV ((S.row.take i).filter λj=>bh (S.d j) (S.d k)))))
  (iV S.row).length (λJ Z p=>by obtain ⟨_,e1,_⟩:=p;exact bY ((I.but2 fa fb e1).b 3 (by decide)))
  (λi J' Z' hi p=>by
   refine cps λG' K=>?_;obtain ⟨⟨o,o',rfl⟩,e1,e2,e2'⟩:=p;have hi':i<S.row.length:=by replace hi:=(fP ..)▸hi;exact hi
   have hz':∀{f:Nat->Bool},((S.row.take i).filter f).length<=200000:=za z0 (za hz (by decide:50000<=200000));have I':=I.but2 fa fb e1;have hj:=hrow _ (xj hi');obtain ⟨Z2,c41,g2⟩:=h41 I' hj hk (hw _ hj).1 (hw _ hj).2 (hw _ hk).2 (e1 lk _ h1 h2 hl);have I2:=I'.gr g2;obtain ⟨Z3,s3,f1,f2⟩:=a5c (ns:=ns) (C:=C) (J:=[some (sh P),rI k,some (dl P k),rF lk,rF a,rF b,rI (S.row[i]),some (dl P S.row[i]),.none,.none,.none]) (v:=4) (mb (S.d S.row[i]) (S.d k) ks) (g2.at e2) rfl rfl hz';have I3:=I2.but fa f1;obtain ⟨Z4,c44,g4⟩:∃Z4,Ev ns C [some (sh P),rI k,some (dl P k),rF lk,rF a,rF b,rI (S.row[i]),some (dl P S.row[i]),.none,.none,.none] (.and [(.g .gt (.attr (.v 7) Nj) (.attr (.v 2) Na)),(.u (.v 0) No [(.v 7),(.v 2)])]) Z3 (.bool (bh (S.d S.row[i]) (S.d k))) Z4/\Gr Z3 Z4:=by
    obtain ⟨Z4,c4,g4⟩:=h44 I3 hj hk (hw _ hj).1 (hw _ hk).2;have c0:Ev ns C [some (sh P),rI k,some (dl P k),rF lk,rF a,rF b,rI (S.row[i]),some (dl P S.row[i]),.none,.none,.none] (.g .gt (.attr (.v 7) Nj) (.attr (.v 2) Na)) Z3 (.bool (decide ((S.d k).start<(S.d S.row[i]).kat))) Z3:=(aM (aO rfl (a5t I3 hj)) (aO rfl (kA I3 hk)) (nJ _ _)).trans (gw (pM ..) rfl);unfold bh;cases hp:decide ((S.d k).start<(S.d S.row[i]).kat) with
    | false=>replace c0:=hp▸c0;exact ⟨Z3,jU c0,Gr.rfl⟩
    | true=>replace c0:=hp▸c0;exact ⟨Z4,hU c0 (jR (aV rfl (aY hm (I3.b 0 (by decide)) rfl rfl) rfl c4)),g4⟩
   obtain ⟨Z5,s5,k1,k2⟩:=a5c (ns:=ns) (C:=C) (J:=[some (sh P),rI k,some (dl P k),rF lk,rF a,rF b,rI (S.row[i]),some (dl P S.row[i]),.none,.none,.none]) (v:=5) (bh (S.d S.row[i]) (S.d k)) (g4.at (f1 b _ (Ne.symm hab) (g2.at e2'))) rfl rfl hz';exact K ⟨.int S.row[i],_,_,Z5,bE (I'.b 3 (by decide)) (yG hi'),rfl,aA (aK (aO rfl (fC I')) rfl (cD I' hj)) rfl (mX (aV rfl (aY hm (I'.b 0 (by decide)) rfl rfl) rfl c41) (aB s3 (mX c44 (aB s5 aI)))),⟨_,_,rfl⟩,λp x h h' e=>k1 p x h' (g4.at (f1 p x h (g2.at (e1 p x h h' e)))),gw (nH hi') (k1 a _ hab (g4.at f2)),gw (nH hi') k2⟩)
  (iV S.row).length 0 [some (sh P),rI k,some (dl P k),rF lk,rF a,rF b,.none,.none,.none,.none,.none] Z (zp _) ⟨⟨_,_,rfl⟩,λz z z z e=>e,ha,hb⟩
 replace e2:=(xb ..)▸(fP ..)▸e2;replace e2':=(xb ..)▸(fP ..)▸e2';exact K ⟨Z',o,o',hF,e1,e2,e2'⟩
end
section
variable{ns:List Int}{C:Calls}{J:Env}{Z Z' Z1 Z2 Z3 Z4:H}{G:Fz}{S:St}{P:Pl}{k:Nat}
theorem aCb(rs:List Nat)(p k:Nat):bS (iV rs) p (.int k)=iV (bS rs p k):=by unfold bS iV;exact gw (xc ..) (gw (wx ..) (gw (zbn ..) (gw (zbo ..) rfl)))
theorem kU{α:Type}(rs:List α)(p:Nat)(k:α):(bS rs p k).length=rs.length+1:=by unfold bS;exact gw (zd ..) (gw (wi ..) (bw (vm ..) (bw (zd ..) (gw (yb ..) rfl))))
theorem aHr{l:Nat}{k:Int}{xs:List V}{v:V}:meL l xs .insert [.int k,v] Z=(if 0<=k/\k<9223372036854775808 then sE l (bS xs k.toNat v) else stuck:M V) Z:=rfl
theorem xQ{l k p:Nat}{rs:List Nat}(hl:Z[l]?=some (.list (iV rs)))(hz:rs.length<=50000)(hp:p<=rs.length):meV (.ref l) .insert [.int p,.int k] Z=.ok .none (Z.set l (.list (iV (bS rs p k)))):=by unfold meV;dsimp only;refine gw hl ?_;refine (aHr (k:=p)).trans ?_;refine gw (Ua ⟨zy _,vp (xd.mpr (za hp hz)) (by decide)⟩ ..) (gw (xa ..) (gw (aCb ..) ?_));unfold sE;rw [Ua (by rw [fP,kU];exact za (zw hz) (by decide))]
noncomputable abbrev rY(C:Calls):Prop:=∀{r a b:Nat}{rs as bs:List Nat}{Z:H},Z[r]?=some (.list (iV rs))->Z[a]?=some (.list (iV as))->Z[b]?=some (.list (iV bs))->rs.length<=50000->(∀k∈as,k∈rs)->rs.Nodup->∃v,C.call 10 [.ref r,.ref a,.ref b] Z=.ok v Z/\Plc rs (λk=>decide (k∈as)) (λk=>decide (k∈bs)) v
theorem Pr.congr{rs:List Nat}{g g':Nat->Bool}{p:Nat}(h:Pr rs g p)(e:∀k∈rs,g k=g' k):Pr rs g' p:=⟨λj k hj q=>(e k (ym q)).symm.trans (h.1 j k hj q),h.2.imp id λq_0=>by obtain ⟨k,q,w⟩:=q_0;exact ⟨k,q,(e k (ym q)).symm.trans w⟩⟩
theorem Lt.congr{rs:List Nat}{f f':Nat->Bool}{p:Nat}(h:Lt rs f p)(e:∀k∈rs,f k=f' k):Lt rs f' p:=by obtain ⟨i,k,hi,q,w⟩:=h;exact ⟨i,k,hi,q,(e k (ym q)).symm.trans w⟩
theorem Plc.congr{rs:List Nat}{f f' g g':Nat->Bool}{v:V}(h:Plc rs f g v)(e:∀k∈rs,f k=f' k)(e':∀k∈rs,g k=g' k):Plc rs f' g' v:=by obtain ⟨p,a,b⟩:=h;exact ⟨p,a.congr e',b.imp (λq=>⟨q.1,q.2.congr e⟩) λq=>⟨q.1,λw=>q.2 (w.congr λk hk=>(e k hk).symm)⟩⟩
theorem qK{rs:List Nat}{f:Nat->Bool}{k:Nat}(h:k∈rs):decide (k∈rs.filter f)=f k:=by
 cases e:f k with
 | true=>exact Uc (jf.mpr ⟨h,e⟩)
 | false=>exact Ud λq=>vg (e.symm.trans (jf.mp q).2)
noncomputable def Pk(S:St)(k:Nat)(v:V):Prop:=Plc S.row (λj=>mb (S.d j) (S.d k) (kys (S.d k).ws)) (λj=>bh (S.d j) (S.d k)) v
noncomputable def St.keep(S:St)(k p:Nat):St:={ S.setD k { S.d k with st:=2,kat:=S.row.length+1 } with row:=bS S.row p k,names:=a8 S.names (kys (S.d k).ws),I:=λx=>if x∈kys (S.d k).ws then S.I x++[(S.row.length+1,(lw (S.d k).ws x).getD .none)] else S.I x }
theorem a0i(hm:C.U=aJ T0)(h31:dG C)(I:Inv G S P Z)(hk:k<S.n)(ho:(S.d k).st≠0):evF ns C bA [sh P,.int k] Z=.exc 2 Z:=
 jX (fn:=bA) rfl (fF (wD h31 hm I hk ho rfl rfl))
theorem a9y(hm:C.U=aJ T0)(h31:dG C)(h7:sY C)(h10:rY C)(h41:yU C)(h44:a5q C)(I:Inv G S P Z)(hh:∀y,y∉S.names->S.I y=[])(hk:k<S.n)(ho:(S.d k).st=0)(hrow:∀j∈S.row,j<S.n)(hnd:S.row.Nodup)(hw:∀j,j<S.n->(S.d j).ws.length<=50000/\(S.d j).O.length<=50000)(hz:S.row.length<=49999)(hnz:S.names.length<=100000)(hs:∀x,(S.I x).length<=50000):
  ∃P' Z',P.Sim P'/\((Pk S k .none/\evF ns C bA [sh P,.int k] Z=.exc 8 Z'/\Inv G (S.setD k { S.d k with st:=1 }) P' Z')∨∃p:Nat,p<=S.row.length/\Pk S k (.int p)/\evF ns C bA [sh P,.int k] Z=.ok (.int p) Z'/\Inv G (S.keep k p) P' Z'):=by
 refine cps λG' K=>?_;have hwk:=(hw k hk).1;have pl:=za (iE (S.d k).ws []) (zu (zp _));let ks:=kys (S.d k).ws;have hks:ks.length<=(S.d k).ws.length:=by show (keysOf _).length<=_;unfold keysOf;exact gw (zb ..) pl
 let Z1:=Z++[O.dict (put [] (S.d k).ws)];let Z2:=Z1++[O.list (ks.map V.str)];let Z3:=Z2++[O.list []];let Z4:=Z3++[O.list []];have l1:Z1.length=Z.length+1:=bH _ _;have l2:Z2.length=Z.length+2:=by show (_++[_]).length=_;exact gw (bH ..) (gw l1 rfl)
 have l3:Z3.length=Z.length+3:=by show (_++[_]).length=_;exact gw (bH ..) (gw l2 rfl)
 have n1:Z1.length≠Z2.length:=l1▸l2▸yq (yv _);have n2:Z1.length≠Z3.length:=l1▸l3▸yq (xk (yv _));have n3':Z2.length≠Z3.length:=l2▸l3▸yq (yv _);have g4:Gr Z Z4:=((Gr.app Z _).tr (Gr.app Z1 _)).tr ((Gr.app Z2 _).tr (Gr.app Z3 _));have I4:=I.gr g4;have fa:Fr G S P Z2.length:=I.fr (gw l2 (zt _ _));have fb:Fr G S P Z3.length:=I.fr (gw l3 (zt _ _));have k4:Z4[Z1.length]?=some (.list (ks.map V.str)):=((Gr.app Z2 _).tr (Gr.app Z3 _)).at (aE Z1 _);obtain ⟨Z5,o6,o7,hF,k5,f2,f2'⟩:=wB (ns:=ns) (lk:=Z1.length) (a:=Z2.length) (b:=Z3.length) (ks:=ks) hm h41 h44 I4 hk hrow hw (zn hz) k4 ((Gr.app Z3 _).at (aE Z2 _)) (aE Z3 _) fa fb n1 n2 n3';have I5:=I4.but2 fa fb k5;have r5:=I5.b 3 (by decide);obtain ⟨v,hpl,hv⟩:=h10 r5 f2 f2' (zn hz) (λj hj=>(jf.mp hj).1) hnd;have hv:Pk S k v:=hv.congr (λz h=>qK h) λz h=>qK h;have hv':=hv;obtain ⟨p,hpr,hvv⟩:=hv';have hp:=hpr.le;have b0:∀{R:RS},aH ns C [some (sh P),rI k,some (dl P k),rF Z1.length,rF Z2.length,rF Z3.length,o6,o7,some v,.none,.none] Z5 (bA.body.drop 6)=R ->
   aH ns C [some (sh P),rI k,.none,.none,.none,.none,.none,.none,.none,.none,.none] Z bA.body=R:=λh=>
  aA (lC h31 hm I hk ho rfl rfl) rfl (aA (bD (aG (a9 (aO rfl (j9 I hk))) (h7 (I.d 1 (by decide) hk) hwk)) (pU (aE Z _) (za pl (za hwk (by decide))))) rfl (aA (bV rfl (yj _)) rfl (aA (bV rfl (yj _)) rfl
   (bT (bN (aO rfl (jG I4)) (I4.b 3 (by decide))) (aB hF (aA (aG (b7 (aO rfl (jG I5)) rfl rfl) hpl) rfl h))))))
 rcases hvv with ⟨rfl,-⟩ | ⟨rfl,-⟩
 ·have I6:=I5.storeD (j:=0) (k:=k) (D:={ S.d k with st:=1 }) (o:=.dict (dlE (S.d k).start 1 (S.d k).kat (P.A (.d 1 k)) (P.A (.d 2 k)) (P.A (.d 3 k)) (P.A (.d 4 k)))) ⟨(by decide:0<5),hk⟩ (λi hi h5=>dJ (q:=0) hi h5 (.inl rfl) (.inr rfl) (.inr rfl) (.inr rfl) (.inr rfl)) rfl;have q6:iT (dl P k) Nn (.str Nq) Z5=.ok .none _:=rL (kvs:=dlE (S.d k).start (S.d k).st (S.d k).kat (P.A (.d 1 k)) (P.A (.d 2 k)) (P.A (.d 3 k)) (P.A (.d 4 k))) (I5.d 0 (by decide) hk) (by show 7<=lim;decide);exact K ⟨P,_,rfl,.inl ⟨hv,jX (fn:=bA) rfl (b0 (bU rfl (eO (eI rfl rfl q6 n8)))),I6⟩⟩
 ·have I6:Inv G { S with row:=bS S.row p k } P (Z5.set (P.A (.b 3)) (.list (iV (bS S.row p k)))):=by
   refine I5.store (S':={ S with row:=bS S.row p k }) (c₀:=.b 3) (by show 3<4;decide) (λc l=>by cases c <;> exact l) (λc q lv=>?_) rfl;cases c with
   | b j=>exact lS (S:=S) (S':={ S with row:=bS S.row p k }) (q:=3) (λe=>q (gw e rfl)) lv (.inr rfl) (.inr rfl) (.inl rfl)
   | d j k'=>rfl
   | h y=>rfl
  have I7:=I6.storeD (j:=0) (k:=k) (D:={ S.d k with st:=2 }) (o:=.dict (dlE (S.d k).start 2 (S.d k).kat (P.A (.d 1 k)) (P.A (.d 2 k)) (P.A (.d 3 k)) (P.A (.d 4 k)))) ⟨(by decide:0<5),hk⟩ (λi hi h5=>dJ (q:=0) hi h5 (.inl rfl) (.inr rfl) (.inr rfl) (.inr rfl) (.inr rfl)) rfl;have eD7:(({ S with row:=bS S.row p k }:St).setD k { S.d k with st:=2 }).d k={ S.d k with st:=2 }:=St.setD_at _ k _;have I8:=I7.storeD (j:=0) (k:=k) (D:={ S.d k with st:=2,kat:=S.row.length+1 }) (o:=.dict (dlE (S.d k).start 2 (S.row.length+1) (P.A (.d 1 k)) (P.A (.d 2 k)) (P.A (.d 3 k)) (P.A (.d 4 k)))) ⟨(by decide:0<5),hk⟩ (λi hi h5=>gw eD7 (dJ (q:=0) hi h5 (.inl rfl) (.inr rfl) (.inr rfl) (.inr rfl) (.inr rfl))) rfl;replace I8:=(St.setD_setD ..)▸I8;let S8:St:=({ S with row:=bS S.row p k }:St).setD k { S.d k with st:=2,kat:=S.row.length+1 };have eD8:S8.d k={ S.d k with st:=2,kat:=S.row.length+1 }:=St.setD_at _ k _;have e6:=I6.d 0 (by decide) hk;have e7:=I7.d 0 (by decide) hk;replace e7:=eD7▸e7;have w8:=I8.d 1 (by decide) hk;replace w8:=eD8▸w8;have r7:=eQ (ns:=ns) I7;generalize h6:Z5.set (P.A (.b 3)) (.list (iV (bS S.row p k)))=Z6 at I6 I7 I8 e6 e7 w8 r7;generalize h7':Z6.set (P.A (.d 0 k)) (.dict (dlE (S.d k).start 2 (S.d k).kat (P.A (.d 1 k)) (P.A (.d 2 k)) (P.A (.d 3 k)) (P.A (.d 4 k))))=Z7 at I7 I8 e7 w8 r7;generalize h8':Z7.set (P.A (.d 0 k)) (.dict (dlE (S.d k).start 2 (S.row.length+1) (P.A (.d 1 k)) (P.A (.d 2 k)) (P.A (.d 3 k)) (P.A (.d 4 k))))=Z8 at I8 w8;have n3:=I.lt (c:=.b 3) (by show 3<4;decide);have n0:=I.lt (c:=.d 0 k) ⟨(by decide:0<5),hk⟩;have n11:∀{a},a<Z.length->Z1.length≠a:=λh=>wq (zj h (l1▸yi _));have lk8:Z8[Z1.length]?=some (.list (ks.map V.str)):=by
   exact bw h8' (bw h7' (bw h6 (cA _ (n11 n0) (cA _ (n11 n0) (cA _ (n11 n3) (k5 Z1.length _ n1 n2 k4))))))
  let Z9:=Z8++[O.dict (put [] (S.d k).ws)];have I9:Inv G S8 P Z9:=I8.gr (Gr.app Z8 _);have fz:∀{a o},Z.length<=a->Z9[a]?=some o->mx S8 P Z9 a=some o:=λ{a o} h e=>by
   unfold mx;rw [Ub (λq=>by
    obtain ⟨c,l,e⟩:=q;exact yf.mpr h (e▸I.lt (c:=c) (by cases c <;> exact l)))]
   exact e
  have ge8:=(zc.mp lk8).1;refine ex3 (wP (ns:=ns) (C:=C) (Z:=Z9) (k:=k) (lk:=Z1.length) (vL:=Z8.length) (ks:=ks) (d:=put [] (S.d k).ws) (g:=λx=>(lw (S.d k).ws x).getD .none) (r4:=rF Z2.length) (r5:=rF Z3.length) (r6:=o6) (r7:=o7) (r8:=rI p) I9.mx hh hk (fz (l1▸yi _) ((Gr.app Z8 _).at lk8)) (fz (yd (yt (l1▸yi _) ge8)) (aE Z8 _)) (m6 _ [] um) (λx q=>a2o _ q) (za (yy hnz (za hks hwk)) (by decide)) hs) λZ' P' o q_h=>?_;refine an4 q_h λhG I' hb' z=>?_;have I':=I9.un I';have q7:iT (dl P k) Nn (.str NN) Z6=.ok .none Z7:=(rL (kvs:=dlE (S.d k).start (S.d k).st (S.d k).kat (P.A (.d 1 k)) (P.A (.d 2 k)) (P.A (.d 3 k)) (P.A (.d 4 k))) e6 (by show 7<=lim;decide)).trans (Uf (R.ok V.none) h7');have q8:iT (dl P k) Nj (.int (bS S.row p k).length) Z7=.ok .none Z8:=by
   exact (rL (kvs:=dlE (S.d k).start 2 (S.d k).kat (P.A (.d 1 k)) (P.A (.d 2 k)) (P.A (.d 3 k)) (P.A (.d 4 k))) e7 (by show 7<=lim;decide)).trans (bw h8' (gw (kU ..) rfl))
  have b1:aH ns C [some (sh P),rI k,some (dl P k),rF Z1.length,rF Z2.length,rF Z3.length,o6,o7,rI p,.none,.none] Z6 (bA.body.drop 8)=.ok (.ret (.int p)) [some (sh P),rI k,some (dl P k),rF Z1.length,rF Z2.length,rF Z3.length,o6,o7,rI p,rF Z8.length,o] Z':=
   eI rfl rfl q7 (eI (bD (aO rfl (jG I7)) r7) rfl q8 (aA (aG (a9 (aO rfl (j9 I8 hk))) (h7 w8 hwk)) rfl (bT (bN rfl ((Gr.app Z8 _).at lk8)) (aB hG (aP rfl)))))
  refine K ⟨P',Z',hb' 0,.inr ⟨p,hp,hv,aN (fn:=bA) rfl (b0 (aL rfl (b5 (fZ (aO rfl (jG I5)) (kL r5 rfl) rfl ((xQ r5 (zn hz) hp).trans (Uf (R.ok V.none) h6))) b1))),?_⟩⟩;have eh:dM S8 k (λx=>(lw (S.d k).ws x).getD .none) ks=(S.keep k p).I:=funext λx=>by
   unfold dM;exact gw eD8 rfl
  replace I':=eh▸I';exact I'
end
noncomputable abbrev Ps:=List (List Nat×Int)
noncomputable def pV(ps:Ps):List V:=ps.map λp=>.tup [.str p.1,.int p.2]
theorem mR(ps:Ps):(pV ps).length=ps.length:=zb ..
noncomputable def a8u(f:List Nat->Option Int)(h n:List Nat):Option (List Nat×Int):=if pre h n then (f n).map λv=>(n,v) else .none
noncomputable def und(f:List Nat->Option Int)(h:List Nat)(ks:List (List Nat)):Ps:=ks.filterMap (a8u f h)
theorem a5u{f:List Nat->Option Int}{h:List Nat}{ks:List (List Nat)}{i:Nat}(hi:i<ks.length):und f h (ks.take (i+1))=und f h (ks.take i)++(a8u f h ks[i]).toList:=by
 unfold und;refine gw (bM ks hi ..) (gw (fg ..) ?_);cases e:a8u f h ks[i] with
 | none=>exact gw (zax e ..) rfl
 | some v=>exact gw (zay e ..) rfl
theorem xC(f:List Nat->Option Int)(h:List Nat)(ks:List (List Nat)):(und f h ks).length<=ks.length:=zau _ _
noncomputable def pN(ws:Ws):List (List Nat):=ws.map (·.1)
theorem a3k:∀l:List (List Nat),mH (l.map V.str)=some l:=by
 intro l
 induction l with
 | nil=>
  exact rfl
 | cons a l ih=>
  show (mH (l.map V.str)).map (a::·)=_;exact gw ih rfl
theorem l9(le:List Nat->List Nat->Bool)(l:List (List Nat)):(jE le l).length=l.length:=List.length_mergeSort l
theorem vR{l:List (List Nat)}(h:l.Nodup)(n:List Nat):(cI l n).Nodup:=by
 unfold cI;refine ic ite_ (λz=>?_) λz=>?_
 ·exact h
 ·exact wv.mpr ⟨h,vv _ _,λa ha b hb=>by refine gw (ze.mp hb ..) ?_;rintro rfl;contradiction⟩
theorem eM(xs:List (List Nat)):∀{l:List (List Nat)},l.Nodup->(a8 l xs).Nodup:=by
 induction xs with
 | nil=>intro _ h;exact h
 | cons a xs ih=>intro _ h;exact ih (vR h a)
section
variable{ns:List Int}{C:Calls}{J:Env}{Z Z' Z1 Z2 Z3 Z4:H}{G:Fz}{S:St}{P:Pl}{k c:Nat}
theorem aBb{l:Nat}{ks:List (List Nat)}(hl:b9 Z (.ref l)=some (ks.map V.str))(h:ks.length<=50000)(hd:ks.Nodup):biV ns .sorted (.ref l) Z=.ok (.ref Z.length) (Z++[.list ((jE dK ks).map V.str)]):=by show (bF ((b9 Z (.ref l)).bind tN)).bnd fY Z=_;refine gw hl (gw (wh ..) ?_);unfold tN;refine gw (a3k ..) ?_;show (bF (if ks.Nodup then some ((jE dK ks).map V.str) else .none)).bnd fY Z=_;exact gw (Ua hd) (eU (gw (zb ..) (gw (l9 ..) (lm h))))
noncomputable abbrev aDm(C:Calls):Prop:=∀(x:List Nat) (Z:H),x.length<=12->∃Z',C.call 2 [.str x] Z=.ok (.bool (x.all λc=>cQ.contains c)) Z'/\Gr Z Z'
theorem pJ{l kd:Nat}{xs:List V}{L nx:List (List Nat)}(hne:l≠kd)(hl:Z[l]?=some (.list xs))(hd:Z[kd]?=some (.dict (tV L)))(hxn:xs.length=nx.length){tgt:V->Env->Option Env}{Q:Env->Prop}(hx:∀i (h:i<nx.length) v,xs[i]?=some v->∀J,Q J->∃J1,tgt v J=some J1/\Q J1/\J1[4]?=some (rF kd)/\J1[5]?=some (rS (nx[i])))(hz:L.length+xs.length<=50000){J:Env}(hq:Q J):
  ∃J' Z',forLoop tgt (λJ Z=>aH ns C J Z [.T (.v 4) (.v 5) (.k (V.bool true))]) xs.length (.list l 0) J Z=.ok .next J' Z'/\Q J'/\Z'[kd]?=some (.dict (tV (a8 L nx)))/\∀i o,i≠kd->Z[i]?=some o->Z'[i]?=some o:=by
 refine ex2 (bR (tgt:=tgt) (body:=λJ Z=>aH ns C J Z [.T (.v 4) (.v 5) (.k (V.bool true))]) (it:=λi=>.list l i)
  (λi J' Z'=>Q J'/\Z'[kd]?=some (.dict (tV (a8 L (nx.take i))))/\∀i o,i≠kd->Z[i]?=some o->Z'[i]?=some o) xs.length
  (λJ Z' p=>bY (p.2.2 l _ hne hl))
  (λi J' Z' hi p=>by
   refine an3 (p) λa1 a3 a6=>?_;have hi':i<nx.length:=hxn▸hi;obtain ⟨J1,q_h⟩:=(hx i hi' _ (zg hi) J' a1);refine an4 q_h λb1 b2 b3 b4=>?_;have h1:(tV (a8 L (nx.take i))).length<=200000:=by
    unfold tV;refine gw (zb ..) ?_;exact za (fM _ L) (za (yg (za (xt _ _) (zu hxn.symm)) _) (za hz (by decide)))
   refine ⟨xs[i],J1,J1,_,bE (a6 l _ hne hl) (zg hi),b1,iR rfl (cY b3) (cY b4) (setD a3 (lmx (f0 ..) h1)) aI,b2,?_,λi o hi e=>cA _ hi (a6 i o hi e)⟩;refine gw (eZ a3 ..) (gw (sI ..) (gw (bM nx hi' ..) ?_));unfold a8;exact gw (vw ..) rfl)
  xs.length 0 J Z (zp _) ⟨hq,hd,λz z z e=>e⟩) λJ' Z' q_h=>?_;refine an4 q_h λh a1 a3 a6=>?_
 rw [hxn,xb] at a3;exact ⟨J',Z',h,a1,a3,a6⟩
theorem vZ(hm:C.U=aJ T0)(h5:IsU C)(h34:mT C)(I:Inv G S P Z)(hh:∀x,x∉S.names->S.I x=[])(hk:k<S.n)(hz:(S.d k).ws.length<=50000){ks:List (List Nat)}{l pl:Nat}{h:List Nat}(hl:Z[l]?=some (.list (ks.map V.str)))(hpl:Z[pl]?=some (.list []))(f:Fr G S P pl)(hne:l≠pl)(hks:ks.length<=50000){a4 a5 a6:Option V}:
  ∃Z' o o',forLoop (dH 5) (λJ Z=>aH ns C J Z [.a 6 (.u (.v 0) NA [(.v 3),(.v 5)]),
  .x (.and [(.call 5 [(.v 5),(.v 2)]),(.g .isnt (.v 6) (.k V.none))]) [.expr (.me (.v 7) .append [(.tup [(.v 5),(.v 6)])])] []]) (ks.map V.str).length (.list l 0) [some (sh P),rI k,rS h,some (dl P k),a4,a5,a6,rF pl] Z =
   .ok .next [some (sh P),rI k,rS h,some (dl P k),a4,o,o',rF pl] Z'/\Z'[pl]?=some (.list (pV (und (sb (S.d k).ws (S.base k)) h ks)))/\∀p o,p≠pl->Z[p]?=some o->Z'[p]?=some o:=by
 refine cps λG' K=>?_;obtain ⟨J9,Z9,h9,⟨q1,q2,rfl⟩,d9,k9⟩:=bR (tgt:=dH 5) (body:=λJ Z=>aH ns C J Z [.a 6 (.u (.v 0) NA [(.v 3),(.v 5)]),
  .x (.and [(.call 5 [(.v 5),(.v 2)]),(.g .isnt (.v 6) (.k V.none))]) [.expr (.me (.v 7) .append [(.tup [(.v 5),(.v 6)])])] []]) (it:=λi=>.list l i)
  (λi J' Z'=>(∃o o',J'=[some (sh P),rI k,rS h,some (dl P k),a4,o,o',rF pl])/\Z'[pl]?=some (.list (pV (und (sb (S.d k).ws (S.base k)) h (ks.take i))))/\∀p o,p≠pl->Z[p]?=some o->Z'[p]?=some o) (ks.map V.str).length
  (λJ Z p=>bY (p.2.2 l _ hne hl))
  (λi J' Z' hi p=>by
   refine cps λG' K=>?_;refine an3 (p) λq_0 d kp=>?_;obtain ⟨o,o',rfl⟩:=q_0;have hi':i<ks.length:=by replace hi:=(zb ..)▸hi;exact hi
   have I':=I.but f kp;obtain ⟨Za,ea,ga⟩:=h34 I' hh hk hz ks[i];have da:=ga.at d;have ut:=a5u (f:=sb (S.d k).ws (S.base k)) (h:=h) hi';have zi:=za (xC (sb (S.d k).ws (S.base k)) h (ks.take i)) (za (xt _ _) hks);unfold a8u at ut;generalize sb (S.d k).ws (S.base k) ks[i]=t at ea ut;have hc:Ev ns C [some (sh P),rI k,rS h,some (dl P k),a4,rS (ks[i]),some (val t),rF pl] (.and [(.call 5 [(.v 5),(.v 2)]),(.g .isnt (.v 6) (.k V.none))]) Za (.bool (pre h ks[i]&&!dX (val t))) Za:=a6b (aG rfl (h5 ks[i] h Za)) rfl;have nx:=bE (Z:=Z') (i:=i) (kp l _ hne hl) (by refine gw (yk ..) (gw (zg hi' ..) ?_);rfl);have ev:Ev ns C [some (sh P),rI k,rS h,some (dl P k),a4,rS (ks[i]),o',rF pl] (.u (.v 0) NA [(.v 3),(.v 5)]) Z' (val t) Za:=aV rfl (aY hm (I'.b 0 (by decide)) rfl rfl) rfl ea;have no:(pre h ks[i]&&!dX (val t))=false->und (sb (S.d k).ws (S.base k)) h (ks.take (i+1))=und (sb (S.d k).ws (S.base k)) h (ks.take i)->G':=λhq eq=>by
    replace hc:=hq▸hc;exact K ⟨.str ks[i],_,_,Za,nx,rfl,aA ev rfl (aL hc aI),⟨_,_,rfl⟩,gw eq da,λp o h e=>ga.at (kp p o h e)⟩
   cases hb:pre h ks[i] with
   | false=>replace ut:=hb▸ut;exact no (gw hb rfl) (ut.trans (yw _))
   | true=>
    replace ut:=hb▸ut;cases t with
    | none=>exact no (gw hb rfl) (ut.trans (yw _))
    | some v=>
     rw [show (pre h ks[i]&&!dX (val (some v)))=true by rw [hb];rfl] at hc;refine K ⟨.str ks[i],_,_,_,nx,rfl,aA ev rfl (bU hc (aB (b5 (fZ rfl (kL da rfl) (a9 (eV rfl rfl)) (kY da (gw (mR ..) (lm1 (za zi (by decide)))))) aI) aI)),⟨_,_,rfl⟩,?_,λp o h e=>cA _ h (ga.at (kp p o h e))⟩;refine gw (eZ da ..) (gw ut ?_);unfold pV;exact gw (xc ..) rfl)
  (ks.map V.str).length 0 [some (sh P),rI k,rS h,some (dl P k),a4,a5,a6,rF pl] Z (zp _) ⟨⟨_,_,rfl⟩,hpl,λz z z e=>e⟩
 rw [show ks.take (ks.map V.str).length=ks by rw [zb,xb]] at d9;exact K ⟨Z9,q1,q2,h9,d9,k9⟩
end
section
variable{ns:List Int}{C:Calls}{J:Env}{Z Z' Z1 Z2 Z3 Z4:H}{G:Fz}{S:St}{P:Pl}{k c:Nat}
theorem v3(hm:C.U=aJ T0)(h31:dG C)(I:Inv G S P Z)(hk:k<S.n)(ho:(S.d k).st≠0){x:V}:evF ns C bG [sh P,.int k,x] Z=.exc 2 Z:=
 jX (fn:=bG) rfl (fF (wD h31 hm I hk ho rfl rfl))
noncomputable def Dl.un(D:Dl)(h:List Nat)(v:V):Dl:={ D with O:=cI D.O h,said:=D.said++[v] }
noncomputable def nms(S:St)(k:Nat):List (List Nat):=a8 (a8 [] S.names) (pN (S.d k).ws)
theorem a1g(hm:C.U=aJ T0)(h31:dG C)(h2:aDm C)(h5:IsU C)(h34:mT C)(I:Inv G S P Z)(hh:∀x,x∉S.names->S.I x=[])(hk:k<S.n)(ho:(S.d k).st=0)(hz:S.names.length+(S.d k).ws.length<=50000)(hs:(S.d k).said.length<=50000)(hhz:(S.d k).O.length<=50000){x:List Nat}(hx:x.length<=12)(hb:(x.all λc=>cQ.contains c)=true):
  ∃Z' a w,evF ns C bG [sh P,.int k,.str x] Z=.ok (.ref a) Z'/\Z'[a]?=some (.list (pV (und (sb (S.d k).ws (S.base k)) x (jE dK (nms S k)))))/\Z.length<=a/\Fr G S P a/\Inv G (S.setD k ((S.d k).un x w)) P Z':=by
 refine cps λG' K=>?_;have hz1:S.names.length<=50000:=za (zt _ _) hz;have hwz:(S.d k).ws.length<=50000:=za (kf _ _) hz;obtain ⟨Z1,e1,g1⟩:=h2 x Z hx;replace e1:=hb▸e1;have I1:=I.gr g1;let Z2:=Z1++[O.dict (tV [])];let Z3:=Z2++[O.list (S.names.map V.str)];have I2:=I1.gr (Gr.app Z1 [O.dict (tV [])]);have I3:Inv G S P Z3:=I2.gr (Gr.app Z2 _);have f:Fr G S P Z1.length:=I1.fr (zf _);have l2:Z2.length=Z1.length+1:=bH _ _;refine ex2 (pJ (ns:=ns) (C:=C) (l:=Z2.length) (kd:=Z1.length) (xs:=S.names.map V.str) (L:=[]) (nx:=S.names) (tgt:=dH 5) (Q:=λJ=>∃o,J=[some (sh P),rI k,rS x,some (dl P k),rF Z1.length,o,.none,.none]) (l2▸uo _) (aE Z2 _) ((Gr.app Z2 _).at (aE Z1 _)) (zb ..) (λi hi v hv J q=>by
   replace hv:=(zg hi ..)▸(yk ..)▸hv;cases hv;obtain ⟨o,rfl⟩:=q;exact ⟨_,rfl,⟨_,rfl⟩,rfl,rfl⟩) (gw (zb ..) ((zp _).symm▸hz1)) ⟨.none,rfl⟩) λJ4 Z4 q_h=>?_;refine an4 q_h λh4 q_3 d4 k4=>?_;obtain ⟨o4,rfl⟩:=q_3
 have I4:=I3.but f k4;let nn:=nms S k;have hw4:Z4[P.A (.d 1 k)]?=some (.list (wV (S.d k).ws)):=I4.d 1 (by decide) hk;have ln:(a8 [] S.names).length<=S.names.length:=za (fM _ []) (zu (zp _));refine ex2 (pJ (ns:=ns) (C:=C) (l:=P.A (.d 1 k)) (kd:=Z1.length) (xs:=wV (S.d k).ws) (L:=a8 [] S.names) (nx:=pN (S.d k).ws) (tgt:=m8 5 6) (Q:=λJ=>∃o o',J=[some (sh P),rI k,rS x,some (dl P k),rF Z1.length,o,o',.none]) (f.ne (.d 1 k) ⟨by decide,hk⟩) hw4 d4 ((iJ _).trans (zb ..).symm) (λi hi v hv J q=>by
   have hi':i<(S.d k).ws.length:=by rw [pN,zb] at hi;exact hi
   replace hv:=(uY hi' ..)▸hv;cases hv;refine ex2 (q) λo o' q_2=>?_;obtain rfl:=q_2;exact ⟨_,rfl,⟨_,_,rfl⟩,rfl,Uf (λz=>some (rS z)) (List.getElem_map (λp:List Nat×Option Int=>p.1) (l:=(S.d k).ws) (h:=hi)).symm⟩) (gw (iJ ..) (za (yx ln _) hz)) ⟨o4,.none,rfl⟩) λJ5 Z5 q_h=>?_;refine an4 q_h λh5' q_3 d5 k5=>?_;obtain ⟨o5,o6,rfl⟩:=q_3
 have I5:=I4.but f k5;have nnz:nn.length<=50000:=za (fM _ _) (za (yy ln (zu (zb ..))) hz);let Z6:=Z5++[O.list []];let Z7:=Z6++[O.list (nn.map V.str)];let ks:=jE dK nn;have nnd:nn.Nodup:=eM _ (eM _ um);let Z8:=Z7++[O.list (ks.map V.str)];have I8:Inv G S P Z8:=((I5.gr (Gr.app Z5 _)).gr (Gr.app Z6 _)).gr (Gr.app Z7 _);have fp:Fr G S P Z5.length:=I5.fr (zf _);have l6:Z6.length=Z5.length+1:=bH _ _;have l7:Z7.length=Z5.length+2:=by show (_++[_]).length=_;exact gw (bH ..) (gw l6 rfl)
 have hks:ks.length<=50000:=by show (jE _ _).length<=_;exact gw (l9 ..) nnz
 refine ex3 (vZ (ns:=ns) (h:=x) (l:=Z7.length) (pl:=Z5.length) (ks:=ks) (a4:=rF Z1.length) (a5:=o5) (a6:=o6) hm h5 h34 I8 hh hk hwz (aE Z7 _) (((Gr.app Z6 _).tr (Gr.app Z7 _)).at (aE Z5 _)) fp (l7▸wq (jb (by decide))) hks) λZ9 q1 q2 q_h=>?_;refine an3 q_h λh9 d9 k9=>?_;have I9:=I8.but fp k9;have hps:(und (sb (S.d k).ws (S.base k)) x ks).length<=50000:=za (xC _ _ _) hks;replace K:(∃Z' a w,evF ns C bG [sh P,.int k,.str x] Z=.ok (.ref a) Z'/\Z'[a]?=some (.list (pV (und (sb (S.d k).ws (S.base k)) x ks)))/\Z.length<=a/\Fr G S P a/\Inv G (S.setD k ((S.d k).un x w)) P Z')->G':=K;generalize und (sb (S.d k).ws (S.base k)) x ks=ps at d9 hps K;have np:=(fp.ne (.d 4 k) ⟨by decide,hk⟩).symm;have hl:=f0 x (.bool true) (tV (S.d k).O);have hl':(tV (S.d k).O).length=(S.d k).O.length:=by unfold tV;exact gw (zb ..) rfl
 have IA:Inv G (S.setD k { S.d k with O:=cI (S.d k).O x }) P (Z9.set (P.A (.d 4 k)) (.dict (bP (tV (S.d k).O) x (.bool true)))):=I9.storeD (j:=4) (k:=k) ⟨(by decide:4<5),hk⟩ (λi hi h5=>dJ (q:=4) hi h5 (.inr ⟨rfl,rfl,rfl⟩) (.inr rfl) (.inr rfl) (.inr rfl) (.inl rfl)) (Uf O.dict (sI x _));have ap:=cA (O.dict (bP (tV (S.d k).O) x (.bool true))) np d9;generalize hσA:Z9.set (P.A (.d 4 k)) (.dict (bP (tV (S.d k).O) x (.bool true)))=ZA at IA ap;have qA:pF (.ref (P.A (.d 4 k))) (.str x) (.bool true) Z9=.ok .none ZA:=(setD (I9.d 4 (by decide) hk) (lmx hl (hl'▸za hhz (by decide)))).trans (Uf (R.ok V.none) hσA);have IB:=IA.gr (Gr.app ZA [O.list (pV ps)]);have eD:(S.setD k { S.d k with O:=cI (S.d k).O x }).d k={ S.d k with O:=cI (S.d k).O x }:=S.setD_at k _;have hk':k<(S.setD k { S.d k with O:=cI (S.d k).O x }).n:=hk;have a2:=IA.d 2 (by decide) hk';have a2':=IB.d 2 (by decide) hk';have IC:=IB.said hk' (.tup [.str Nr,.str x,.ref ZA.length]);rw [eD] at a2 a2' IC;replace IC:=(St.setD_setD ..)▸IC;have b1:aH ns C [some (sh P),rI k,rS x,some (dl P k),rF Z1.length,q1,q2,rF Z5.length] Z9 (bG.body.drop 7)=.ok (.ret (.ref Z5.length)) _ _:=
  iR rfl (aO rfl (tQ I9 hk)) rfl qA (b5 (fZ (aO rfl (nW IA hk')) (kL a2 rfl) (a9 (eV (b7 rfl rfl (bD rfl (qJ ap (gw (mR ..) hps)))) rfl)) (kY a2' (lm1 (n:=(S.d k).said.length) (za hs (by decide))))) (aP rfl))
 have e7:biV ns .list (.ref Z1.length) Z6=.ok (.ref Z6.length) Z7:=(pU (P:=tV nn) ((Gr.app Z5 _).at d5) (by unfold tV;exact gw (zb ..) nnz)).trans (gw (yI ..) rfl);have b2:=bT (r:=bG.body.drop 7) (k:=5) (J:=[some (sh P),rI k,rS x,some (dl P k),rF Z1.length,o5,o6,rF Z5.length]) (bN (bD (bD (ns:=ns) (C:=C) (J:=[some (sh P),rI k,rS x,some (dl P k),rF Z1.length,o5,o6,rF Z5.length]) (a:=.v 4) rfl e7) (aBb (by unfold b9;dsimp only;exact gw (aE Z6 _ ..) rfl) nnz nnd)) (aE Z7 _)) (aB h9 b1);have ge5:Z.length<=Z5.length:=za g1.length_le (yd (zc.mp d5).1);exact K ⟨_,Z5.length,_,aN (fn:=bG) rfl (aA (lC h31 hm I hk ho rfl rfl) rfl (aL (cE (aG rfl e1) rfl) (aA rfl rfl (bT (bN (bD (aO rfl (gW I2)) ((pU (I2.b 1 (by decide)) (gw (zb ..) hz1)).trans (by rw [dZ λx=>V.ref (P.A (.h x))]))) (aE Z2 _)) (aB h4 (lK (bN (aO rfl (j9 I4 hk)) hw4) (aB h5' (aA (bV rfl (yj _)) rfl b2)))))))),cA _ (fp.ne (.d 2 k) ⟨by decide,hk⟩).symm ((Gr.app ZA _).at ap),ge5,⟨fp.ne,fp.no⟩,IC⟩
end
section
variable{ns:List Int}{C:Calls}{J:Env}{Z Z' Z1 Z2 Z3 Z4:H}{G:Fz}{S:St}{P:Pl}{k:Nat}
theorem yZ(ws:Ws)(m:Nat):cut (wV ws) .none (some (m:Int))=wV (ws.take m):=by refine gw (iN _ (zy m) ..) (gw (xa ..) ?_);unfold wV;exact gw (zbn ..) rfl
theorem sM{κ:Kd}(I:Iv κ G S P Z)(hk:k<S.n):biV ns .len (.ref (P.A (.d 1 k))) Z=.ok (.int (S.d k).ws.length) Z:=(nT (xs:=wV (S.d k).ws) (I.d 1 (by decide) hk)).trans (gw (iJ ..) rfl)
theorem a8c(hm:C.U=aJ T0)(h31:dG C)(I:Inv G S P Z)(hk:k<S.n)(ho:(S.d k).st=0):evF ns C dF [sh P,.int k] Z=.ok (.int (S.d k).ws.length) Z:=
 aN (fn:=dF) rfl (aP (bD (aO (lC h31 hm I hk ho rfl rfl) (j9 I hk)) (sM I hk)))
theorem aEu(hm:C.U=aJ T0)(h31:dG C)(I:Inv G S P Z)(hk:k<S.n)(ho:(S.d k).st≠0):evF ns C dF [sh P,.int k] Z=.exc 2 Z:=
 jX (fn:=dF) rfl (aEc (aCc (aCc (wD h31 hm I hk ho rfl rfl))))
theorem a0j(hm:C.U=aJ T0)(h31:dG C)(I:Inv G S P Z)(hk:k<S.n)(ho:(S.d k).st≠0):evF ns C cU [sh P,.int k] Z=.exc 2 Z:=
 jX (fn:=cU) rfl (fF (wD h31 hm I hk ho rfl rfl))
theorem a7f(hm:C.U=aJ T0)(h31:dG C)(I:Inv G S P Z)(hk:k<S.n)(ho:(S.d k).st=0):∃Z',evF ns C cU [sh P,.int k] Z=.ok .none Z'/\Inv G (S.setD k { S.d k with st:=1 }) P Z':=
 ⟨_,m3 (fn:=cU) rfl (aA (lC h31 hm I hk ho rfl rfl) rfl (eI rfl rfl (rL (kvs:=dlE (S.d k).start (S.d k).st (S.d k).kat (P.A (.d 1 k)) (P.A (.d 2 k)) (P.A (.d 3 k)) (P.A (.d 4 k))) (I.d 0 (by decide) hk) (by show 7<=lim;decide)) aI)),
  I.storeD (j:=0) (k:=k) (D:={ S.d k with st:=1 }) (o:=.dict (dlE (S.d k).start 1 (S.d k).kat (P.A (.d 1 k)) (P.A (.d 2 k)) (P.A (.d 3 k)) (P.A (.d 4 k)))) ⟨(by decide:0<5),hk⟩ (λi hi h5=>dJ (q:=0) hi h5 (.inl rfl) (.inr rfl) (.inr rfl) (.inr rfl) (.inr rfl)) rfl⟩
theorem a2e(I:Inv G S P Z)(hz:S.row.length<=50000):evF ns C f9 [sh P] Z=.ok (.ref Z.length) (Z++[.list (iV S.row)]):=
 aN (fn:=f9) rfl (aP (bD (aO rfl (jG I)) (qJ (I.b 3 (by decide)) (by rw [fP];exact hz))))
theorem zO(hm:C.U=aJ T0)(h31:dG C)(I:Inv G S P Z)(hk:k<S.n)(ho:(S.d k).st≠0){m:V}:evF ns C cS [sh P,.int k,m] Z=.exc 2 Z:=
 jX (fn:=cS) rfl (fF (wD h31 hm I hk ho rfl rfl))
noncomputable def Dl.bk(D:Dl)(m:Nat)(v:V):Dl:={ D with ws:=D.ws.take m,said:=D.said++[v] }
theorem Iv.back{κ:Kd}(I:Iv κ G S P Z)(hk:k<S.n)(m:Nat):Iv κ G (S.setD k { S.d k with ws:=(S.d k).ws.take m }) (P.grow Z.length k 1 1) ((Z++[O.list (wV ((S.d k).ws.take m))]).set (P.A (.d 0 k)) (κ.dE (S.d k).start (S.d k).st (S.d k).kat Z.length (P.A (.d 2 k)) (P.A (.d 3 k)) (P.A (.d 4 k)))):=by
  let P':=P.grow Z.length k 1 1;let D1:Dl:={ S.d k with ws:=(S.d k).ws.take m };have eD:(S.setD k D1).d k=D1:=S.setD_at k D1;refine I.grow (S':=S.setD k D1) (Gr.app Z _) ⟨(by decide:0<5),hk⟩ (λj h z=>by intro q;injection q with q;exact Ue (q▸h) (by decide)) (λj h h'=>?_) (λc lc hc=>?_) ?_
  ·obtain rfl:j=1:=kg (yz h') h;show (Z++[_])[Z.length+(1-1)]?=some (iC κ ((S.setD k D1).d k) P' k 1);exact gw eD (aE Z _)
  ·cases c with
   | b j=>exact ⟨lc,λq=>n9 (S:=S) (P:=P) (P':=P') (λz=>rfl) (λk' z=>dR (.inr (.inl (by decide)))) (λz z=>rfl) j⟩
   | h x=>exact ⟨lc,λz=>rfl⟩
   | d j k'=>
    refine ⟨lc,λq=>?_⟩;show iC κ ((S.setD k D1).d k') P' k' j=iC κ (S.d k') P k' j;by_cases e:k'=k
    ·subst e;refine gw eD ?_;have h0:j≠0:=λe=>q (gw e rfl);have h1:j≠1:=λe=>hc 1 (by decide) (by decide) (gw e rfl);exact (kR (λe=>Ue e h0)).trans (dJ (q:=1) h1 lc.1 (.inr ⟨rfl,rfl,rfl⟩) (.inl rfl) (.inr rfl) (.inr rfl) (.inr rfl))
    ·exact gw (S.setD_ne D1 e ..) (kR (λz i z z=>dR (.inl e)))
  ·show _=iC κ ((S.setD k D1).d k) P' k 0;refine gw eD ?_;show _=κ.dE _ _ _ (P'.A (.d 1 k)) (P'.A (.d 2 k)) (P'.A (.d 3 k)) (P'.A (.d 4 k));exact gw (iU (by decide) (by decide) ..) (gw (dR (.inr (.inr (by decide))) ..) (gw (dR (.inr (.inr (by decide))) ..) (gw (dR (.inr (.inr (by decide))) ..) rfl)))
theorem a8e(hm:C.U=aJ T0)(h31:dG C)(h1:∀i Z,C.call 1 [.int i] Z=.ok (.bool true) Z)(I:Inv G S P Z)(hk:k<S.n)(ho:(S.d k).st=0)(hz:(S.d k).ws.length<=50000)(hs:(S.d k).said.length<=50000){m:Nat}(hi:m<=(S.d k).ws.length):
  ∃P' Z',evF ns C cS [sh P,.int k,.int m] Z=.ok .none Z'/\P.Sim P'/\Inv G (S.setD k ((S.d k).bk m (.tup [.str NF,.int m]))) P' Z':=by
 refine cps λG' K=>?_;let P':=P.grow Z.length k 1 1;let D1:Dl:={ S.d k with ws:=(S.d k).ws.take m };have eD:(S.setD k D1).d k=D1:=S.setD_at k D1;have I1:=I.back hk m;have e0:P'.A (.d 0 k)=P.A (.d 0 k):=dR (.inr (.inl (by decide)));have hk':k<(S.setD k D1).n:=hk;have hsd:=I1.d 2 (by decide) hk';have I2:=I1.said hk' (.tup [.str NF,.int m]);rw [eD] at hsd I2;replace I2:=(St.setD_setD ..)▸I2;have hdl:=nW I1 hk';rw [show dl P' k=dl P k by show V.inst 0 (P'.A _)=_;rw [e0]] at hdl;refine K ⟨P',_,m3 (fn:=cS) rfl (aA (lC h31 hm I hk ho rfl rfl) rfl (aL (orF (cE (aG rfl (h1 m Z)) rfl) (or1 (cE (tA rfl rfl (zV (zy m)) (bD (aO rfl (j9 I hk)) (sM I hk)) (zV (xd.mpr hi))) rfl))) (eI (cJ (aO rfl (j9 I hk)) rfl rfl ((slL (lo:=.none) (hi:=some (m:Int)) (I.d 1 (by decide) hk) rfl rfl ?_).trans (gw (yZ ..) rfl))) rfl (rL ((Gr.app Z _).at (I.d 0 (by decide) hk)) ?_) (b5 (fZ (aO rfl hdl) (kL hsd rfl) (a9 (eV rfl rfl)) (kY hsd ?_)) aI)))),rfl,I2⟩
 ·exact gw (iJ ..) (lm hz)
 ·show 7<=lim;decide
 ·exact lm1 (za hs (by decide))
end
noncomputable def upd(M:Fz)(a:Nat)(o:O):Fz:=λi=>if i=a then some o else M i
theorem lG(M:Fz)(a:Nat)(o:O):upd M a o a=some o:=Ua rfl
theorem jS(M:Fz){a i:Nat}(o:O)(h:i≠a):upd M a o i=M i:=Ub h
section
variable{ns:List Int}{C:Calls}{J:Env}{Z Z':H}{M:Fz}{S:St}{P:Pl}{a k:Nat}{o x:O}
theorem Iv.at{κ:Kd}(I:Iv κ M S P Z)(h:M a=some o):Z[a]?=some o:=(I.fz a o h).1
theorem Iv.upd{κ:Kd}(I:Iv κ M S P Z)(h:M a=some x)(o:O):Iv κ (upd M a o) S P (Z.set a o):=by
 obtain ⟨h1,h2⟩:=I.fz a x h;refine ⟨λc l=>⟨cA _ (h2 c l) (I.c c l).1,(I.c c l).2⟩,λi y e=>?_⟩;by_cases q:i=a
 ·replace e:=(lG ..)▸q▸e;refine gw q ?_;cases e;exact ⟨eZ h1 _,h2⟩
 ·replace e:=(jS M o q ..)▸e;exact ⟨cA _ q (I.fz i y e).1,(I.fz i y e).2⟩
theorem Iv.add{κ:Kd}(I:Iv κ M S P Z)(f:Fr M S P a)(h:Z[a]?=some o):Iv κ (Mine.Internal.L11.upd M a o) S P Z:=by
 refine ⟨I.c,λi y e=>?_⟩;by_cases q:i=a
 ·replace e:=(lG ..)▸q▸e;refine gw q ?_;cases e;exact ⟨h,f.ne⟩
 ·replace e:=(jS M o q ..)▸e;exact I.fz i y e
theorem Iv.new{κ:Kd}(I:Iv κ M S P Z)(o:O):Iv κ (Mine.Internal.L11.upd M Z.length o) S P (Z++[o]):=(I.gr (Gr.app Z _)).add (I.fr (zf _)) (aE Z o)
theorem isL{l:Nat}{xs:List V}(hl:Z[l]?=some (.list xs)):zT .list (.ref l) Z=.ok (.bool true) Z:=by show onL l (λz=>M.ret (V.bool true)) Z=_;unfold onL;exact gw (dI hl ..) rfl
theorem aBn{ps:Ps}{i:Nat}(h:i<ps.length):(pV ps)[i]?=some (.tup [.str ps[i].1,.int ps[i].2]):=by unfold pV;refine gw (yk ..) (gw (zg h ..) ?_);rfl
noncomputable abbrev wA(C:Calls):Prop:=∀s t Z,C.call 18 [val s,val t] Z=.ok (.bool (decide (s=t))) Z
theorem a5s(h18:wA C){chk:E}{a b:Nat}{xs:List V}(ha:Z[a]?=some (.list xs))(hb:Z[b]?=some (.list xs))(hz:xs.length<=50000)(hx:∀(i:Nat) v,xs[i]?=some v->∃u t,v=.tup [u,val t]/\eA .ne u u Z=.ok (.bool false) Z/\Ev ns C [rF a,rF b,rI i] chk Z (.bool false) Z):
  ∃J',aH ns C [rF a,rF b,.none] Z [.x (.or [(.not (.isi (.v 0) .list)),(.g .ne (.bi .len (.v 0)) (.bi .len (.v 1)))]) [.dead] [],
   .Z 2 (.range (.bi .len (.v 1))) [.x (.or [(.not (.isi (.i (.v 0) (.v 2)) (.tuple ()))),(.g .ne (.bi .len (.i (.v 0) (.v 2))) (.k (V.int 2))),chk]) [.dead] [],
    .x (.or [(.g .ne (.i (.i (.v 0) (.v 2)) (.k (V.int 0))) (.i (.i (.v 1) (.v 2)) (.k (V.int 0)))),(.not (.call 18 [(.i (.i (.v 0) (.v 2)) (.k (V.int 1))),(.i (.i (.v 1) (.v 2)) (.k (V.int 1)))]))]) [.dead] []],
   .ret (.k (V.bool true))]=.ok (.ret (.bool true)) J' Z:=by
 refine cps λG' K=>?_;have hs:=cO (ns:=ns) (C:=C) (J:=[rF a,rF b,.none]) (e:=.bi .len (.v 1)) (k:=xs.length) (bD rfl (nT hb)) (nz _) (ns_ (za hz (by decide)));replace hs:=(xa ..)▸hs;obtain ⟨J',Z',h,⟨o,rfl⟩,rfl⟩:=bR (tgt:=dH 2) (body:=λJ Z=>aH ns C J Z [.x (.or [(.not (.isi (.i (.v 0) (.v 2)) (.tuple ()))),(.g .ne (.bi .len (.i (.v 0) (.v 2))) (.k (V.int 2))),chk]) [.dead] [],
    .x (.or [(.g .ne (.i (.i (.v 0) (.v 2)) (.k (V.int 0))) (.i (.i (.v 1) (.v 2)) (.k (V.int 0)))),(.not (.call 18 [(.i (.i (.v 0) (.v 2)) (.k (V.int 1))),(.i (.i (.v 1) (.v 2)) (.k (V.int 1)))]))]) [.dead] []]) (it:=λi=>.range i xs.length)
  (λi J Z'=>(∃o:Option V,J=[rF a,rF b,o])/\Z'=Z) xs.length (λz z z=>cH)
  (λi J Z' hi p=>by
   obtain ⟨⟨o,rfl⟩,rfl⟩:=p;obtain ⟨u,t,e,hu,hc⟩:=hx i _ (zg hi);have hi':xs[i]?=some (.tup [u,val t]):=(zg hi).trans (Uf some e);have x0:Ev ns C [rF a,rF b,rI i] (.i (.v 0) (.v 2)) Z' (.tup [u,val t]) Z':=aK rfl rfl (kZ ha (zy i) hi');have x1:Ev ns C [rF a,rF b,rI i] (.i (.v 1) (.v 2)) Z' (.tup [u,val t]) Z':=aK rfl rfl (kZ hb (zy i) hi');exact ⟨_,_,_,_,bJ hi,rfl,aL (orF (cE (tR x0 rfl) rfl) (orF (aM (bD x0 rfl) rfl rfl) (or1 hc))) (aL (orF (aM (aK x0 rfl rfl) (aK x1 rfl rfl) hu) (or1 (cE (aG (bW (aK x0 rfl rfl) (aK x1 rfl rfl)) ((h18 t t Z').trans (gw (Uc rfl) rfl))) rfl))) aI),⟨_,rfl⟩,rfl⟩)
  xs.length 0 [rF a,rF b,.none] Z (zp _) ⟨⟨_,rfl⟩,rfl⟩
 exact K ⟨_,aL (orF (cE (tR rfl (isL ha)) rfl) (or1 (aM (bD rfl (nT ha)) (bD rfl (nT hb)) ((neI _ _).trans (gw (Uc rfl) rfl))))) (bT hs (aB h (aP rfl)))⟩
theorem a4z(h18:wA C){a b:Nat}{ps:Ps}(ha:Z[a]?=some (.list (pV ps)))(hb:Z[b]?=some (.list (pV ps)))(hz:ps.length<=50000):evF ns C m7 [.ref a,.ref b] Z=.ok (.bool true) Z:=by
 obtain ⟨J',h⟩:=a5s (ns:=ns) h18 (chk:=.not (.isi (.i (.i (.v 0) (.v 2)) (.k (V.int 0))) .str)) ha hb (gw (mR ..) hz) λi v e=>by
  have hi:i<ps.length:=mR ps▸(zc.mp e).1;cases (aBn hi).symm.trans e;exact ⟨.str ps[i].1,some ps[i].2,rfl,(neS _ _).trans (gw (Uc rfl) rfl),cE (tR (aK (aK rfl rfl (kZ ha (zy i) (aBn hi))) rfl rfl) rfl) rfl⟩
 exact aN (fn:=m7) rfl h
theorem a6v(h11:∀i Z,C.call 11 [.int i] Z=.ok (.bool true) Z)(h18:wA C){a b:Nat}{l:List (Nat×Option Int)}(ha:Z[a]?=some (.list (hV l)))(hb:Z[b]?=some (.list (hV l)))(hz:l.length<=50000):evF ns C jA [.ref a,.ref b] Z=.ok (.bool true) Z:=by
 obtain ⟨J',h⟩:=a5s (ns:=ns) h18 (chk:=.not (.call 11 [(.i (.i (.v 0) (.v 2)) (.k (V.int 0)))])) ha hb (gw (show (hV l).length=_ from zb ..) hz) λi v e=>by
  have hi:i<l.length:=(show (hV l).length=l.length from zb ..)▸(zc.mp e).1;cases (uD hi).symm.trans e;exact ⟨.int l[i].1,l[i].2,rfl,(neI _ _).trans (gw (Uc rfl) rfl),cE (aG (a9 (aK (aK rfl rfl (kZ ha (zy i) (uD hi))) rfl rfl)) (h11 _ Z)) rfl⟩
 exact aN (fn:=jA) rfl h
end
theorem zF{n:List Nat}{d:Kv}(h:n∉keysOf d):aW d n=.none:=by
 cases e:aW d n with
 | none=>rfl
 | some v=>exact Ue ((iP n d).mpr (gw e rfl)) h
theorem qU(n:List Nat):∀(qs d:Kv),(keysOf qs).Nodup->aW (aZ d qs) n=(aW qs n).or (aW d n):=by
 intro qs
 induction qs with
 | nil=>intro _ _;rfl
 | cons p r ih=>
  obtain ⟨a,x⟩:=p;intro d h;obtain ⟨h1,h2⟩:=wg.mp h;show aW (aZ (bP d a x) r) n=(if a=n then some x else aW r n).or (aW d n);refine gw (ih _ h2 ..) (gw (rM ..) ?_);by_cases e:a=n
  ·exact gw (Ua e ..) (gw (Ua e ..) (gw (zF (e▸h1) ..) rfl))
  ·exact gw (Ub e ..) (gw (Ub e ..) rfl)
theorem uI:∀(qs d:Kv),(keysOf d).Nodup->(keysOf (aZ d qs)).Nodup:=by
 intro qs
 induction qs with
 | nil=>intro _ h;exact h
 | cons p r ih=>intro d h;exact ih _ (oF _ _ d h)
theorem mE:∀(qs d:Kv),(aZ d qs).length<=d.length+qs.length:=by
 intro qs
 induction qs with
 | nil=>intro _;exact zf _
 | cons p r ih=>intro d;exact za (ih (bP d p.1 p.2)) (za (yx (f0 _ _ d) _) (zu (wz _ _)))
theorem aDw{n:List Nat}(qs d:Kv)(hq:(keysOf qs).Nodup)(h:n∈keysOf (aZ d qs)):n∈keysOf qs∨n∈keysOf d:=by
 have h:=(iP n _).mp h;replace h:=(qU n qs d hq ..)▸h;cases e:aW qs n with
 | none=>replace h:=e▸h;exact .inr ((iP n _).mpr h)
 | some v=>exact .inl ((iP n _).mpr (gw e rfl))
noncomputable def Vd(d:Kv)(f:List Nat->Option Int):Prop:=∀n,get d n=val (f n)
theorem Vd.put{d:Kv}{f:List Nat->Option Int}(h:Vd d f)(ws:Ws):Vd (aZ d (put [] ws)) (sb ws f):=λn=>by
 unfold get;refine gw (qU n _ _ (m6 _ [] um) ..) (gw (aHl ..) ?_);unfold sb;cases lw ws n with
 | none=>exact h n
 | some t=>rfl
theorem Vd.key{d:Kv}{f:List Nat->Option Int}(h:Vd d f){n:List Nat}(q:f n≠.none):n∈keysOf d:=by refine Classical.byContradiction λw=>q (xI ((h n).symm.trans ?_));unfold get;exact gw (zF w ..) rfl
theorem a7n{d:Kv}{n:List Nat}(h:n∈keysOf d):aW d n=some (get d n):=by
 have h:=(iP n d).mp h;unfold get;cases e:aW d n with
 | none=>replace h:=e▸h;cases h
 | some v=>rfl
theorem xX:∀(h n:List Nat),decide (cut n .none (some h.length)=h)=pre h n:=by
 intro h n;refine gw (iN _ (zy _) ..) (gw (xa ..) ?_)
 induction h generalizing n with
 | nil=>exact gw (za2 ..) (gw (zag ..) (gw (Uc rfl ..) rfl))
 | cons a h ih=>
  cases n with
  | nil=>exact Ud λq=>by cases q
  | cons b n=>
   show decide (b::n.take h.length=a::h)=(a == b&&pre h n);rw [←ih,uh,gz,beq_iff_eq,decide_eq_true_eq,decide_eq_true_eq,List.cons_eq_cons,eq_comm]
noncomputable def asP(f:List Nat->Option Int)(n:List Nat):Option (List Nat×Int):=(f n).map λv=>(n,v)
theorem a7b(f:List Nat->Option Int)(h:List Nat)(ks:List (List Nat)):(ks.filter (pre h)).filterMap (asP f)=und f h ks:=by exact gw (List.filterMap_filter ..) rfl
theorem a2l{α β:Type}(f:α->Option β)(l:List α){i:Nat}(h:i<l.length):(l.take (i+1)).filterMap f=(l.take i).filterMap f++(f l[i]).toList:=by
 refine gw (bM l h ..) (gw (fg ..) ?_);cases e:f l[i] with
 | none=>exact gw (zax e ..) rfl
 | some v=>exact gw (zay e ..) rfl
section
variable{ns:List Int}{C:Calls}{Z Z':H}
theorem aHb{l:Nat}{P:Kv}(hl:Z[l]?=some (.dict P))(h:P.length<=lim):biV ns .dict (.ref l) Z=.ok (.ref Z.length) (Z++[.dict P]):=by show (match Z[l]? with | some (.dict kvs)=>i6 kvs Z | some (.list xs)=>(bF (fU xs)).bnd (λps=>i6 (aZ [] ps)) Z | _=>.stuck)=_;refine gw hl ?_;show i6 P Z=_;unfold i6;exact gw (Ua h) rfl
theorem aGh{l j:Nat}{kvs qs:Kv}(hl:Z[l]?=some (.dict kvs))(hj:Z[j]?=some (.dict qs))(hne:j≠l)(h:kvs.length+qs.length<=50000):meV (.ref l) .update [.ref j] Z=.ok .none (Z.set l (.dict (aZ kvs qs))):=by unfold meV;dsimp only;refine gw hl ?_;show (if j=l then stuck else onD j λqs=>if kvs.length+qs.length<=lim then fN l (aZ kvs qs) else stuck:M V) Z=_;refine gw (Ub hne ..) (gw (s9 hj ..) (gw (Ua (lm h) ..) ?_));unfold fN;exact gw (Ua (lm (za (mE _ _) h)) ..) rfl
theorem a7q{l:Nat}{ws:Ws}(hl:Z[l]?=some (.list (wV ws)))(hz:ws.length<=50000):evF ns C pQ [.ref l] Z=.ok (.ref Z.length) (Z++[.dict (put [] ws)]):=by
 obtain ⟨J',Z',h,o,rfl,rfl⟩:=bR (tgt:=dH 2) (body:=λJ Z=>aH ns C J Z [.T (.v 1) (.i (.v 2) (.k (V.int 0))) (.i (.v 2) (.k (V.int 1)))]) (it:=λi=>.list l i)
  (λi J Z'=>∃o:Option V,J=[rF l,rF Z.length,o]/\Z'=Z++[.dict (put [] (ws.take i))]) (wV ws).length
  (λJ Z' p=>by obtain ⟨o,rfl,rfl⟩:=p;exact bY ((Gr.app Z _).at hl))
  (λi J Z' hi p=>by
   obtain ⟨o,rfl,rfl⟩:=p;have hi':i<ws.length:=by replace hi:=(iJ ..)▸hi;exact hi
   have e:=tZ [] (ws.take i) ws[i];replace e:=(bM ws hi' ..)▸e;exact ⟨_,_,_,_,bE ((Gr.app Z _).at hl) (uY hi'),rfl,iR (aK rfl rfl rfl) rfl (aK rfl rfl rfl) (setD (aE Z _) (bw e (lm (za (iE _ []) (za (zu (zp _)) (za (xt _ _) hz)))))) aI,_,rfl,(gw (n5 ..) (bw e rfl))⟩)
  (wV ws).length 0 [rF l,rF Z.length,.none] (Z++[.dict []]) (zp _) ⟨_,rfl,rfl⟩
 replace h:=(xb ..)▸(iJ ..)▸h;exact aN (fn:=pQ) (vs:=[.ref l]) rfl (aA (v:=.ref Z.length) rfl rfl (bT (bN rfl ((Gr.app Z _).at hl)) (aB (gw (iJ ..) h) (aP rfl))))
theorem a6y{J:Env}{v d l:Nat}{P:Kv}{g:List Nat->Option Int}{lo:List (List Nat)}(hv:(J++[.none])[v]?=some (rF d))(hD:Z[d]?=some (.dict P))(hV:Vd P g)(hlo:∀n∈lo,n∈keysOf P)(hl:Z[l]?=some (.list (lo.map V.str)))(hz:lo.length<=50000)(hvl:v<J.length):
  eH (fIf ns C J (.tup [(.v J.length),(.i (.v v) (.v J.length))]) (.g .isnt (.i (.v v) (.v J.length)) (.k V.none))) lo.length (.list l 0) [] Z=.ok (pV (lo.filterMap (asP g))) Z:=by
 obtain ⟨Z',h,rfl⟩:=cG (f:=fIf ns C J (.tup [(.v J.length),(.i (.v v) (.v J.length))]) (.g .isnt (.i (.v v) (.v J.length)) (.k V.none))) (it:=λi=>.list l i) (·=Z) lo V.str (λn=>(asP g n).map λp=>.tup [.str p.1,.int p.2]) (lm hz) rfl (λi Z' e=>dQ (e▸hl) i) (λn hn Z' e=>by
  subst e;have hget:=a7n (hlo _ hn);replace hget:=(hV n ..)▸hget;have e0:Ev ns C (J++[rS n]) (.v J.length) Z' (.str n) Z':=cY (by refine gw (zv (zf _) ..) (gw (vz ..) ?_);rfl);have e1:Ev ns C (J++[rS n]) (.v v) Z' (.ref d) Z':=cY (by rw [xn hvl] at hv ⊢;exact hv);have hx:Ev ns C (J++[rS n]) (.i (.v v) (.v J.length)) Z' (val (g n)) Z':=aK e1 e0 (nO hD hget);refine ⟨Z',?_,rfl⟩;unfold asP;cases ht:g n with
  | none=>replace hx:=ht▸hx;exact mC (aM hx rfl rfl)
  | some v=>replace hx:=ht▸hx;exact nD (aM hx rfl rfl) (eV (bW e0 hx) rfl))
 refine h.trans ?_;unfold pV;exact gw (List.map_filterMap ..) rfl
theorem qE{d j:Nat}{kvs qs:Kv}{g:List Nat->Option Int}(hd:Z[d]?=some (.dict kvs))(hj:Z[j]?=some (.dict qs))(hz:kvs.length+qs.length<=50000)(hnd:(keysOf kvs).Nodup)(hv:Vd (aZ kvs qs) g)(hk:∀n∈keysOf (aZ kvs qs),n.length<=12)(h:List Nat):
  ∃l' Z',evF ns C cN [.ref d,.ref j,.str h] Z=.ok (.ref l') Z'/\Gr Z Z'/\Z'[l']?=some (.list (pV (und g h (jE dK (keysOf (aZ kvs qs)))))):=by
 refine cps λG' K=>?_;have hP:=za (mE qs kvs) hz;have hjl:j<Z.length:=(zc.mp hj).1;have hPn:=uI qs kvs hnd;have A:aH ns C [rF d,rF j,rS h,.none,.none] Z (.a 3 (.bi .dict (.v 0))::.expr (.me (.v 3) .update [(.v 1)])::cN.body.drop 2)=aH ns C [rF d,rF j,rS h,rF Z.length,.none] (Z++[.dict (aZ kvs qs)]) (cN.body.drop 2):=
  aA (bD rfl (aHb hd (lm (za (zt _ _) hz)))) rfl (b5 (fZ rfl (kD (aE Z _) rfl) rfl ((aGh (aE Z _) ((Gr.app Z _).at hj) (yq hjl) hz).trans (gw (n5 ..) rfl))) rfl)
 generalize aZ kvs qs=P at *;let Z1:=Z++[.dict P];let ks:=jE dK (keysOf P);let Z2:=Z1++[.list (ks.map V.str)];have hkp:(keysOf P).length<=50000:=by unfold keysOf;exact gw (zb ..) hP
 have hks:ks.length<=50000:=by show (jE dK (keysOf P)).length<=50000;exact gw (l9 ..) hkp
 have hmem:∀n∈ks,n∈keysOf P:=λn q=>(List.mergeSort_perm (keysOf P) _).mem_iff.mp q;obtain ⟨Z',hg,rfl⟩:=cG (f:=fIf ns C [rF d,rF j,rS h,rF Z.length,.none] (.v 5) (.g .eq (.slice (.v 5) .nil (.bi .len (.v 2))) (.v 2))) (it:=λi=>.list Z1.length i) (·=Z2) ks V.str (λn=>if pre h n then rS n else .none) (lm hks) rfl (λi Z' e=>dQ (e▸aE Z1 _) i) (λn hn Z' e=>by
  have hl:=hk _ (hmem _ hn);have hc:Ev ns C ([rF d,rF j,rS h,rF Z.length,.none]++[rS n]) (.g .eq (.slice (.v 5) .nil (.bi .len (.v 2))) (.v 2)) Z' (.bool (pre h n)) Z':=
   (aM (cJ rfl rfl (bD rfl rfl) (slS (lo:=.none) (hi:=some h.length) rfl rfl (za hl (by decide)))) rfl (eqS _ _)).trans (gw (xX ..) rfl)
  refine ⟨Z',?_,e⟩;cases hp:pre h n with
  | true=>exact nD (hp▸hc) rfl
  | false=>exact mC (hp▸hc))
 replace hg:=(show ks.filterMap (λn=>if pre h n then rS n else .none)=(ks.filter (pre h)).map V.str from hY ..)▸hg;let lo:=ks.filter (pre h);let Z3:=Z2++[.list (lo.map V.str)];have hD:Z3[Z.length]?=some (.dict P):=(Gr.app Z2 _).at ((Gr.app Z1 _).at (aE Z _));have hg2:=a6y (ns:=ns) (C:=C) (J:=[rF d,rF j,rS h,rF Z.length,rF Z2.length]) (v:=3) rfl hD hv (λn q=>hmem _ (jf.mp q).1) (aE Z2 (.list (lo.map V.str))) (za (jo _ _) hks) (by show 3<5;decide);have B:aH ns C [rF d,rF j,rS h,rF Z.length,.none] Z1 (cN.body.drop 2)=.ok (.ret (.ref Z3.length)) [rF d,rF j,rS h,rF Z.length,rF Z2.length] (Z3++[.list (pV (lo.filterMap (asP g)))]):=
  aA (eP (bN (bD rfl (aBb (ks:=keysOf P) (by unfold b9;dsimp only;rw [aE Z _,keysOf,vt];rfl) hkp hPn)) (aE Z1 _)) (gw (zb ..) hg)) rfl (aP (eP (bN rfl (aE Z2 _)) (gw (zb ..) hg2)))
 exact K ⟨Z3.length,_,aN (fn:=cN) (vs:=[.ref d,.ref j,.str h]) rfl (A.trans B),(((Gr.app Z _).tr (Gr.app Z1 _)).tr (Gr.app Z2 _)).tr (Gr.app Z3 _),(bw (a7b ..) (aE Z3 _))⟩
end
noncomputable def cnt(t:Nat)(l:List (Nat×Option Int)):Nat:=(l.filter λp=>decide (p.1<=t)).length
noncomputable def p7(t:Nat)(l:List (Nat×Option Int)):List (Nat×Option Int):=l.drop (cnt t l-1)
theorem aEh(t:Nat)(l:List (Nat×Option Int)):cnt t l<=l.length:=jo _ _
theorem cm1{c:Nat}(h:(0:Int)<(c:Int)-1):(c:Int)-1=((c-1:Nat):Int):=by
 cases c with
 | zero=>exact Ue h (by decide)
 | succ n=>exact je (n:Int) 1
theorem cm0{c:Nat}(h:¬(0:Int)<(c:Int)-1):c-1=0:=by
 cases c with
 | zero=>rfl
 | succ n=>
  cases n with
  | zero=>rfl
  | succ k=>exact Ue (wm (gi.mpr (jm k)) (Int.le_of_eq (je ((k+1:Nat):Int) 1).symm)) h
theorem a7d{α:Type}(xs:List α)(k:Nat)(h:k<=xs.length):cut xs (some (k:Int)) .none=xs.drop k:=by
 show (xs.drop (gB k xs.length)).take (xs.length-gB k xs.length)=_;have e:gB k xs.length=k:=by unfold gB;exact gw (Ua (zy k) ..) (gw (xa ..) (gw (yo h ..) rfl))
 rw [e,←ue,xb]
theorem a8p(k:Nat)(l:List (Nat×Option Int)):(hV l).drop k=hV (l.drop k):=zbo.symm
theorem a4m(f:List Nat->V)(x:List Nat)(v:V):∀{l:List (List Nat)},x∈l->l.Nodup->bP (l.map λy=>(y,f y)) x v=l.map λy=>(y,if y=x then v else f y):=by
 intro l
 induction l with
 | nil=>intro q;cases q
 | cons a l ih=>
  intro h hn;obtain ⟨h1,h2⟩:=wg.mp hn;show (if a=x then _ else _)=(a,if a=x then v else f a)::l.map _;by_cases e:a=x
  ·refine gw (Ua e ..) (gw (Ua e ..) ?_);congr 1;exact xz λy hy=>by rw [Ub λq=>h1 (by rw [e,←q];exact hy)]
  ·exact gw (Ub e ..) (gw (Ub e ..) (gw (ih ((ye.mp h).resolve_left λq=>e q.symm) h2) rfl))
theorem a1c(f:List Nat->V)(x:List Nat)(v:V){l:List (List Nat)}(h:l.Nodup):bP (l.map λy=>(y,f y)) x v=(cI l x).map λy=>(y,if y=x then v else f y):=by
 unfold cI;by_cases q:x∈l
 ·exact gw (Ua q) (a4m f x v q h)
 ·refine gw (Ub q) (gw (jT (gw (dZ f l) q)) (gw xc ?_));congr 1
  ·exact xz λy hy=>gw (Ub λe:y=x=>q (e▸hy)) rfl
  ·show _=[(x,if x=x then v else f x)];exact gw (Ua rfl) rfl
noncomputable def St.seth(S:St)(x:List Nat)(l:List (Nat×Option Int)):St:={ S with names:=cI S.names x,I:=λy=>if y=x then l else S.I y }
theorem jP(l:List (Nat×Option Int)):(hV l).length=l.length:=zb ..
section
variable{ns:List Int}{C:Calls}{J:Env}{Z Z':H}{G:Fz}{S:St}{P:Pl}{k:Nat}
theorem Iv.seth{κ:Kd}(I:Iv κ G S P Z)(hnd:S.names.Nodup)(x:List Nat)(l:List (Nat×Option Int)):Iv κ G (S.seth x l) (P.growH Z.length x) ((Z++[O.list (hV l)]).set (P.A (.b 1)) (.dict (bP (S.names.map λy=>(y,V.ref (P.A (.h y)))) x (.ref Z.length)))):=by
 refine I.growH (S':=S.seth x l) (x:=x) (Gr.app Z _) (by show 1<4;decide) (by intro q;cases q) ?_ (λc lc hc=>?_) ?_
 ·show _=some (O.list (hV (if x=x then l else S.I x)));exact gw (Ua rfl) (aE Z _)
 ·cases c with
  | b q=>exact ⟨lc,λq'=>below (motive:=λq=>Cell.b q≠Cell.b 1->oY κ (S.seth x l) (P.growH Z.length x) q=oY κ S P q) lc ⟨⟨⟨⟨trivial,λz=>rfl⟩,λq=>Ue rfl q⟩,λz=>rfl⟩,λz=>rfl⟩ q'⟩
  | h y=>
   have hy:y≠x:=λq=>hc (Uf Cell.h q);exact ⟨(fX.mp lc).resolve_right hy,λz=>Uf (λl=>O.list (hV l)) (Ub hy)⟩
  | d q q'=>exact ⟨lc,λz=>kR λz z z z=>rfl⟩
 ·refine Uf O.dict ((a1c _ x _ hnd).trans ?_);exact xz λy z=>by
   show _=(y,V.ref (if y=x then Z.length else P.A (.h y)));by_cases q:y=x
   ·exact gw (Ua q) (gw (Ua q) rfl)
   ·exact gw (Ub q) (gw (Ub q) rfl)
theorem uE(hm:C.U=aJ T0)(h41:oE C)(I:Inv G S P Z)(hh:∀x,x∉S.names->S.I x=[]){x:List Nat}(hx:Nm x)(hz:(S.I x).length<=50000):∃l Z',evF ns C eE [sh P,.str x] Z=.ok (.ref l) Z'/\Gr Z Z'/\Z'[l]?=some (.list (hV (S.I x)))/\Z.length<=l:=by obtain ⟨Z1,e1,g1⟩:=h41 (sh P) Z hx;have I1:=I.gr g1;obtain ⟨l,e2,hl⟩:=mV (ns:=ns) (C:=C) (J:=[some (sh P),rS x]) (i:=1) I1 hh rfl rfl;have g2:=g1.tr (Gr.app Z1 [.list []]);exact ⟨_,_,aN (fn:=eE) rfl (b5 (aV rfl (aY hm (I.b 0 (by decide)) rfl rfl) rfl e1) (aP (bD e2 (qJ hl (gw (jP ..) hz))))),g2.tr (Gr.app _ _),aE _ _,g2.length_le⟩
theorem a0p(I:Inv G S P Z):evF ns C fQ [sh P] Z=.ok (.int S.row.length) Z:=aN (fn:=fQ) rfl (aP (bD (aO rfl (jG I)) (eQ I)))
theorem a5b(hm:C.U=aJ T0)(h39:a6q C)(I:Inv G S P Z)(hk:k<S.n):evF ns C f7 [sh P,.int k] Z=.ok (.str (iL (S.d k).st)) Z:=aN (fn:=f7) rfl (aP (aO (aV rfl (aY hm (I.b 0 (by decide)) rfl rfl) rfl (h39 I hk)) (j6 I hk)))
theorem zY(hm:C.U=aJ T0)(h32:oE C)(h33:AtM C)(I:Inv G S P Z)(hh:∀x,x∉S.names->S.I x=[]){x:List Nat}(hx:Nm x):∃Z',evF ns C gF [sh P,.str x] Z=.ok (val (amv (S.I x) S.row.length)) Z'/\Gr Z Z':=by obtain ⟨Z1,e1,g1⟩:=h32 (sh P) Z hx;have I1:=I.gr g1;obtain ⟨Z2,e2,g2⟩:=h33 I1 hh (n:=x) (m:=S.row.length);exact ⟨Z2,aN (fn:=gF) rfl (b5 (aV rfl (aY hm (I.b 0 (by decide)) rfl rfl) rfl e1) (aP (aV rfl (aY hm (I1.b 0 (by decide)) rfl rfl) (bW rfl (bD (aO rfl (jG I1)) (eQ I1))) e2))),g1.tr g2⟩
theorem vW{e elt mo:E}{a t:Nat}{l:List (Nat×Option Int)}{Z1:H}(he:Ev ns C J e Z (.ref a) Z1)(ha:Z1[a]?=some (.list (hV l)))(hv:∀v Z,Ev ns C (J++[some v]) elt Z v Z)(hk:∀v,Ev ns C (J++[some v]) mo Z1 (.int (t:Int)) Z1)(hz:l.length<=50000):
  Ev ns C J (.J (.of e) elt (.g .le (.i elt (.k (V.int 0))) mo)) Z (.ref Z1.length) (Z1++[.list (hV (l.filter λp=>decide (p.1<=t)))]):=by
 obtain ⟨Z',h,rfl⟩:=cG (f:=fIf ns C J elt (.g .le (.i elt (.k (V.int 0))) mo)) (it:=λi=>.list a i) (·=Z1) l (λp=>.tup [.int p.1,val p.2]) (λp=>if decide (p.1<=t) then some (V.tup [.int p.1,val p.2]) else .none) (lm hz) rfl (λi Z' e=>dQ (e▸ha) i) λp z Z' e=>by
  subst e;have hc:Ev ns C (J++[some (.tup [.int p.1,val p.2])]) (.g .le (.i elt (.k (V.int 0))) mo) Z' (.bool (decide (p.1<=t))) Z':=(aM (aK (hv _ _) rfl rfl) (hk _) rfl).trans (by exact gw (vV ..) rfl);refine ⟨Z',?_,rfl⟩;cases h:decide (p.1<=t) with
  | true=>exact nD (h▸hc) (hv _ _)
  | false=>exact mC (h▸hc)
 replace h:=(show l.filterMap (λp:Nat×Option Int=>if decide (p.1<=t) then some (V.tup [.int p.1,val p.2]) else .none)=hV (l.filter λp=>decide (p.1<=t)) from hY ..)▸(jP l).symm▸h;exact eP (bN he ha) h
noncomputable def hsw(t:Nat)(S:St)(l:List (List Nat))(x:List Nat):List (Nat×Option Int):=if x∈l then p7 t (S.I x) else S.I x
theorem a6a{t:Nat}{S:St}{i:Nat}{x y:List Nat}(tk:S.names.take (i+1)=S.names.take i++[x])(q:y≠x):hsw t S (S.names.take (i+1)) y=hsw t S (S.names.take i) y:=by
 unfold hsw;refine gw tk ?_;have:y∈S.names.take i++[x]↔y∈S.names.take i:=iw (yh ..) (iw (ze ..) ⟨λw=>w.resolve_right q,.inl⟩);by_cases w:y∈S.names.take i
 ·exact gw (Ua w ..) (gw (Ua (this.mpr w) ..) rfl)
 ·exact gw (Ub w ..) (gw (Ub λz=>w (this.mp z)) rfl)
theorem vC{t i:Nat}{x:List Nat}(hx:x∈S.names)(hs:x∉S.names.take i)(tk:S.names.take (i+1)=S.names.take i++[x]):({ S with I:=hsw t S (S.names.take i) }:St).seth x (p7 t (S.I x))={ S with I:=hsw t S (S.names.take (i+1)) }:=by
 unfold St.seth;have e1:cI S.names x=S.names:=Ua hx;have e2:(λy=>if y=x then p7 t (S.I x) else hsw t S (S.names.take i) y)=hsw t S (S.names.take (i+1)):=funext λy=>by
  by_cases q:y=x
  ·subst q;exact gw (Ua rfl) ((Ua (gw tk (xx _ (ze.mpr rfl)))).symm)
  ·exact gw (Ub q) (a6a tk q).symm
 exact gw e1 (gw e2 rfl)
noncomputable def gon(t:Nat)(S:St)(l:List (List Nat)):Nat:=(l.map λx=>cnt t (S.I x)-1).sum
theorem uN{t i:Nat}{x:List Nat}(tk:S.names.take (i+1)=S.names.take i++[x]):gon t S (S.names.take (i+1))=gon t S (S.names.take i)+(cnt t (S.I x)-1):=by unfold gon;rw [tk,xc,List.sum_append];rfl
theorem aAr{t a:Nat}{l:List (Nat×Option Int)}{j:Nat}(hj:j=cnt t l-1)(ha:Z[a]?=some (.list (hV l)))(hz:l.length<=50000):gV ns (.ref a) (.int (j:Int)) .none Z=.ok (.ref Z.length) (Z++[.list (hV (p7 t l))]):=by have q:=slL (ns:=ns) (a:=.int (j:Int)) (b:=.none) (lo:=some (j:Int)) (hi:=.none) ha rfl rfl (gw (jP l) (za hz (by decide)));rw [a7d _ _ (by rw [jP,hj];exact za (vk _ _) (aEh _ _)),a8p,hj] at q;exact hj▸q
noncomputable abbrev swB:List Mine.Internal.S:=[.a 4 (.i (.attr (.v 0) Nk) (.v 3)),.a 5 (.o .sub (.bi .len (.J (.of (.v 4)) (.v 6) (.g .le (.i (.v 6) (.k (V.int 0))) (.v 1)))) (.k (V.int 1))),
  .x (.g .gt (.v 5) (.k (V.int 0))) [.T (.attr (.v 0) Nk) (.v 3) (.slice (.v 4) (.v 5) .nil),.a 2 (.o .add (.v 2) (.v 5))] []]
theorem w5(I:Inv G S P Z){lk:Nat}(hl:G lk=some (.list (S.names.map V.str)))(hnd:S.names.Nodup)(hs:∀x,(S.I x).length<=50000)(hz:S.names.length<=50000)(t:Nat):
  ∃Z' P' o3 o4 o5,forLoop (dH 3) (λJ Z=>aH ns C J Z swB) (S.names.map V.str).length (.list lk 0) [some (sh P),rI (t:Int),rI 0,.none,.none,.none] Z =
   .ok .next [some (sh P),rI (t:Int),rI (gon t S S.names:Nat),o3,o4,o5] Z'/\Inv G { S with I:=hsw t S S.names } P' Z'/\P.Eqd P':=by
 refine cps λG' K=>?_;obtain ⟨J',Z',hF,P',o3,o4,o5,rfl,I',e'⟩:=bR (tgt:=dH 3) (body:=λJ Z=>aH ns C J Z swB) (it:=λi=>.list lk i)
  (λi J' Z'=>∃(P':Pl) (o3 o4 o5:Option V),J'=[some (sh P),rI (t:Int),rI (gon t S (S.names.take i):Nat),o3,o4,o5]/\Inv G { S with I:=hsw t S (S.names.take i) } P' Z'/\P.Eqd P')
  (S.names.map V.str).length (λJ Z p=>by obtain ⟨_,_,_,_,_,I,_⟩:=p;exact bY (I.fz lk _ hl).1)
  (λi J' Z' hi p=>by
   refine cps λG' K=>?_;refine ex4 (p) λP' o3 o4 o5 q_h=>?_;refine an4 q_h λq_4 I' hb hd=>?_;obtain rfl:=q_4;have hi':i<S.names.length:=by replace hi:=(zb ..)▸hi;exact hi
   obtain ⟨x,hx⟩:∃x,x=S.names[i]:=⟨_,rfl⟩;have hxm:x∈S.names:=hx▸xj hi';have hxs:x∉S.names.take i:=λq=>by
    replace hnd:=(xf hi' ..)▸(yb i S.names ..)▸hnd;exact (wv.mp hnd).2.2 _ q _ zm hx
   have shP:sh P'=sh P:=Uf (V.inst 1) (hb 0);have st:eY (sh P) Nk Z'=.ok (.ref (P'.A (.b 1))) Z':=shP▸gW I';have tk:S.names.take (i+1)=S.names.take i++[x]:=gw hx (bM _ hi');have eh:hsw t S (S.names.take i) x=S.I x:=Ub hxs;have hp:Z'[P'.A (.h x)]?=some (.list (hV (S.I x))):=bw eh (I'.h hxm);have nx:aS (.list lk i) Z'=some (some (.str x,.list lk (i+1))):=bE (I'.fz lk _ hl).1 (by refine gw (yk ..) (gw (zg hi' ..) (gw hx ?_));rfl);generalize hg:gon t S (S.names.take i)=g at *;have a4:Ev ns C [some (sh P),rI (t:Int),rI (g:Int),rS x,o4,o5] (.i (.attr (.v 0) Nk) (.v 3)) Z' (.ref (P'.A (.h x))) Z':=
    aK (aO rfl st) rfl (nO (I'.b 1 (by decide)) (by rw [f6 λx=>V.ref (P'.A (.h x))];exact Ua hxm))
   have a5:=bB (op:=.sub) (b:=.k (V.int 1)) (bD (vW (ns:=ns) (C:=C) (J:=[some (sh P),rI (t:Int),rI (g:Int),rS x,rF (P'.A (.h x)),o5]) (e:=.v 4) (elt:=.v 6) (mo:=.v 1) rfl hp (λz z=>rfl) (λz=>rfl) (hs x)) ((nT (aE Z' _)).trans (gw (jP ..) rfl))) rfl rfl;have I1:=I'.gr (Gr.app Z' [.list (hV ((S.I x).filter λp=>decide (p.1<=t)))]);have c6:∀{Z:H},Ev ns C [some (sh P),rI (t:Int),rI (g:Int),rS x,rF (P'.A (.h x)),rI ((cnt t (S.I x):Nat)-1:Int)] (.g .gt (.v 5) (.k (V.int 0))) Z (.bool (decide ((0:Int)<(cnt t (S.I x):Nat)-1))) Z:=aM rfl rfl (nJ _ _);have gs:=uN (t:=t) tk;replace gs:=hg▸gs;replace K:=gs▸K;by_cases h:(0:Int)<(cnt t (S.I x):Nat)-1
   ·obtain ⟨j,hj⟩:∃j,j=cnt t (S.I x)-1:=⟨_,rfl⟩;have hji:((cnt t (S.I x):Nat):Int)-1=(j:Int):=hj▸cm1 h;replace a5:Ev ns C _ _ Z' (.int ((cnt t (S.I x):Nat)-1:Int)) _:=a5;rw [hji] at a5 c6 h;replace K:=hj▸K;generalize hσ1:Z'++[O.list (hV ((S.I x).filter λp=>decide (p.1<=t)))]=Z1 at a5 I1;have hp1:Z1[P'.A (.h x)]?=some (.list (hV (S.I x))):=hσ1▸(Gr.app Z' _).at hp;have I2:=I1.gr (Gr.app Z1 [.list (hV (p7 t (S.I x)))]);have st2:eY (sh P) Nk (Z1++[.list (hV (p7 t (S.I x)))])=.ok (.ref (P'.A (.b 1))) _:=shP▸gW I2;have I3:=I1.seth hnd x (p7 t (S.I x));replace I3:=(vC hxm hxs tk ..)▸I3;have hb1:oY shK { S with I:=hsw t S (S.names.take i) } P' 1=.dict (S.names.map λy=>(y,V.ref (P'.A (.h y)))):=rfl;refine K ⟨.str x,_,_,_,nx,rfl,aA a4 rfl (aA a5 rfl (bU (c6.trans (gw (Uc h ..) rfl)) (aB (iR (cJ rfl rfl rfl (aAr hj hp1 (hs x))) (aO rfl st2) rfl (setD (I2.b 1 (by decide)) (by rw [hb1] at *;exact lmx (f0 ..) (gw (zb ..) (za hz (by decide))))) (aA (bB rfl rfl rfl) rfl aI)) aI))),P'.growH Z1.length x,_,_,_,rfl,I3,hb,hd⟩
   ·have h0:cnt t (S.I x)-1=0:=cm0 h;have e1:hsw t S (S.names.take (i+1))=hsw t S (S.names.take i):=funext λy=>by
     by_cases q:y=x
     ·unfold hsw;refine gw tk (gw q (gw (Ua (xx _ (ze.mpr rfl)) ..) (gw (Ub hxs ..) ?_)));unfold p7;exact gw h0 rfl
     ·exact a6a tk q
    replace K:=h0▸e1▸K;exact K ⟨.str x,_,_,_,nx,rfl,aA a4 rfl (aA a5 rfl (aL (c6.trans (gw (Ud h ..) rfl)) aI)),P',_,_,_,rfl,I1,hb,hd⟩)
  (S.names.map V.str).length 0 [some (sh P),rI (t:Int),rI 0,.none,.none,.none] Z (zp _) ⟨P,.none,.none,.none,rfl,by
   have:hsw t S (S.names.take 0)=S.I:=funext λx=>Ub yl;exact gw (this ..) I,λz=>rfl,λz z=>rfl⟩
 rw [xu (by refine gw (zb ..) ?_;exact zf _)] at I' hF;exact K ⟨Z',P',o3,o4,o5,hF,I',e'⟩
noncomputable def opn(S:St):List Nat:=((zs S.n).filter λk=>decide ((S.d k).st=0)).map λk=>(S.d k).start
noncomputable def inz(l:List Nat):List Int:=l.map λn:Nat=>(n:Int)
noncomputable def sB(d:Nat):List Nat->Nat
 | []=>d
 | a::r=>r.foldl min a
noncomputable def lst(S:St):Nat:=sB S.row.length (opn S)
theorem rK(l:List Nat)(a:Nat):(inz l).foldl min (a:Int)=((l.foldl min a:Nat):Int):=by
 induction l generalizing a with
 | nil=>rfl
 | cons b l ih=>
  show (inz l).foldl min (min (a:Int) b)=_;rw [show min (a:Int) b=((min a b:Nat):Int) by rcases fo a b with h | h;rw [yo h,fw (xd.mpr h)];rw [vq h,gy (xd.mpr h)]];exact ih (min a b)
theorem nB(l:List Nat):jK (iV l)=some (inz l):=by
 induction l with
 | nil=>rfl
 | cons a l ih=>show (jK (iV l)).map _=_;exact gw ih rfl
theorem zG{a b:E}{x y v:V}{kk:Mm}{Z1 Z2 Z3:H}(h1:Ev ns C J a Z x Z1)(h2:Ev ns C J b Z1 y Z2)(h3:mmV kk x y Z2=.ok v Z3):Ev ns C J (.mm kk a b) Z v Z3:=bI h1 (bI h2 h3)
theorem aIi{l d:Nat}{ys:List Nat}(hl:Z[l]?=some (.list (iV ys))):mmV (.ml ()) (.ref l) (.int d) Z=.ok (.int (sB d ys:Nat)) Z:=by
 show onL l (λxs=>bF ((jK xs).map λis=>uV is (.int d))) Z=_;refine gw (fO hl ..) (gw (nB ..) ?_);cases ys with
 | nil=>rfl
 | cons a r=>show R.ok (V.int ((inz r).foldl min (a:Int))) Z=_;exact gw (rK ..) rfl
theorem a3g(I:Inv G S P Z)(hnd:S.names.Nodup)(hs:∀x,(S.I x).length<=50000)(hz:S.names.length<=50000)(hn:S.n<=50000):
  ∃P' Z',evF ns C dW [sh P] Z=.ok (.int (gon (lst S) S S.names:Nat)) Z'/\P.Eqd P'/\Inv G { S with I:=hsw (lst S) S S.names } P' Z':=by
 refine cps λG' K=>?_;obtain ⟨Z'',hg,e''⟩:=cG (f:=fIf ns C [some (sh P),.none,.none,.none,.none,.none] (.attr (.v 6) Na) (.g .eq (.attr (.v 6) Nn) (.k (V.str Ng)))) (it:=λi=>.list (P.A (.b 2)) i) (·=Z) (zs S.n) (λk=>dl P k) (λk=>if decide ((S.d k).st=0) then rI ((S.d k).start) else .none) (gw (we ..) (za hn (by decide))) rfl (λi Z' e=>dQ (e▸I.b 2 (by decide)) i) λk hk Z' e=>by
  subst e;have hk:=xw.mp hk;have hc:Ev ns C ([some (sh P),.none,.none,.none,.none,.none]++[some (dl P k)]) (.g .eq (.attr (.v 6) Nn) (.k (V.str Ng))) Z' (.bool (decide ((S.d k).st=0))) Z':=by
   exact bw (iM ..) (aM (aO rfl (j6 I hk)) rfl (eqS _ _))
  refine ⟨Z',?_,rfl⟩;cases w:decide ((S.d k).st=0) with
  | true=>exact nD (w▸hc) (aO rfl (kA I hk))
  | false=>exact mC (w▸hc)
 have ho:(zs S.n).filterMap (λk=>if decide ((S.d k).st=0) then rI ((S.d k).start) else .none)=iV (opn S):=by refine gw (hY (λk=>decide ((S.d k).st=0)) (λk=>V.int (S.d k).start) _) ?_;unfold iV opn;exact gw (vt ..) rfl
 obtain rfl:=e''.symm;replace hg:=(show (zs S.n).length=((zs S.n).map λk=>dl P k).length from (zb ..).symm)▸ho▸hg;have I1:=I.gr (Gr.app Z [.list (iV (opn S))]);generalize hσ1:Z++[O.list (iV (opn S))]=Z1 at I1;have a1:Ev ns C [some (sh P),.none,.none,.none,.none,.none] (.mm (.ml ()) (.J (.of (.attr (.v 0) Nc)) (.attr (.v 6) Na) (.g .eq (.attr (.v 6) Nn) (.k (V.str Ng)))) (.bi .len (.attr (.v 0) [114,111,119]))) Z (.int (lst S:Nat)) Z1:=by
  have q:=eP (bN (aO (J:=[some (sh P),.none,.none,.none,.none,.none]) (a:=.v 0) rfl (fC I)) (I.b 2 (by decide))) hg;replace q:=hσ1▸q;refine zG q (bD (aO rfl (jG I1)) (eQ I1)) (aIi (hσ1▸aE Z _))
 have I2:=I1.gr (Gr.app Z1 [.list (S.names.map V.str)]);have ls:biV ns .list (.ref (P.A (.b 1))) Z1=.ok (.ref Z1.length) (Z1++[.list (S.names.map V.str)]):=by
  have q:=pU (ns:=ns) (I1.b 1 (by decide)) (gw (zb ..) hz);rwa [dZ λx=>V.ref (P.A (.h x))] at q
 have fr:=I1.fr (zf Z1.length);have I3:=I2.mx;have hlk:mx S P (Z1++[.list (S.names.map V.str)]) Z1.length=some (.list (S.names.map V.str)):=by
  unfold mx;exact gw (Ub λq=>by obtain ⟨c,l,e⟩:=q;exact fr.ne c l e) (aE Z1 _)
 refine ex5 (w5 (ns:=ns) (C:=C) I3 hlk hnd hs hz (lst S)) λZ' P' o3 o4 o5 q_h=>?_;refine an3 q_h λhF I' e'=>?_;exact K ⟨P',Z',aN (fn:=dW) (vs:=[sh P]) rfl (aA a1 rfl (aA rfl rfl (bT (bN (bD (aO rfl (gW I1)) ls) (aE Z1 _)) (aB hF (aP rfl))))),e',I2.un I'⟩
end
noncomputable abbrev Lv(xs:List (List Nat)):Fz->St->Pl->H->Prop:=Iv (lwK xs)
noncomputable abbrev ld(Q:Pl)(k:Nat):V:=.ref (Q.A (.d 0 k))
theorem a8o(n:List Nat):∀l:List (List Nat),dL (.str n) (nV l)=some (decide (n∈l)):=by
 intro l
 induction l with
 | nil=>rfl
 | cons a l ih=>
  show (match some (decide (a=n)),dL (.str n) (nV l) with | some p,some q=>some (p || q) | _,_=>.none)=_;refine gw ih ?_;show some (decide (a=n) || decide (n∈l))=_;congr 1;exact iw (uh ..) (gw (fi ..) (gw (decide_eq_true_eq ..) (gw (decide_eq_true_eq ..) (gw (decide_eq_true_eq ..) (iw (ye ..) ⟨λh=>h.imp Eq.symm id,λh=>h.imp Eq.symm id⟩)))))
theorem jV{α:Type}(p:α->Bool)(f:α->V)(l:List α):(!((l.filter p).map f).isEmpty)=l.any p:=by
 induction l with
 | nil=>rfl
 | cons a l ih=>
  refine gw (zav ..) (gw (jc ..) ?_);cases p a with
  | true=>rfl
  | false=>exact ih
section
variable{ns:List Int}{C:Calls}{J:Env}{Z Z' Z1 Z2:H}{F:Fz}{L:St}{Q:Pl}{k:Nat}{xs:List (List Nat)}
theorem nY(JJ:Lv xs F L Q Z)(hk:k<L.n):iB ns (ld Q k) (.str Na) Z=.ok (.int (L.d k).start) Z:=nO (JJ.d 0 (by decide) hk) rfl
theorem pD(JJ:Lv xs F L Q Z)(hk:k<L.n):iB ns (ld Q k) (.str Ni) Z=.ok (.str (iL (L.d k).st)) Z:=nO (JJ.d 0 (by decide) hk) rfl
theorem gZ(JJ:Lv xs F L Q Z)(hk:k<L.n):iB ns (ld Q k) (.str Nf) Z=.ok (.ref (Q.A (.d 1 k))) Z:=nO (JJ.d 0 (by decide) hk) rfl
theorem xT(JJ:Lv xs F L Q Z)(hk:k<L.n):iB ns (ld Q k) (.str Ny) Z=.ok (.ref (Q.A (.d 3 k))) Z:=nO (JJ.d 0 (by decide) hk) rfl
theorem yR(JJ:Lv xs F L Q Z)(hk:k<L.n):iB ns (ld Q k) (.str Np) Z=.ok (.ref (Q.A (.d 4 k))) Z:=nO (JJ.d 0 (by decide) hk) rfl
theorem zJ(JJ:Lv xs F L Q Z)(hk:k<L.n):iB ns (ld Q k) (.str Nt) Z=.ok (.int (L.d k).kat) Z:=nO (JJ.d 0 (by decide) hk) rfl
theorem xB(JJ:Lv xs F L Q Z)(hk:k<L.n):iB ns (ld Q k) (.str Nv) Z=.ok (.ref (Q.A (.d 2 k))) Z:=nO (JJ.d 0 (by decide) hk) rfl
theorem inS{l:Nat}{n:List Nat}{ks:List (List Nat)}(hl:Z[l]?=some (.list (nV ks))):eA .N (.str n) (.ref l) Z=.ok (.bool (decide (n∈ks))) Z:=by show (match Z[l]? with | some (.list xs)=>bF ((dL (.str n) xs).map (yes false)) Z | some (.dict kvs)=>onS (.str n) (λx=>M.ret (yes false (aW kvs x).isSome)) Z | _=>R.stuck)=_;refine gw hl ?_;show bF ((dL (.str n) (nV ks)).map (yes false)) Z=_;exact gw (a8o n ks) rfl
theorem sP(xs:List V):leq xs []=some xs.isEmpty:=by
 unfold leq;cases xs with
 | nil=>exact gw (Ua rfl ..) (gw (Ua ⟨rfl,rfl⟩ ..) rfl)
 | cons a l=>exact Ub (λq=>by cases q)
theorem eqL{a b:Nat}{xs ys:List V}{neg r:Bool}(ha:Z[a]?=some (.list xs))(hb:Z[b]?=some (.list ys))(h:leq xs ys=some r):eqM (.ref a) (.ref b) neg Z=.ok (yes neg r) Z:=by show onL a (λxs=>onL b λys=>bF ((leq xs ys).map (yes neg))) Z=_;exact gw (fO ha) (gw (fO hb) (gw h rfl))
theorem mI{e:E}{a:Nat}{xs:List V}(he:Ev ns C J e Z (.ref a) Z1)(ha:Z1[a]?=some (.list xs)):Ev ns C J (.g .ne e (.list [])) Z (.bool (!xs.isEmpty)) (Z1++[.list []]):=
 aM he (bV rfl (yj _)) (eqL ((Gr.app Z1 _).at ha) (aE Z1 _) (sP xs))
theorem z9(JJ:Lv xs F L Q Z)(hk:k<L.n)(hz:(L.d k).O.length<=50000){n:List Nat}(hn:n.length<=12):∃Z',evF ns C jD [ld Q k,.str n] Z=.ok (.bool (looks (L.d k) n)) Z'/\Gr Z Z':=by
 have e1:Ev ns C [some (ld Q k),rS n] (.g .N (.v 1) (.i (.v 0) (.k (V.str Ny)))) Z (.bool (decide (n∈(L.d k).seen))) Z:=aM rfl (aK rfl rfl (xT JJ hk)) (inS (JJ.d 3 (by decide) hk));unfold looks;cases hb:decide (n∈(L.d k).seen) with
 | true=>exact ⟨Z,aN (fn:=jD) rfl (aP (orT (hb▸e1))),Gr.rfl⟩
 | false=>
  have hh:Z[Q.A (.d 4 k)]?=some (.list ((L.d k).O.map V.str)):=JJ.d 4 (by decide) hk;obtain ⟨Z',h,rfl⟩:=cG (f:=fIf ns C [some (ld Q k),rS n] (.v 2) (.g .eq (.slice (.v 1) .nil (.bi .len (.v 2))) (.v 2))) (it:=λi=>.list (Q.A (.d 4 k)) i) (·=Z) (L.d k).O V.str (λh=>if pre h n then rS h else .none) (lm hz) rfl (λi Z' e=>dQ (e▸hh) i) λh z Z' e=>by
   have hc:Ev ns C ([some (ld Q k),rS n]++[rS h]) (.g .eq (.slice (.v 1) .nil (.bi .len (.v 2))) (.v 2)) Z' (.bool (pre h n)) Z':=(aM (cJ rfl rfl (bD rfl rfl) (slS (lo:=.none) (hi:=some h.length) rfl rfl (za hn (by decide)))) rfl (eqS _ _)).trans (gw (xX ..) rfl);refine ⟨Z',?_,e⟩;cases hp:pre h n with
   | true=>exact nD (hp▸hc) rfl
   | false=>exact mC (hp▸hc)
  replace h:=(hY (λh=>pre h n) V.str (L.d k).O)▸(show ((L.d k).O.map V.str).length=(L.d k).O.length from zb ..).symm▸h;have e2:=mI (ns:=ns) (C:=C) (J:=[some (ld Q k),rS n]) (e:=.J (.of (.i (.v 0) (.k (V.str Np)))) (.v 2) (.g .eq (.slice (.v 1) .nil (.bi .len (.v 2))) (.v 2))) (eP (bN (aK rfl rfl (yR JJ hk)) hh) h) (aE Z' _);replace e2:=jV (λh=>pre h n) V.str (L.d k).O▸e2;exact ⟨_,aN (fn:=jD) rfl (aP (orF (hb▸e1) (or1 e2))),(Gr.app Z' _).tr (Gr.app _ _)⟩
theorem xZ{l:Nat}{kvs:Kv}(h:Z[l]?=some (.dict kvs))(g:Gr (Z.set l (.fro kvs)) Z'):Gr Z (Z'.set l (.dict kvs)):=by obtain ⟨τ,rfl⟩:=g;have hl:=(zc.mp h).1;rw [zbd _ _ (by rw [jg];exact hl),List.set_set];refine gw (show Z.set l (.dict kvs)=Z from by rw [←(zc.mp h).2];exact List.set_getElem_self hl) ?_;exact Gr.app Z τ
theorem tL{l:Nat}{kvs:Kv}(h:Z[l]?=some (.fro kvs)):jL Z l=Z.set l (.dict kvs):=by unfold jL;exact gw h rfl
theorem yL{e elt cond:E}{l:Nat}{kvs:Kv}(f:List Nat->Bool)(he:Ev ns C J e Z (.ref l) Z1)(hl:Z1[l]?=some (.dict kvs))(hz:kvs.length<=50000)(hv:∀v Z,Ev ns C (J++[some v]) elt Z v Z)(hc:∀x∈keysOf kvs,∀Z',Gr (Z1.set l (.fro kvs)) Z'->∃Z'',Ev ns C (J++[rS x]) cond Z' (.bool (f x)) Z''/\Gr Z' Z''):
  ∃a Z',Ev ns C J (.J (.keys e) elt cond) Z (.ref a) Z'/\Gr Z1 Z'/\Z'[a]?=some (.list (((keysOf kvs).filter f).map V.str)):=by
 obtain ⟨Z',h,g⟩:=cG (f:=fIf ns C J elt cond) (it:=λi=>.keys l kvs i) (Gr (Z1.set l (.fro kvs))) kvs (λp=>V.str p.1) (λp=>if f p.1 then rS p.1 else .none) (lm hz) Gr.rfl (λz z z=>rfl) λp hp Z' g=>by
  obtain ⟨Z'',e,g'⟩:=hc p.1 (vu.mpr ⟨p,hp,rfl⟩) Z' g;refine ⟨Z'',?_,g.tr g'⟩;cases hb:f p.1 with
  | true=>exact nD (hb▸e) (hv _ _)
  | false=>exact mC (hb▸e)
 replace h:=(hY (λp:List Nat×V=>f p.1) (λp=>V.str p.1) kvs)▸h;have hs:cX ns C J (.keys e) Z=.ok (.keys l kvs 0,kvs.length) (Z1.set l (.fro kvs)):=bI he (by show onW l (λkvs=>λZ=>R.ok (It.keys l kvs 0,kvs.length) (Z.set l (.fro kvs))) Z1=_;exact gw (mQ hl) rfl);have tq:thaw (.keys l kvs 0) Z'=Z'.set l (.dict kvs):=tL (g.at (eZ hl _));refine ⟨_,_,eP hs h,tq.symm▸(xZ hl g).tr (Gr.app _ _),(aE _ _).trans ?_⟩;congr 2;unfold keysOf;exact gw (List.filter_map ..) (gw (vt ..) rfl)
end
theorem xG(l:List (Nat×Option Int))(m:Nat):amv l m=(l.filter λp=>decide (p.1<=m)).foldl (λz p=>p.2) .none:=by
 unfold amv;refine gw (List.foldl_filter ..) ?_;congr 1;funext a p;by_cases h:p.1<=m
 ·exact gw (Ua h ..) (gw (Ua (Uc h) ..) rfl)
 ·exact gw (Ub h ..) (gw (Ub (λq=>h (of_decide_eq_true q))) rfl)
theorem zQ:∀(ps d:Kv),(keysOf (d++ps)).Nodup->aZ d ps=d++ps:=by
 intro ps
 induction ps with
 | nil=>exact λd z=>(yw d).symm
 | cons p r ih=>
  intro d h;have e:d++p::r=d++[p]++r:=gw (zh ..) rfl;have hp:p.1∉keysOf d:=λq=>by
   unfold keysOf at h q;replace h:=(xc ..)▸h;exact (wv.mp h).2.2 _ q _ zm rfl
  show aZ (bP d p.1 p.2) r=_;exact gw (jT hp ..) (gw e (ih (d++[p]) (e▸h)))
section
variable{ns:List Int}{C:Calls}{J:Env}{Z Z' Z1 Z2:H}{F:Fz}{L:St}{Q:Pl}{k:Nat}{xs:List (List Nat)}
theorem a9d{l:Nat}{xs:List V}{v:V}(hl:Z[l]?=some (.list (xs++[v]))):iB ns (.ref l) (.int (-1)) Z=.ok v Z:=by
 show onL l (λxs=>bF ((iA (-1) xs.length).bind (xs[·]?))) Z=_;refine gw (fO hl) ?_;have e:iA (-1) (xs++[v]).length=some xs.length:=by
  refine gw (bH ..) ?_;have h:(-1:Int)+((xs.length+1:Nat):Int)=(xs.length:Nat):=gw (Int.add_comm ..) (je (xs.length:Int) 1);unfold iA;exact gw (Ub (by decide) ..) (gw h (gw (Ua (zy _) ..) (gw (xa ..) rfl)))
 refine gw e ?_;show bF ((xs++[v])[xs.length]?) Z=_;refine gw (zv (zf _) ..) (gw (vz ..) ?_);rfl
theorem a0n{a m:Nat}{l:List (Nat×Option Int)}(ha:Z[a]?=some (.list (hV l)))(hz:l.length<=50000):∃Z',evF ns C jJ [.ref a,.int m] Z=.ok (val (amv l m)) Z'/\Gr Z Z':=by
 have e1:=vW (ns:=ns) (C:=C) (J:=[rF a,rI m,.none]) (e:=.v 0) (elt:=.v 3) (mo:=.v 1) (Z:=Z) rfl ha (λz z=>rfl) (λz=>rfl) hz;refine gw (xG ..) ?_;generalize (l.filter λp=>decide (p.1<=m))=fl at e1 ⊢;let Z1:=Z++[O.list (hV fl)];have g:Gr Z (Z1++[.list []]):=(Gr.app Z _).tr (Gr.app Z1 _);have e2:Ev ns C [rF a,rI m,rF Z.length] (.g .eq (.v 2) (.list [])) Z1 (.bool (hV fl).isEmpty) (Z1++[.list []]):=aM rfl (bV rfl (yj _)) (eqL ((Gr.app Z1 _).at (aE Z _)) (aE Z1 _) (sP _));rcases List.eq_nil_or_concat fl with rfl | ⟨fl',p,e⟩
 ·exact ⟨_,aN (fn:=jJ) rfl (aA e1 rfl (bU e2 (aU (aP rfl)))),g⟩
 ·replace e:=(List.concat_eq_append ..)▸e;subst e;refine gw (vw ..) ?_;have hc:hV (fl'++[p])=hV fl'++[.tup [.int p.1,val p.2]]:=xc;have he:(hV (fl'++[p])).isEmpty=false:=by refine gw hc ?_;cases hV fl' <;> rfl
  replace e2:=he▸e2;exact ⟨_,aN (fn:=jJ) rfl (aA e1 rfl (aL e2 (aP (aK (aK rfl rfl (a9d (xs:=hV fl') (v:=.tup [.int p.1,val p.2]) ((Gr.app Z1 _).at ((aE Z _).trans (gw hc rfl))))) rfl rfl)))),g⟩
noncomputable abbrev wN(C:Calls):Prop:=∀{Z:H}{a m:Nat}{l:List (Nat×Option Int)},Z[a]?=some (.list (hV l))->l.length<=50000->∃Z',C.call 22 [.ref a,.int m] Z=.ok (val (amv l m)) Z'/\Gr Z Z'
noncomputable abbrev nF(C:Calls):Prop:=∀{Z:H}{l:Nat}{ws:Ws},Z[l]?=some (.list (wV ws))->ws.length<=50000->C.call 20 [.ref l] Z=.ok (.ref Z.length) (Z++[.dict (put [] ws)])
noncomputable def sv(L:St)(k:Nat):Kv:=L.names.map λx=>(x,val (amv (L.I x) (L.d k).start))
theorem zP(f:List Nat->V):∀l:List (List Nat),fU (l.map λx=>.tup [.str x,f x])=some (l.map λx=>(x,f x)):=by
 intro l
 induction l with
 | nil=>rfl
 | cons a l ih=>show (fU _).map _=_;exact gw ih rfl
theorem a9h(h20:nF C)(h22:wN C)(JJ:Lv xs F L Q Z)(hk:k<L.n)(hnd:L.names.Nodup)(hz:L.names.length+(L.d k).ws.length<=50000)(hs:∀x,(L.I x).length<=50000):
  ∃a Z',evF ns C oR [ld Q k,.ref (Q.A (.b 1))] Z=.ok (.ref a) Z'/\Gr Z Z'/\Z'[a]?=some (.dict (aZ (sv L k) (put [] (L.d k).ws)))/\Z.length<=a:=by
 refine cps λG K=>?_;have hz1:L.names.length<=50000:=za (zt _ _) hz;have hzw:(L.d k).ws.length<=50000:=za (kf _ _) hz;let r:=Q.A (.b 1);let kvs:Kv:=L.names.map λx=>(x,.ref (Q.A (.h x)));have hr:Z[r]?=some (.dict kvs):=JJ.b 1 (by decide);have hrl:dU L (.b 1):=(by decide:1<4);have off:∀c,dU L c->c≠.b 1->∀{o},Z[Q.A c]?=some o->(Z.set r (.fro kvs))[Q.A c]?=some o:=λc lc q z e=>cA _ (JJ.ne lc hrl q) e;obtain ⟨Z',h,g⟩:=cG (f:=vN ns C [some (ld Q k),rF r,.none] (.tup [(.v 3),(.call 22 [(.i (.v 1) (.v 3)),(.i (.v 0) (.k (V.str Na)))])])) (it:=λi=>.keys r kvs i) (Gr (Z.set r (.fro kvs))) kvs (λp=>V.str p.1) (λp=>some (V.tup [.str p.1,val (amv (L.I p.1) (L.d k).start)])) (gw (zb ..) (lm hz1)) Gr.rfl (λz z z=>rfl) λp hp Z' g=>by
  obtain ⟨x,hx,rfl⟩:=vu.mp hp;obtain ⟨Z'',e,g'⟩:=h22 (m:=(L.d k).start) (g.at (off (.h x) hx (by intro q;cases q) (JJ.h hx))) (hs x);have hf:Z'[r]?=some (.fro kvs):=g.at (eZ hr _);have i1:iB ns (.ref r) (.str x) Z'=.ok (.ref (Q.A (.h x))) Z':=by
   show onD r (λkvs=>bF (aW kvs x)) Z'=_;unfold onD dictAt;refine gw hf ?_;show bF (aW kvs x) Z'=_;exact gw (f6 (λx=>V.ref (Q.A (.h x))) x L.names) (gw (Ua hx) rfl)
  have i2:iB ns (ld Q k) (.str Na) Z'=.ok (.int (L.d k).start) Z':=nO (kvs:=lwE (L.d k).start (L.d k).st (L.d k).kat (Q.A (.d 1 k)) (Q.A (.d 2 k)) (Q.A (.d 3 k)) (Q.A (.d 4 k))) (g.at (off (.d 0 k) ⟨by decide,hk⟩ (by intro q;cases q) (JJ.d 0 (by decide) hk))) rfl;exact ⟨Z'',kO (eV (bW rfl (aG (bW (aK rfl rfl i1) (aK rfl rfl i2)) e)) rfl),g.tr g'⟩
 have hc:kvs.filterMap (λp=>some (V.tup [.str p.1,val (amv (L.I p.1) (L.d k).start)]))=L.names.map λx=>.tup [.str x,val (amv (L.I x) (L.d k).start)]:=by
  refine (congrFun uu kvs).trans ?_;show (L.names.map _).map _=_;exact gw (vt ..) rfl
 replace h:=hc▸h;have hsr:cX ns C [some (ld Q k),rF r,.none] (.keys (.v 1)) Z=.ok (.keys r kvs 0,kvs.length) (Z.set r (.fro kvs)):=by
  show onW r (λkvs=>λZ=>R.ok (It.keys r kvs 0,kvs.length) (Z.set r (.fro kvs))) Z=_;exact gw (mQ hr) rfl
 have e1:=mL hsr h;replace e1:=(show thaw (.keys r kvs 0) Z'=Z'.set r (.dict kvs) from tL (g.at (eZ hr _)))▸e1;have g1:Gr Z (Z'.set r (.dict kvs)):=xZ hr g;replace e1:Ev ns C [some (ld Q k),rF r,.none] (.comp (.keys (.v 1)) (.tup [(.v 3),(.call 22 [(.i (.v 1) (.v 3)),(.i (.v 0) (.k (V.str Na)))])])) Z (.ref (Z'.set r (.dict kvs)).length) (Z'.set r (.dict kvs)++[.list (L.names.map λx=>.tup [.str x,val (amv (L.I x) (L.d k).start)])]):=e1;generalize Z'.set r (.dict kvs)=Z1 at e1 g1;have hsv:aZ [] (sv L k)=sv L k:=zQ (sv L k) [] (by show (keysOf (sv L k)).Nodup;unfold sv;exact gw (dZ ..) hnd);let Z2:=Z1++[O.list (L.names.map λx=>.tup [.str x,val (amv (L.I x) (L.d k).start)])];have svl:(sv L k).length=L.names.length:=zb ..;have e2:biV ns .dict (.ref Z1.length) Z2=.ok (.ref Z2.length) (Z2++[.dict (sv L k)]):=by
  show (match Z2[Z1.length]? with | some (.dict kvs)=>i6 kvs Z2 | some (.list xs)=>(bF (fU xs)).bnd (λps=>i6 (aZ [] ps)) Z2 | _=>.stuck)=_;refine gw (aE Z1 _) ?_;show (bF (fU (L.names.map λx=>.tup [.str x,val (amv (L.I x) (L.d k).start)]))).bnd (λps=>i6 (aZ [] ps)) Z2=_;refine gw (zP _ _) ?_;show i6 (aZ [] (sv L k)) Z2=_;refine gw hsv ?_;unfold i6;exact gw (Ua (svl▸lm hz1)) rfl
 let Z3:=Z2++[O.dict (sv L k)];have g3:Gr Z Z3:=g1.tr ((Gr.app Z1 _).tr (Gr.app Z2 _));have JJ3:=JJ.gr g3;have e3:=h20 (JJ3.d 1 (by decide) hk) hzw;let Z4:=Z3++[O.dict (put [] (L.d k).ws)];have pl:(put [] (L.d k).ws).length<=(L.d k).ws.length:=za (iE _ []) (zu (zp _));have hd:Z4[Z2.length]?=some (.dict (sv L k)):=(Gr.app Z3 _).at (aE Z2 _);have l3:Z3.length=Z2.length+1:=bH _ _;have e4:=aGh (l:=Z2.length) (j:=Z3.length) hd (aE Z3 (.dict (put [] (L.d k).ws))) (gw l3 (uo _)) (za (yy (zu svl) pl) hz);have g12:Gr Z Z2:=g1.tr (Gr.app Z1 _);refine K ⟨Z2.length,_,aN (fn:=oR) rfl (aA (bD e1 e2) rfl (b5 (fZ rfl (kD (aE Z2 _) rfl) (a9 (aG (a9 (aK rfl rfl (gZ JJ3 hk))) e3)) e4) (aP rfl))),?_,eZ hd _,g12.length_le⟩;show Gr Z ((Z2++[_]++[_]).set Z2.length _);exact gw (tK ..) (g12.tr ((Gr.app Z2 _).tr (Gr.app _ _)))
end
section
variable{ns:List Int}{C:Calls}{J J':Env}{Z Z' Z1 Z2:H}{F:Fz}{L:St}{Q:Pl}{k:Nat}{xs:List (List Nat)}{r:List S}{Res:RS}
theorem lA{c e:E}{j:Nat}{b:Bool}{v:V}(hc:Ev ns C J c Z (.bool b) Z1)(he:Ev ns C J e Z1 v Z1)(hk:Nat.blt j J.length=true)(hρ:J'=if b then J.set j (some v) else J)(h:aH ns C J' Z1 r=Res):aH ns C J Z (.x c [.a j e] []::r)=Res:=by
 subst hρ;cases b with
 | true=>exact bU hc (aB (aA he hk aI) h)
 | false=>exact aL hc h
noncomputable abbrev yP(C:Calls):Prop:=∀{xs:List (List Nat)}{F:Fz}{L:St}{Q:Pl}{Z:H}{k:Nat},Lv xs F L Q Z->k<L.n->(L.d k).O.length<=50000->∀{n:List Nat},n.length<=12->∃Z',C.call 24 [ld Q k,.str n] Z=.ok (.bool (looks (L.d k) n)) Z'/\Gr Z Z'
theorem wZ(ws:Ws)(n:List Nat):(aW (put [] ws) n).isSome=bX ws n:=by unfold bX;exact gw (xN n ws []) rfl
structure Sr(rs:List Nat)(f g:Nat->Bool)(i p q:Nat):Prop where
 lo:∀(j k:Nat),j<i->rs[j]?=some k->g k=true->p<=j
 A:p=rs.length∨∃k,rs[p]?=some k/\g k=true
 up:∀(j k:Nat),j<i->rs[j]?=some k->f k=true->j<q
 of:q=0∨∃j k,q=j+1/\rs[j]?=some k/\f k=true
theorem Sr.next{rs:List Nat}{f g:Nat->Bool}{i p q:Nat}(h:Sr rs f g i p q)(hi:i<rs.length):Sr rs f g (i+1) (if g rs[i] then min p i else p) (if f rs[i] then i+1 else q):=by
 have e:=zg hi;refine ⟨λj k hj ej hg=>?_,?_,λj k hj ej hf=>?_,?_⟩
 ·rcases jd (yz hj) with w | w
  ·refine za ?_ (h.lo j k w ej hg);refine ic ite_ (λz=>?_) λz=>?_
   ·exact fq _ _
   ·exact zf _
  ·subst w;replace ej:=e▸ej;cases ej;exact gw (Ua hg ..) (ju _ _)
 ·cases hb:g rs[i] with
  | false=>exact h.A
  | true=>
   show min p i=_∨∃k,rs[min p i]?=_/\_;rcases fo p i with w | w
   ·exact (yo w).symm▸h.A
   ·exact (vq w).symm▸.inr ⟨_,e,hb⟩
 ·rcases jd (yz hj) with w | w
  ·refine ic ite_ (λz=>?_) λz=>?_
   ·exact xk w
   ·exact h.up j k w ej hf
  ·subst w;replace ej:=e▸ej;cases ej;exact gw (Ua hf ..) (yv _)
 ·cases hb:f rs[i] with
  | false=>exact h.of
  | true=>exact .inr ⟨i,_,rfl,e,hb⟩
theorem Sr.plc{rs:List Nat}{f g:Nat->Bool}{p q:Nat}(h:Sr rs f g rs.length p q):Plc rs f g (if p<q then .none else .int p):=by
 refine ⟨p,⟨λj k hj e=>?_,h.A⟩,?_⟩
 ·cases hg:g k with
  | false=>rfl
  | true=>exact Ue (h.lo j k (zc.mp e).1 e hg) (Nat.not_le.mpr hj)
 ·by_cases w:p<q
  ·refine gw (Ua w ..) ?_;refine .inl ⟨rfl,?_⟩;rcases h.of with rfl | ⟨j,k,rfl,e,hf⟩
   ·exact Ue w (xi _)
   ·exact ⟨j,k,yz w,e,hf⟩
  ·exact gw (Ub w ..) (.inr ⟨rfl,λq=>by obtain ⟨i,k,hi,e,hf⟩:=q;exact w (yt hi (h.up i k (zc.mp e).1 e hf))⟩)
theorem aGy{α:Type}(a b c:Bool)(x y:α):(if c then x else if a&&b then x else y)=if c || (b&&a) then x else y:=by cases a <;> cases b <;> cases c <;> rfl
theorem zW(h20:nF C)(h24:yP C)(JJ:Lv xs F L Q Z)(hk:k<L.n)(hrow:∀j∈L.row,j<L.n)(hz:L.row.length<=50000)(hd:∀j,j<L.n->(L.d j).ws.length<=50000/\(L.d j).O.length<=50000/\∀n∈kys (L.d j).ws,n.length<=12):
  ∃v Z',evF ns C gM [.ref (Q.A (.b 2)),.ref (Q.A (.b 3)),ld Q k] Z=.ok v Z'/\Gr Z Z'/\Plc L.row (λj=>mb (L.d j) (L.d k) (kys (L.d k).ws)) (λj=>bh (L.d j) (L.d k)) v:=by
 refine cps λG K=>?_;let D:=L.d k;let own:=put [] D.ws;let Z0:=Z++[O.dict own];have pl:∀{j},j<L.n->(put [] (L.d j).ws).length<=50000:=λh=>za (iE _ []) (za (zu (zp _)) (hd _ h).1);have e3:=h20 (JJ.d 1 (by decide) hk) (hd k hk).1;have JJ0:Lv xs F L Q Z0:=JJ.gr (Gr.app Z _);have fr:Fr F L Q Z.length:=JJ.fr (zf _);have lr:=eQ (ns:=ns) JJ0;have hsr:=cO (ns:=ns) (C:=C) (J:=[rF (Q.A (.b 2)),rF (Q.A (.b 3)),some (ld Q k),rF Z.length,rI L.row.length,rI 0,.none,.none,.none]) (e:=.bi .len (.v 1)) (k:=L.row.length) (bD rfl lr) (nz _) (ns_ (za hz (by decide)));replace hsr:=(xa ..)▸hsr;obtain ⟨J',Z',hF,⟨p,q,o6,o7,o8,rfl,ps⟩,g⟩:=bR (tgt:=dH 6) (body:=λJ Z=>aH ns C J Z [.a 7 (.i (.v 0) (.i (.v 1) (.v 6))),
  .a 8 (.J (.keys (.call 20 [(.i (.v 7) (.k (V.str Nf)))])) (.v 9) (.call 24 [(.v 2),(.v 9)])),
  .x (.and [(.g .ne (.v 8) (.list [])),(.g .gt (.i (.v 7) (.k (V.str Nt))) (.i (.v 2) (.k (V.str Na))))]) [.a 4 (.mm .mn (.v 4) (.v 6))] [],
  .x (.and [(.g .ne (.v 8) (.list [])),(.g .le (.i (.v 7) (.k (V.str Nt))) (.i (.v 2) (.k (V.str Na))))]) [.a 5 (.o .add (.v 6) (.k (V.int 1)))] [],
  .x (.g .ne (.J (.keys (.v 3)) (.v 9) (.or [(.g .N (.v 9) (.call 20 [(.i (.v 7) (.k (V.str Nf)))])),(.call 24 [(.v 7),(.v 9)])])) (.list [])) [.a 5 (.o .add (.v 6) (.k (V.int 1)))] []]) (it:=λi=>.range i L.row.length)
  (λi J Z'=>(∃(p q:Nat) (o6 o7 o8:Option V),J=[rF (Q.A (.b 2)),rF (Q.A (.b 3)),some (ld Q k),rF Z.length,rI p,rI q,o6,o7,o8]/\Sr L.row (λj=>mb (L.d j) D (kys D.ws)) (λj=>bh (L.d j) D) i p q)/\Gr Z0 Z') L.row.length (λy y y=>cH)
  (λi J Z' hi pp=>by
   refine cps λG K=>?_;obtain ⟨⟨p,q,o6,o7,o8,rfl,ps⟩,g⟩:=pp;let j:=L.row[i];have hj:j<L.n:=hrow _ (xj hi);have JJ1:=JJ0.gr g;have i7:∀{o7 o8:Option V},Ev ns C [rF (Q.A (.b 2)),rF (Q.A (.b 3)),some (ld Q k),rF Z.length,rI p,rI q,rI i,o7,o8] (.i (.v 0) (.i (.v 1) (.v 6))) Z' (ld Q j) Z':=aK rfl (aK rfl rfl (kZ (JJ1.b 3 (by decide)) (zy i) (yG hi))) (cD JJ1 hj);have e8:=h20 (JJ1.d 1 (by decide) hj) (hd j hj).1;let Z1:=Z'++[O.dict (put [] (L.d j).ws)];have f1:Fr F L Q Z'.length:=JJ1.fr (zf _);obtain ⟨a,Z2,c8,g2,h8⟩:=yL (ns:=ns) (C:=C) (J:=[rF (Q.A (.b 2)),rF (Q.A (.b 3)),some (ld Q k),rF Z.length,rI p,rI q,rI i,some (ld Q j),o8]) (e:=.call 20 [(.i (.v 7) (.k (V.str Nf)))]) (elt:=.v 9) (cond:=.call 24 [(.v 2),(.v 9)]) (looks D) (aG (a9 (aK rfl rfl (gZ JJ1 hj))) e8) (aE Z' _) (pl hj) (λy y=>rfl) λx hx Z3 g3=>by
    obtain ⟨Z4,e,g4⟩:=h24 (((JJ1.gr (Gr.app Z' _)).put f1 _).gr g3) hk (hd k hk).2.1 ((hd j hj).2.2 x hx);exact ⟨Z4,aG rfl e,g4⟩
   have JJ2:=(JJ1.gr (Gr.app Z' _)).gr g2;have w8:∀{e4 e5:Option V},Ev ns C [rF (Q.A (.b 2)),rF (Q.A (.b 3)),some (ld Q k),rF Z.length,e4,e5,rI i,some (ld Q j),rF a] (.g .ne (.v 8) (.list [])) Z2 (.bool (wl (L.d j).ws D)) (Z2++[.list []]):=(mI rfl h8).trans (gw (jV ..) rfl);have JJ3:=JJ2.gr (Gr.app Z2 [.list []]);have h8':=(Gr.app Z2 [O.list []]).at h8;let Z4:=Z2++[O.list []]++[O.list []];have JJ4:=JJ3.gr (Gr.app (Z2++[.list []]) [.list []]);have w9:∀{e4 e5:Option V},Ev ns C [rF (Q.A (.b 2)),rF (Q.A (.b 3)),some (ld Q k),rF Z.length,e4,e5,rI i,some (ld Q j),rF a] (.g .ne (.v 8) (.list [])) (Z2++[.list []]) (.bool (wl (L.d j).ws D)) Z4:=(mI rfl h8').trans (gw (jV ..) rfl);have c1:∀{e4 e5:Option V},Ev ns C [rF (Q.A (.b 2)),rF (Q.A (.b 3)),some (ld Q k),rF Z.length,e4,e5,rI i,some (ld Q j),rF a] (.and [(.g .ne (.v 8) (.list [])),(.g .gt (.i (.v 7) (.k (V.str Nt))) (.i (.v 2) (.k (V.str Na))))]) Z2 (.bool (bh (L.d j) D)) (Z2++[.list []]):=by
    unfold bh;intro e4 e5;have w:=w8 (e4:=e4) (e5:=e5);cases hw:wl (L.d j).ws D with
    | false=>exact (jU (hw▸w)).trans (gw (Bool.and_false ..) rfl)
    | true=>exact (hU (hw▸w) (jR ((aM (aK rfl rfl (zJ JJ3 hj)) (aK rfl rfl (nY JJ3 hk)) (nJ _ _)).trans (gw (pM ..) rfl)))).trans (gw (Bool.and_true ..) rfl)
   have c2:∀{e4 e5:Option V},Ev ns C [rF (Q.A (.b 2)),rF (Q.A (.b 3)),some (ld Q k),rF Z.length,e4,e5,rI i,some (ld Q j),rF a] (.and [(.g .ne (.v 8) (.list [])),(.g .le (.i (.v 7) (.k (V.str Nt))) (.i (.v 2) (.k (V.str Na))))]) (Z2++[.list []]) (.bool (wl (L.d j).ws D&&decide ((L.d j).kat<=D.start))) Z4:=by
    intro e4 e5;have w:=w9 (e4:=e4) (e5:=e5);cases hw:wl (L.d j).ws D with
    | false=>exact jU (hw▸w)
    | true=>exact hU (hw▸w) (jR ((aM (aK rfl rfl (zJ JJ4 hj)) (aK rfl rfl (nY JJ4 hk)) rfl).trans (by exact gw (vV ..) rfl)))
   have g4:Gr Z0 Z4:=g.tr ((Gr.app Z' _).tr (g2.tr ((Gr.app Z2 _).tr (Gr.app _ _))));have e9:∀{e4 e5:Option V},∃b Z5,Ev ns C [rF (Q.A (.b 2)),rF (Q.A (.b 3)),some (ld Q k),rF Z.length,e4,e5,rI i,some (ld Q j),rF a] (.J (.keys (.v 3)) (.v 9) (.or [(.g .N (.v 9) (.call 20 [(.i (.v 7) (.k (V.str Nf)))])),(.call 24 [(.v 7),(.v 9)])])) Z4 (.ref b) Z5/\Gr Z4 Z5/\Z5[b]?=some (.list (((kys D.ws).filter λn=>bX (L.d j).ws n || looks (L.d j) n).map V.str)):=by
    intro e4 e5;refine yL (ns:=ns) (C:=C) (λn=>bX (L.d j).ws n || looks (L.d j) n) rfl (g4.at (aE Z _)) (pl hk) (λy y=>rfl) λx hx Z5 g5=>?_;have JJ5:=(JJ4.put fr (.fro own)).gr g5;have e:=h20 (JJ5.d 1 (by decide) hj) (hd j hj).1;have JJ6:=JJ5.gr (Gr.app Z5 [.dict (put [] (L.d j).ws)]);have ci:Ev ns C ([rF (Q.A (.b 2)),rF (Q.A (.b 3)),some (ld Q k),rF Z.length,e4,e5,rI i,some (ld Q j),rF a]++[rS x]) (.g .N (.v 9) (.call 20 [(.i (.v 7) (.k (V.str Nf)))])) Z5 (.bool (bX (L.d j).ws x)) (Z5++[.dict (put [] (L.d j).ws)]):=(aM rfl (aG (a9 (aK rfl rfl (gZ JJ5 hj))) e) (inD (aE Z5 _))).trans (gw (wZ ..) rfl);cases hw:bX (L.d j).ws x with
    | true=>exact ⟨_,orT (hw▸ci),Gr.app _ _⟩
    | false=>
     obtain ⟨Z7,e7,g7⟩:=h24 JJ6 hj (hd j hj).2.1 ((hd k hk).2.2 x hx);exact ⟨Z7,orF (hw▸ci) (or1 (aG rfl e7)),(Gr.app _ _).tr g7⟩
   refine ex2 (e9 (e4:=rI (if bh (L.d j) D then min p i else p:Nat)) (e5:=rI (if wl (L.d j).ws D&&decide ((L.d j).kat<=D.start) then i+1 else q:Nat))) λb Z5 q_h=>?_;refine an3 q_h λc3 g5 h5=>?_;have c3':=(mI c3 h5).trans (gw (jV ..) rfl);refine K ⟨.int i,_,_,_,bJ hi,rfl,aA i7 rfl (aA c8 rfl (lA c1 (aCg rfl rfl) rfl (J':=[rF (Q.A (.b 2)),rF (Q.A (.b 3)),some (ld Q k),rF Z.length,rI (if bh (L.d j) D then min p i else p:Nat),rI q,rI i,some (ld Q j),rF a]) ?_
    (lA c2 (v:=.int ((i+1:Nat):Int)) rfl rfl (J':=[rF (Q.A (.b 2)),rF (Q.A (.b 3)),some (ld Q k),rF Z.length,rI (if bh (L.d j) D then min p i else p:Nat),rI (if wl (L.d j).ws D&&decide ((L.d j).kat<=D.start) then i+1 else q:Nat),rI i,some (ld Q j),rF a]) ?_
    (lA c3' (v:=.int ((i+1:Nat):Int)) rfl rfl (J':=[rF (Q.A (.b 2)),rF (Q.A (.b 3)),some (ld Q k),rF Z.length,rI (if bh (L.d j) D then min p i else p:Nat),rI (if mb (L.d j) D (kys D.ws) then i+1 else q:Nat),rI i,some (ld Q j),rF a]) ?_ aI)))),⟨_,_,_,_,_,rfl,ps.next hi⟩,g4.tr (g5.tr (Gr.app _ _))⟩
   ·cases bh (L.d j) D
    ·rfl
    ·exact Uf (λz=>[rF (Q.A (.b 2)),rF (Q.A (.b 3)),some (ld Q k),rF Z.length,rI z,rI q,rI i,some (ld Q j),rF a]) (yE p i).symm
   ·cases wl (L.d j).ws D&&decide ((L.d j).kat<=D.start) <;> rfl
   ·have:=aGy (wl (L.d j).ws D) (decide ((L.d j).kat<=D.start)) ((kys D.ws).any λn=>bX (L.d j).ws n || looks (L.d j) n) (i+1) q;unfold mb;refine bw (this ..) ?_;cases (kys D.ws).any λn=>bX (L.d j).ws n || looks (L.d j) n <;> rfl)
  L.row.length 0 [rF (Q.A (.b 2)),rF (Q.A (.b 3)),some (ld Q k),rF Z.length,rI L.row.length,rI 0,.none,.none,.none] Z0 (zp _) ⟨⟨L.row.length,0,_,_,_,rfl,⟨λy y h=>Ue h (xi _),.inl rfl,λy y h=>Ue h (xi _),.inl rfl⟩⟩,Gr.rfl⟩
 have hc:Ev ns C [rF (Q.A (.b 2)),rF (Q.A (.b 3)),some (ld Q k),rF Z.length,rI p,rI q,o6,o7,o8] (.g .gt (.v 5) (.v 4)) Z' (.bool (decide (p<q))) Z':=(aM rfl rfl (nJ _ _)).trans (gw (pM ..) rfl);have A:∀{R:RS},aH ns C [rF (Q.A (.b 2)),rF (Q.A (.b 3)),some (ld Q k),rF Z.length,rI p,rI q,o6,o7,o8] Z' (gM.body.drop 4)=R->aH ns C [rF (Q.A (.b 2)),rF (Q.A (.b 3)),some (ld Q k),.none,.none,.none,.none,.none,.none] Z gM.body=R:=λh=>
  aA (aG (a9 (aK rfl rfl (gZ JJ hk))) e3) rfl (aA (bD rfl lr) rfl (aA rfl rfl (bT hsr (aB hF h))))
 have hp:=ps.plc;by_cases w:p<q
 ·replace hp:=(Ua w ..)▸hp;exact K ⟨_,Z',aN (fn:=gM) rfl (A (bU (hc.trans (gw (Uc w) rfl)) (aU (aP rfl)))),(Gr.app Z _).tr g,hp⟩
 ·replace hp:=(Ub w ..)▸hp;exact K ⟨_,Z',aN (fn:=gM) rfl (A (aL (hc.trans (gw (Ud w) rfl)) (aP rfl))),(Gr.app Z _).tr g,hp⟩
end
structure Sk(xs:List (List Nat))(D:Dl)(T:Nat):Prop where
 said:D.said.length<=T
 ws:D.ws.length<=T
 seen:D.seen.length<=T
 O:D.O.length<=T
 nm:∀p∈D.ws,p.1∈xs
structure Sf(xs:List (List Nat))(S:St)(T:Nat):Prop where
 hh:∀x,x∉S.names->S.I x=[]
 rw:∀j∈S.row,j<S.n/\(S.d j).st=2
 nd:S.row.Nodup
 rl:S.row.length<=T
 hl:∀x,(S.I x).length<=T
 nn:S.names.Nodup
 nx:∀x∈S.names,x∈xs
 d:∀k,k<S.n->Sk xs (S.d k) T
 nl:S.n<=T
 sr:∀k,k<S.n->(S.d k).start<=S.row.length
theorem a1o(ws:Ws):∀(d:Kv) (n:List Nat),n∈keysOf (put d ws)->n∈keysOf d∨∃p∈ws,p.1=n:=by
 induction ws with
 | nil=>exact λd n h=>.inl h
 | cons q ws ih=>
  intro d n h;rcases ih (bP d q.1 (val q.2)) n h with h | ⟨p,hp,e⟩
  ·exact (qI _ _ _ _ h).elim (λe=>.inr ⟨q,zm,e⟩) .inl
  ·exact .inr ⟨p,zr _ hp,e⟩
theorem xJ{ws:Ws}{n:List Nat}(h:n∈kys ws):∃p∈ws,p.1=n:=(a1o ws [] n h).resolve_left yl
theorem j0{α:Type}[DecidableEq α]{l l':List α}(h:l.Nodup)(s:∀x∈l,x∈l'):l.length<=l'.length:=by
 induction l generalizing l' with
 | nil=>exact yj _
 | cons a l ih=>
  have ⟨h1,h2⟩:=wg.mp h;have:=ih (l':=l'.erase a) h2 λx hx=>(List.mem_erase_of_ne λe:x=a=>h1 (e▸hx)).mpr (s x (zr _ hx));replace this:=(List.length_erase_of_mem (s a zm) ..)▸this;exact za (zw this) (zu (Nat.succ_pred_eq_of_pos (List.length_pos_of_mem (s a zm))))
section
variable{xs:List (List Nat)}{S:St}{T T' k p:Nat}{D D':Dl}{v:V}
theorem Sk.mono(h:Sk xs D T)(l:T<=T'):Sk xs D T':=⟨za h.said l,za h.ws l,za h.seen l,za h.O l,h.nm⟩
theorem Sk.st{s a:Nat}(h:Sk xs D T):Sk xs { D with st:=s,kat:=a } T:=⟨h.said,h.ws,h.seen,h.O,h.nm⟩
theorem Sf.mono(h:Sf xs S T)(l:T<=T'):Sf xs S T':=⟨h.hh,h.rw,h.nd,za h.rl l,λx=>za (h.hl x) l,h.nn,h.nx,λk hk=>(h.d k hk).mono l,za h.nl l,h.sr⟩
theorem Sk.rd{n:List Nat}(h:Sk xs D T):Sk xs (D.rd n v) (T+1):=⟨za (zu (bH ..)) (zw h.said),zn h.ws,by
 show (if _ then _ else _:List (List Nat)).length<=_;refine ic ite_ (λz=>?_) λz=>?_
 ·exact zn h.seen
 ·exact za (pH _ _) (zw h.seen),zn h.O,h.nm⟩
theorem Sk.un{n:List Nat}(h:Sk xs D T):Sk xs (D.un n v) (T+1):=⟨za (zu (bH ..)) (zw h.said),zn h.ws,zn h.seen,za (pH _ _) (zw h.O),h.nm⟩
theorem Sk.bk{m:Nat}(h:Sk xs D T):Sk xs (D.bk m v) (T+1):=⟨za (zu (bH ..)) (zw h.said),zn (za (xt _ _) h.ws),zn h.seen,zn h.O,λp hp=>h.nm p (wn hp)⟩
noncomputable def Dl.wr(D:Dl)(n:List Nat)(t:Option Int)(v:V):Dl:={ D with ws:=D.ws++[(n,t)],said:=D.said++[v] }
theorem Sk.wr{n:List Nat}{t:Option Int}(h:Sk xs D T)(hn:n∈xs):Sk xs (D.wr n t v) (T+1):=⟨za (zu (bH ..)) (zw h.said),za (zu (bH ..)) (zw h.ws),zn h.seen,zn h.O,λp hp=>(yh.mp hp).elim (h.nm p) λq=>by rw [ze.mp q];exact hn⟩
theorem Sf.setD(h:Sf xs S T)(ho:(S.d k).st=0)(l:T<=T')(hD:Sk xs D T')(hs:D.start=(S.d k).start):Sf xs (S.setD k D) T':=by
 refine ⟨h.hh,λj hj=>⟨(h.rw j hj).1,?_⟩,h.nd,za h.rl l,λx=>za (h.hl x) l,h.nn,h.nx,λj hj=>?_,za h.nl l,λj hj=>?_⟩
 ·rw [S.setD_ne D λe=>by have:=(h.rw j hj).2;rw [e,ho] at this;cases this];exact (h.rw j hj).2
 ·by_cases e:j=k
  ·exact gw e (gw (S.setD_at ..) hD)
  ·exact gw (S.setD_ne D e ..) ((h.d j hj).mono l)
 ·by_cases e:j=k
  ·subst e;exact gw (Uf Dl.start (S.setD_at ..)) (gw hs (h.sr j hj))
  ·exact gw (Uf Dl.start (S.setD_ne D e ..)) (h.sr j hj)
theorem tY{α:Type}(rs:List α)(p:Nat)(k:α):(bS rs p k).Perm (k::rs):=by unfold bS;refine List.perm_middle.trans ?_;rw [yb]
theorem Sf.keep(h:Sf xs S T)(hk:k<S.n)(ho:(S.d k).st=0):Sf xs (S.keep k p) (T+1):=by
 have ne:∀{j},j∈S.row->j≠k:=λhj e=>by have:=(h.rw _ hj).2;replace this:=ho▸e▸this;cases this
 refine ⟨λx hx=>?_,λj hj=>?_,?_,?_,λx=>?_,eM _ h.nn,λx hx=>?_,λj hj=>?_,zn h.nl,λj hj=>?_⟩
 ·have hx:x∉a8 S.names (kys (S.d k).ws):=hx;rw [fJ] at hx;show (if x∈_ then _ else _)=_;exact gw (Ub λq=>hx (.inr q)) (h.hh x λq=>hx (.inl q))
 ·rcases ye.mp ((tY S.row p k).mem_iff.mp hj) with e | hj
  ·subst e;exact ⟨hk,Uf Dl.st (S.setD_at j _)⟩
  ·exact ⟨(h.rw j hj).1,(Uf Dl.st (S.setD_ne _ (ne hj))).trans (h.rw j hj).2⟩
 ·exact (tY S.row p k).nodup_iff.mpr (wg.mpr ⟨λq=>ne q rfl,h.nd⟩)
 ·show (bS S.row p k).length<=_;exact gw (kU ..) (zw h.rl)
 ·show (if x∈_ then _ else _:List (Nat×Option Int)).length<=_;refine ic ite_ (λz=>?_) λz=>?_
  ·exact gw (bH ..) (zw (h.hl x))
  ·exact zn (h.hl x)
 ·rcases fJ.mp hx with q | q
  ·exact h.nx x q
  ·obtain ⟨w,hw,e⟩:=xJ q;exact e▸(h.d k hk).nm w hw
 ·show Sk xs ((S.setD k _).d j) _;by_cases e:j=k
  ·subst e;exact gw (S.setD_at ..) (((h.d j hj).mono (yi _)).st)
  ·exact gw (S.setD_ne _ e ..) ((h.d j hj).mono (yi _))
 ·show ((S.setD k _).d j).start<=(bS S.row p k).length;refine gw (kU ..) (zn ?_);by_cases e:j=k
  ·subst e;exact gw (Uf Dl.start (S.setD_at ..)) (h.sr j hj)
  ·exact gw (Uf Dl.start (S.setD_ne _ e ..)) (h.sr j hj)
theorem Sf.beg(h:Sf xs S T):Sf xs S.beg (T+1):=by
 have ne:∀{j},j<S.n->(S.beg).d j=S.d j:=λhj=>S.setD_ne _ (yq hj);have el:∀{p:Dl->Prop}{j},j<S.n+1->p (dl0 S.row.length)->(j<S.n->p (S.d j))->p (S.beg.d j):=λ{p j} hj h1 h2=>by
  by_cases e:j=S.n
  ·refine gw e (gw (show S.beg.d S.n=_ from S.setD_at _ _) h1)
  ·exact gw (ne (xm (yz hj) e)) (h2 (xm (yz hj) e))
 exact ⟨h.hh,λj hj=>⟨xk (h.rw j hj).1,(Uf Dl.st (ne (h.rw j hj).1)).trans (h.rw j hj).2⟩,h.nd,zn h.rl,λx=>zn (h.hl x),h.nn,h.nx,λj hj=>el (p:=λD=>Sk xs D (T+1)) hj ⟨yj _,yj _,yj _,yj _,λz hp=>Ue hp yl⟩ λq=>(h.d j q).mono (yi _),zw h.nl,λj hj=>el (p:=λD=>D.start<=S.row.length) hj (zf _) (h.sr j)⟩
noncomputable def St.swp(S:St):St:={ S with I:=hsw (lst S) S S.names }
theorem Sf.swp(F:Sf xs S T):Sf xs S.swp T:=by
 have h:∀x,(S.swp.I x).length<=(S.I x).length:=λx=>by
  show (hsw _ S S.names x).length<=_;unfold hsw;refine ic ite_ (λz=>?_) λz=>?_
  ·exact (gp _ _).length_le
  ·exact zf _
 exact ⟨λx h=>(Ub (show x∉S.names from h)).trans (F.hh x h),F.rw,F.nd,F.rl,λx=>za (h x) (F.hl x),F.nn,F.nx,F.d,F.nl,F.sr⟩
end
structure Tw(xs:List (List Nat))(F:Fz)(S:St)(P:Pl)(L:St)(Q:Pl)(Z:H):Prop where
 s:Inv F S P Z
 l:Lv xs F L Q Z
 ap:∀c c',dU S c->dU L c'->P.A c≠Q.A c'
section
variable{κ κ':Kd}{xs:List (List Nat)}{F:Fz}{S S' L L':St}{P P' Q Q':Pl}{Z Z':H}{o:O}{a k:Nat}
theorem next(I:Iv κ F S P Z)(JJ:Iv κ' F L Q Z)(ap:∀c c',dU S c->dU L c'->P.A c≠Q.A c')(I':Iv κ (mx S P Z) S' P' Z'):Iv κ F S' P' Z'/\Iv κ' F L Q Z'/\∀c c',dU S' c->dU L c'->P'.A c≠Q.A c':=
 have kp:∀c',dU L c'->Z'[Q.A c']?=some (ren κ' L Q c')/\a9m S' P' (Q.A c'):=λc' l=>I'.kept (λc lc=>ap c c' lc l) (JJ.c c' l).1
 ⟨I.un I',⟨λc l=>⟨(kp c l).1,(JJ.c c l).2⟩,λi o e=>⟨(I'.kept (λc l=>(I.fz i o e).2 c l) (I.fz i o e).1).1,(JJ.fz i o e).2⟩⟩,λc c' l l'=>(kp c' l').2 c l⟩
theorem Tw.sh(t:Tw xs F S P L Q Z)(I':Inv (mx S P Z) S' P' Z'):Tw xs F S' P' L Q Z':=by obtain ⟨a,b,c⟩:=next t.s t.l t.ap I';exact ⟨a,b,c⟩
theorem Tw.lw(t:Tw xs F S P L Q Z)(JJ':Lv xs (mx L Q Z) L' Q' Z'):Tw xs F S P L' Q' Z':=by obtain ⟨a,b,w⟩:=next t.l t.s (λc c' l l'=>(t.ap c' c l' l).symm) JJ';exact ⟨b,a,λc c' l l'=>(w c' c l' l).symm⟩
theorem Tw.gr(t:Tw xs F S P L Q Z)(g:Gr Z Z'):Tw xs F S P L Q Z':=⟨t.s.gr g,t.l.gr g,t.ap⟩
theorem Tw.fz(t:Tw xs F S P L Q Z)(f:Fr F S P a)(f':Fr F L Q a)(h:Z[a]?=some o):Tw xs (upd F a o) S P L Q Z:=⟨t.s.add f h,t.l.add f' h,t.ap⟩
theorem Iv.wr(JJ:Iv κ F L Q Z)(hk:k<L.n)(n:List Nat)(t:Option Int):Iv κ F (L.setD k { L.d k with ws:=(L.d k).ws++[(n,t)] }) Q (Z.set (Q.A (.d 1 k)) (.list (wV (L.d k).ws++[.tup [.str n,val t]]))):=
 JJ.storeD (j:=1) ⟨(by decide:1<5),hk⟩ (λi hi h5=>dJ (q:=1) hi h5 (.inr ⟨rfl,rfl,rfl⟩) (.inl rfl) (.inr rfl) (.inr rfl) (.inr rfl)) (Uf O.list (xO _ _ _))
theorem zH(l:List (List Nat))(n:List Nat):nV l++[.str n]=nV (l++[n]):=by unfold nV;exact gw xc rfl
theorem Iv.nmL(JJ:Lv xs F L Q Z)(hk:k<L.n)(n:List Nat):Lv xs F (L.setD k { L.d k with seen:=(L.d k).seen++[n] }) Q (Z.set (Q.A (.d 3 k)) (.list (nV (L.d k).seen++[.str n]))):=
 JJ.storeD (j:=3) ⟨(by decide:3<5),hk⟩ (λi hi h5=>dJ (q:=3) hi h5 (.inr ⟨rfl,rfl,rfl⟩) (.inr rfl) (.inr rfl) (.inl rfl) (.inr rfl)) (Uf O.list (zH _ _))
theorem Iv.hdL(JJ:Lv xs F L Q Z)(hk:k<L.n)(n:List Nat):Lv xs F (L.setD k { L.d k with O:=(L.d k).O++[n] }) Q (Z.set (Q.A (.d 4 k)) (.list (nV (L.d k).O++[.str n]))):=
 JJ.storeD (j:=4) ⟨(by decide:4<5),hk⟩ (λi hi h5=>dJ (q:=4) hi h5 (.inr ⟨rfl,rfl,rfl⟩) (.inr rfl) (.inr rfl) (.inr rfl) (.inl rfl)) (Uf O.list (zH _ _))
theorem Iv.st(JJ:Iv κ F L Q Z)(hk:k<L.n)(s a:Nat):Iv κ F (L.setD k { L.d k with st:=s,kat:=a }) Q (Z.set (Q.A (.d 0 k)) (κ.dE (L.d k).start s a (Q.A (.d 1 k)) (Q.A (.d 2 k)) (Q.A (.d 3 k)) (Q.A (.d 4 k)))):=
 JJ.storeD (j:=0) ⟨(by decide:0<5),hk⟩ (λi hi h5=>dJ (q:=0) hi h5 (.inl rfl) (.inr rfl) (.inr rfl) (.inr rfl) (.inr rfl)) rfl
end
structure Ll(D E:Dl):Prop where
 start:E.start=D.start
 st:E.st=D.st
 kat:E.kat=D.kat
 ws:E.ws=D.ws
 seen:∀n,n∈E.seen↔n∈D.seen
 O:∀n,n∈E.O↔n∈D.O
structure Lk(S L:St):Prop where
 n:L.n=S.n
 row:L.row=S.row
 names:L.names=S.names
 I:L.I=S.I
 d:∀k,k<S.n->Ll (S.d k) (L.d k)
noncomputable def Hp(F:Fz)(v:V):Prop:=∃a b ys,v=.tup [.ref a,.ref b]/\F a=some (.list ys)/\F b=some (.list ys)/\ys.all nQ=true/\ys.length<=50000
structure Wl where
 F:Fz
 S:St
 P:Pl
 L:St
 Q:Pl
noncomputable def Wl.Le(W W':Wl):Prop:=∀i o,W.F i=some o->W'.F i=some o
structure Ad where
 s:Nat
 q:Nat->Nat
structure Ok(xs:List (List Nat))(A:Ad)(W:Wl)(T:Nat)(Z:H):Prop where
 tw:Tw xs W.F W.S W.P W.L W.Q Z
 sf:Sf xs W.S T
 lk:Lk W.S W.L
 sl:∀k,k<W.S.n->Sk xs (W.L.d k) T/\∀v∈(W.L.d k).said,Hp W.F v
 a0:W.P.A (.b 0)=A.s
 aq:∀j,W.Q.A (.b j)=A.q j
noncomputable abbrev Ad.sh(A:Ad):V:=.inst 1 A.s
section
variable{xs:List (List Nat)}{A:Ad}{W:Wl}{F:Fz}{S L:St}{D E:Dl}{T T' k n:Nat}{Z Z':H}
theorem Ok.gr(h:Ok xs A W T Z)(g:Gr Z Z'):Ok xs A W T Z':=⟨h.tw.gr g,h.sf,h.lk,h.sl,h.a0,h.aq⟩
theorem Ok.mono(h:Ok xs A W T Z)(l:T<=T'):Ok xs A W T' Z:=⟨h.tw,h.sf.mono l,h.lk,λk hk=>⟨(h.sl k hk).1.mono l,(h.sl k hk).2⟩,h.a0,h.aq⟩
theorem Ll.looks(h:Ll D E)(n:List Nat):looks E n=looks D n:=by
 unfold Mine.Internal.L11.looks;congr 1
 ·exact decide_eq_decide.mpr (h.seen n)
 ·exact uh.mpr ⟨λq=>by obtain ⟨x,a,b⟩:=wu.mp q;exact wu.mpr ⟨x,(h.O x).mp a,b⟩,λq=>by obtain ⟨x,a,b⟩:=wu.mp q;exact wu.mpr ⟨x,(h.O x).mpr a,b⟩⟩
theorem Ll.wl(h:Ll D E)(ws:Ws):wl ws E=wl ws D:=by unfold Mine.Internal.L11.wl;exact Uf _ (funext h.looks)
theorem Ll.refl:Ll D D:=⟨rfl,rfl,rfl,rfl,λz=>Iff.rfl,λz=>Iff.rfl⟩
theorem Lk.setD(h:Lk S L)(q:Ll D E):Lk (S.setD k D) (L.setD k E):=⟨h.n,h.row,h.names,h.I,λj hj=>by
 by_cases e:j=k
 ·subst e;exact gw (S.setD_at ..) (gw (L.setD_at ..) q)
 ·exact gw (S.setD_ne D e ..) (gw (L.setD_ne E e ..) (h.d j hj))⟩
theorem Hp.upd{v:V}{a:Nat}{o:O}(h:Hp F v)(f:F a=.none):Hp (upd F a o) v:=by
 refine ex3 (h) λb c ys q_h=>?_;refine an4 q_h λe h1 h2 h3=>?_;have ne:∀{i o'},F i=some o'->i≠a:=λq w=>by replace q:=f▸w▸q;cases q
 exact ⟨b,c,ys,e,(jS F o (ne h1)).trans h1,(jS F o (ne h2)).trans h2,h3⟩
end
noncomputable abbrev Fu:=List V->H->R V
noncomputable abbrev vX(f:Fu):Prop:=∀{G:Fz}{S:St}{P:Pl}{Z:H}{k T:Nat}{xs:List (List Nat)}{x:List Nat}{t:Option Int},Inv G S P Z->Sf xs S T->T<=20000->k<S.n->(S.d k).st=0->Nm x->inR t ->
 ∃Z',(∃e,f [sh P,.int k,.str x,val t] Z=.exc e Z'/\Inv G S P Z'/\((taken S k x=true/\e=6)∨(taken S k x=false/\lat (S.d k).start (S.I x)=true/\e=7)))∨(taken S k x=false/\lat (S.d k).start (S.I x)=false/\f [sh P,.int k,.str x,val t] Z=.ok .none Z'/\Inv G (S.setD k ((S.d k).wr x t (.tup [.str Nu,.str x,val t]))) P Z')
theorem b2{a T:Nat}(h:a<=T)(h':T<=20000):a<=50000:=za h (za h' (by decide))
section
variable{ns:List Int}{C:Calls}{J J':Env}{Z Z' Z1 Z2:H}{xs:List (List Nat)}{A:Ad}{W:Wl}{S L:St}{T k:Nat}{c e:E}{t f r:List Mine.Internal.S}
theorem a9k(hm:C.U=aJ T0)(h31:dG C)(h32:oE C)(h4:∀{t Z},inR t->C.call 4 [val t] Z=.ok (.bool true) Z)(h8:qW C):vX (evF ns C aX):=λI F hT hk ho hx ht=>
 a1n hm h31 h32 h4 h8 I F.hh hk (b2 F.nl hT) (λj hj=>b2 (F.d j hj).ws hT) (b2 (F.d _ hk).said hT) ho hx ht
theorem Ok.ad(h:Ok xs A W T Z):A=⟨W.P.A (.b 0),λj=>W.Q.A (.b j)⟩:=by obtain ⟨s,q⟩:=A;have h0:_=s:=h.a0;have h1:(λj=>W.Q.A (.b j))=q:=funext h.aq;exact gw h0 (gw h1 rfl)
theorem Lk.lt(h:Lk S L)(hk:k<S.n):k<L.n:=h.n▸hk
theorem Lk.hh(h:Lk S L)(F:Sf xs S T):∀x,x∉L.names->L.I x=[]:=λx q=>gw (h.I ..) (F.hh x (h.names▸q))
theorem Lk.taken(h:Lk S L)(k:Nat)(n:List Nat):taken L k n=taken S k n:=by
 unfold Mine.Internal.L11.taken;refine gw (h.n ..) ?_;refine uh.mpr ⟨λq=>?_,λq=>?_⟩ <;> obtain ⟨j,a,b⟩:=wu.mp q <;> refine wu.mpr ⟨j,a,?_⟩ <;> unfold tkn at*<;> have l:=h.d j (xw.mp a)
 ·rwa [l.st,l.ws] at b
 ·rwa [l.st,l.ws]
theorem Lk.lat(h:Lk S L)(hk:k<S.n)(n:List Nat):lat (L.d k).start (L.I n)=lat (S.d k).start (S.I n):=gw (h.I ..) (gw ((h.d k hk).start ..) rfl)
theorem aHp{c:E}{x:Nat}(h:evE ns C J c Z=.exc x Z'):aH ns C J Z (.x c t f::r)=.exc x J Z':=by exact gw cL (gw aFl (gw h rfl))
noncomputable abbrev aBp(C:Calls):Prop:=∀{G:Fz}{S:St}{P:Pl}{Z:H}{k:Nat},Inv G S P Z->k<S.n->(S.d k).st≠0->∀a b:V,C.call 50 [sh P,.int k,a] Z=.exc 2 Z/\C.call 51 [sh P,.int k,a] Z=.exc 2 Z/\C.call 52 [sh P,.int k,a,b] Z=.exc 2 Z/\C.call 54 [sh P,.int k,a] Z=.exc 2 Z/\C.call 57 [sh P,.int k] Z=.exc 2 Z/\C.call 58 [sh P,.int k] Z=.exc 2 Z
theorem a7w(hm:C.U=aJ T0)(hs:C.sub=a6g)(ho:aBp C){G:Fz}{P:Pl}(I:Inv G S P Z)(hk:k<S.n)(h:(S.d k).st≠0)(n:V)(w:Int):evF ns C pY [sh P,.int k,n,.int w] Z=.ok (.bool true) Z:=by
 refine cps λG' K=>?_;have lk:∀{n i},((T0.cls[1]?).bind λp=>p.2.lookup n)=some i->aW (shE (P.A (.b 1)) (P.A (.b 2)) (P.A (.b 3))) n=.none->C.U (sh P) n Z=.ok i Z:=λh h'=>aY hm (I.b 0 (by decide)) h' h;have fin:∀{b:List Mine.Internal.S},aH ns C [some (sh P),rI k,some n,rI w] Z b=.exc 2 [some (sh P),rI k,some n,rI w] Z->aH ns C [some (sh P),rI k,some n,rI w] Z [.try b [(2,.ret (V.bool true))],.dead]=.ok (.ret (.bool true)) [some (sh P),rI k,some n,rI w] Z:=λh=>wJ h (aU (gw hs rfl));refine K (aN (fn:=pY) rfl (fin ?_));have cT:∀{j:Int}{t f:List Mine.Internal.S},w<j->aH ns C [some (sh P),rI k,some n,rI w] Z t=.exc 2 [some (sh P),rI k,some n,rI w] Z->aH ns C [some (sh P),rI k,some n,rI w] Z [.x (.g .lt (.v 3) (.k (V.int j))) t f]=.exc 2 [some (sh P),rI k,some n,rI w] Z:=λq h=>bU (aM rfl rfl (aBx q)) (eO h);have cF:∀{j:Int}{t f:List Mine.Internal.S},¬w<j->aH ns C [some (sh P),rI k,some n,rI w] Z f=.exc 2 [some (sh P),rI k,some n,rI w] Z->aH ns C [some (sh P),rI k,some n,rI w] Z [.x (.g .lt (.v 3) (.k (V.int j))) t f]=.exc 2 [some (sh P),rI k,some n,rI w] Z:=λq h=>mX (p:=false) (aM rfl rfl (aFs q)) (eO h);by_cases q1:w<4
 ·exact cT q1 (kP (eR rfl (lk rfl rfl) rfl (ho I hk h n n).1))
 refine cF q1 ?_;by_cases q2:w<7
 ·exact cT q2 (kP (eR rfl (lk rfl rfl) rfl (ho I hk h (.str []) n).2.1))
 refine cF q2 ?_;by_cases q3:w<12
 ·exact cT q3 (kP (eR rfl (lk rfl rfl) rfl (ho I hk h n (.int 1)).2.2.1))
 refine cF q3 ?_;by_cases q4:w<13
 ·exact cT q4 (kP (eR rfl (lk rfl rfl) rfl (ho I hk h (.int 0) n).2.2.2.1))
 refine cF q4 ?_;by_cases q5:w<15
 ·exact cT q5 (kP (eR rfl (lk rfl rfl) rfl (ho I hk h n n).2.2.2.2.1))
 exact cF q5 (kP (eR rfl (lk rfl rfl) rfl (ho I hk h n n).2.2.2.2.2))
noncomputable def nP(tk lt:Bool):V:=.str (if tk then NE else if lt then NM else Nz)
theorem aDj(h20:nF C){F:Fz}{Q:Pl}(JJ:Lv xs F L Q Z)(hh:∀x,x∉L.names->L.I x=[])(hk:k<L.n)(hw:∀j,j<L.n->(L.d j).ws.length<=50000)(hz:∀x,(L.I x).length<=50000)(hn:L.n<=50000){s v:V}{x:List Nat}:
  ∃o Z',Gr Z Z'/\∀{R:RS},(aH ns C [some s,rF (Q.A (.b 2)),rF (Q.A (.b 1)),rI k,rS x,some v,some (nP (taken L k x) (lat (L.d k).start (L.I x))),o,.none] Z' (cW.body.drop 3)=R->aH ns C [some s,rF (Q.A (.b 2)),rF (Q.A (.b 1)),rI k,rS x,some v,.none,.none,.none] Z cW.body=R):=by
 refine cps λG' K=>?_;obtain ⟨l,eg,hl⟩:=j5 (ns:=ns) (C:=C) (J:=[some s,rF (Q.A (.b 2)),rF (Q.A (.b 1)),rI k,rS x,some v,rS Nz,.none,.none]) (i:=4) (n:=x) (e:=.v 2) JJ hh rfl rfl;let Z1:=Z++[O.list []];have JJ1:Lv xs F L Q Z1:=JJ.gr (Gr.app Z _);obtain ⟨Z',hg,e⟩:=cG (Z:=Z1) (f:=fIf ns C [some s,rF (Q.A (.b 2)),rF (Q.A (.b 1)),rI k,rS x,some v,rS Nz,.none,.none] (.v 9) (.g .gt (.i (.v 9) (.k (V.int 0))) (.i (.i (.v 1) (.v 3)) (.k (V.str Na))))) (it:=λi=>.list l i) (·=Z1) (L.I x) (λp=>.tup [.int p.1,val p.2]) (λp=>if decide ((L.d k).start<p.1) then some (V.tup [.int p.1,val p.2]) else .none) (lm (hz x)) rfl (λi Z' e=>dQ (e▸hl) i) λp z Z' e=>by
  subst e;have hc:Ev ns C ([some s,rF (Q.A (.b 2)),rF (Q.A (.b 1)),rI k,rS x,some v,rS Nz,.none,.none]++[some (.tup [.int p.1,val p.2])]) (.g .gt (.i (.v 9) (.k (V.int 0))) (.i (.i (.v 1) (.v 3)) (.k (V.str Na)))) Z1 (.bool (decide ((L.d k).start<p.1))) Z1:=(aM (aK rfl rfl rfl) (aK (aK rfl rfl (cD JJ1 hk)) rfl (nY JJ1 hk)) (nJ _ _)).trans (gw (pM ..) rfl);refine ⟨Z1,?_,rfl⟩;cases h:decide ((L.d k).start<p.1) with
  | true=>exact nD (h▸hc) rfl
  | false=>exact mC (h▸hc)
 subst e;replace hg:=(hY (λp:Nat×Option Int=>decide ((L.d k).start<p.1)) (λp=>V.tup [.int p.1,val p.2]) (L.I x))▸(jP (L.I x)).symm▸hg;have c1:=(mI (eP (elt:=.v 9) (cond:=.g .gt (.i (.v 9) (.k (V.int 0))) (.i (.i (.v 1) (.v 3)) (.k (V.str Na)))) (bN eg hl) hg) (aE Z1 _)).trans (gw (jV ..) rfl);replace c1:Ev ns C _ _ Z (.bool (lat (L.d k).start (L.I x))) _:=c1;have g2:Gr Z (Z1++[.list (((L.I x).filter λp=>decide ((L.d k).start<p.1)).map λp=>.tup [.int p.1,val p.2])]++[.list []]):=(Gr.app Z _).tr ((Gr.app Z1 _).tr (Gr.app _ _));replace c1:Ev ns C _ _ Z (.bool (lat (L.d k).start (L.I x))) (Z1++[.list (((L.I x).filter λp=>decide ((L.d k).start<p.1)).map λp=>.tup [.int p.1,val p.2])]++[.list []]):=c1;generalize Z1++[.list (((L.I x).filter λp=>decide ((L.d k).start<p.1)).map λp=>.tup [.int p.1,val p.2])]++[.list []]=Z2 at c1 g2;have JJ2:=JJ.gr g2;generalize lat (L.d k).start (L.I x)=lt at c1 K;have hsr:=cO (ns:=ns) (C:=C) (Z:=Z2) (J:=[some s,rF (Q.A (.b 2)),rF (Q.A (.b 1)),rI k,rS x,some v,some (nP false lt),.none,.none]) (e:=.bi .len (.v 1)) (k:=L.n) (bD rfl (gP JJ2)) (nz _) (ns_ (za hn (by decide)));replace hsr:=(xa ..)▸hsr;obtain ⟨J',Z3,hF,⟨o,rfl⟩,g3⟩:=bR (tgt:=dH 7) (body:=λJ Z=>aH ns C J Z [.x (.and [(.g .ne (.v 7) (.v 3)),(.g .eq (.i (.i (.v 1) (.v 7)) (.k (V.str Ni))) (.k (V.str Ng))),(.g .N (.v 4) (.call 20 [(.i (.i (.v 1) (.v 7)) (.k (V.str Nf)))]))]) [.a 6 (.k (V.str NE))] []]) (it:=λi=>.range i L.n)
  (λi J Z'=>(∃o,J=[some s,rF (Q.A (.b 2)),rF (Q.A (.b 1)),rI k,rS x,some v,some (nP ((zs i).any (tkn L k x)) lt),o,.none])/\Gr Z2 Z') L.n (λz z z=>cH)
  (λi J Z' hi p=>by
   refine cps λG K=>?_;obtain ⟨⟨o,rfl⟩,g⟩:=p;have JJ3:=JJ2.gr g;let J1:Env:=[some s,rF (Q.A (.b 2)),rF (Q.A (.b 1)),rI k,rS x,some v,some (nP ((zs i).any (tkn L k x)) lt),rI i,.none];have hc:∃Z'',Ev ns C J1 (.and [(.g .ne (.v 7) (.v 3)),(.g .eq (.i (.i (.v 1) (.v 7)) (.k (V.str Ni))) (.k (V.str Ng))),(.g .N (.v 4) (.call 20 [(.i (.i (.v 1) (.v 7)) (.k (V.str Nf)))]))]) Z' (.bool (tkn L k x i)) Z''/\Gr Z' Z'':=by
    have e1:Ev ns C J1 (.g .ne (.v 7) (.v 3)) Z' (.bool (!decide ((i:Int)=k))) Z':=aM rfl rfl (neI _ _);have e2:Ev ns C J1 (.g .eq (.i (.i (.v 1) (.v 7)) (.k (V.str Ni))) (.k (V.str Ng))) Z' (.bool (decide (iL (L.d i).st=Ng))) Z':=aM (aK (aK rfl rfl (cD JJ3 hi)) rfl (pD JJ3 hi)) rfl (eqS _ _);have e3:Ev ns C J1 (.g .N (.v 4) (.call 20 [(.i (.i (.v 1) (.v 7)) (.k (V.str Nf)))])) Z' (.bool (bX (L.d i).ws x)) (Z'++[.dict (put [] (L.d i).ws)]):=(aM rfl (aG (a9 (aK (aK rfl rfl (cD JJ3 hi)) rfl (gZ JJ3 hi))) (h20 (JJ3.d 1 (by decide) hi) (hw i hi))) (inD (aE Z' _))).trans (gw (wZ ..) rfl);unfold tkn;cases h1:!decide ((i:Int)=k) with
    | false=>exact ⟨Z',jU (h1▸e1),Gr.rfl⟩
    | true=>
     cases h2:decide (iL (L.d i).st=Ng) with
     | false=>exact ⟨Z',hU (h1▸e1) (jU (h2▸e2)),Gr.rfl⟩
     | true=>exact ⟨_,hU (h1▸e1) (hU (h2▸e2) (jR e3)),Gr.app _ _⟩
   obtain ⟨Z'',hc,g'⟩:=hc;refine K ⟨.int i,J1,[some s,rF (Q.A (.b 2)),rF (Q.A (.b 1)),rI k,rS x,some v,some (nP ((zs (i+1)).any (tkn L k x)) lt),rI i,.none],Z'',bJ hi,rfl,lA hc (v:=.str NE) rfl rfl ?_ aI,⟨_,rfl⟩,g.tr g'⟩;refine gw (fx ..) (gw (fu ..) (gw (jc ..) (gw (List.any_nil ..) (gw (zbp ..) ?_))));cases tkn L k x i with
   | true=>exact gw (zbr ..) rfl
   | false=>exact gw (zbp ..) rfl)
  L.n 0 [some s,rF (Q.A (.b 2)),rF (Q.A (.b 1)),rI k,rS x,some v,some (nP false lt),.none,.none] Z2 (zp _) ⟨⟨_,rfl⟩,Gr.rfl⟩
 exact K ⟨o,Z3,g2.tr g3,λ{_} h=>aA rfl rfl (lA c1 (v:=.str NM) rfl rfl (J':=[some s,rF (Q.A (.b 2)),rF (Q.A (.b 1)),rI k,rS x,some v,some (nP false lt),.none,.none]) (by cases lt <;> rfl) (bT hsr (aB hF h)))⟩
end
section
variable{ns:List Int}{C:Calls}{J J':Env}{Z Z' Z1 Z2:H}{xs:List (List Nat)}{A:Ad}{W W':Wl}{S L:St}{T T' k:Nat}{D E:Dl}{F:Fz}
theorem a1y{n:Nat}(h:∀j,j<n->Sk xs (L.d j) T/\∀v∈(L.d j).said,Hp F v)(l:T<=T')(hE:Sk xs E T'/\∀v∈E.said,Hp F v):∀j,j<n->Sk xs ((L.setD k E).d j) T'/\∀v∈((L.setD k E).d j).said,Hp F v:=λj hj=>by
 by_cases e:j=k
 ·subst e;exact gw (L.setD_at ..) hE
 ·exact gw (L.setD_ne E e ..) ⟨(h j hj).1.mono l,(h j hj).2⟩
noncomputable def Wl.Sto(W W':Wl):Prop:=W'.S.n=W.S.n/\(∀j,(W'.S.d j).st=(W.S.d j).st)/\W.Le W'
theorem Wl.Sto.refl:W.Sto W:=⟨rfl,λz=>rfl,λz z e=>e⟩
theorem oN(e:D.st=(S.d k).st)(j:Nat):((S.setD k D).d j).st=(S.d j).st:=by
 by_cases h:j=k
 ·subst h;exact gw (S.setD_at ..) e
 ·rw [S.setD_ne D h]
theorem Ok.both(h:Ok xs A W T Z)(l:T<=T')(ho:(W.S.d k).st=0)(hD:Sk xs D T')(hs:D.start=(W.S.d k).start)(hE:Sk xs E T'/\∀v∈E.said,Hp W.F v)(q:Ll D E){P' Q':Pl}(hp:P'.A (.b 0)=W.P.A (.b 0))(hq:∀j,Q'.A (.b j)=W.Q.A (.b j))(t:Tw xs W.F (W.S.setD k D) P' (W.L.setD k E) Q' Z'):Ok xs A ⟨W.F,W.S.setD k D,P',W.L.setD k E,Q'⟩ T' Z':=
 ⟨t,h.sf.setD ho l hD hs,h.lk.setD q,a1y h.sl l hE,hp.trans h.a0,λj=>(hq j).trans (h.aq j)⟩
noncomputable abbrev mB(f:Fu):Prop:=∀{xs:List (List Nat)}{A:Ad}{W:Wl}{T:Nat}{Z:H}{k:Nat}{x:List Nat}{t:Option Int},Ok xs A W T Z->T<=20000->k<W.S.n->(W.S.d k).st=0->Nm x->x∈xs->inR t ->
 ∃W' Z',f [A.sh,.ref (A.q 2),.ref (A.q 1),.int k,.str x,val t] Z=.ok (.bool true) Z'/\Ok xs A W' (T+1) Z'/\W.Sto W'
theorem xF(hm:C.U=aJ T0)(hs:C.sub=a6g)(h20:nF C)(h52:vX (C.call 52)):mB (evF ns C cW):=λ{xs A W T Z k x t} h hT hk ho hx hxx ht=>by
 refine cps λG' K=>?_;obtain rfl:=h.ad;have hkL:=h.lk.lt hk;refine ex2 (aDj (ns:=ns) (C:=C) (k:=k) (s:=sh W.P) (v:=val t) (x:=x) h20 h.tw.l (h.lk.hh h.sf) hkL (λj hj=>b2 (h.sl j (h.lk.n▸hj)).1.ws hT) (λx=>gw (h.lk.I ..) (b2 (h.sf.hl x) hT)) (h.lk.n▸b2 h.sf.nl hT)) λo Z1 q_h=>?_;obtain ⟨g1,hd⟩:=q_h;have h1:=h.gr g1;have I1:=h1.tw.s.mx;obtain ⟨Z2,q⟩:=h52 I1 h.sf hT hk ho hx ht;rw [h.lk.taken,h.lk.lat hk] at hd;let J1:Env:=[some (sh W.P),rF (W.Q.A (.b 2)),rF (W.Q.A (.b 1)),rI k,rS x,some (val t),some (nP (taken W.S k x) (lat (W.S.d k).start (W.S.I x))),o,rS Nz];have lo:C.U (sh W.P) Nu Z1=.ok 52 Z1:=aY hm (I1.b 0 (by decide)) rfl rfl;rcases q with ⟨e,he,I2,q⟩ | ⟨tk,lt,he,I2⟩
 ·have t2:=h1.tw.sh I2;have hX:aH ns C J1 Z1 [.x (.g .isnt (.u (.v 0) Nu [(.v 3),(.v 4),(.v 5)]) (.k V.none)) [.dead] []]=.exc e J1 Z2:=aHp (aCc (eR rfl lo rfl he));have o2:Ok xs ⟨W.P.A (.b 0),λj=>W.Q.A (.b j)⟩ W (T+1) Z2:=(⟨t2,h.sf,h.lk,h.sl,h.a0,h.aq⟩:Ok xs _ W T Z2).mono (yi _);have fin:∃J'',after ns C (cW.body.drop 5) (p8 C.sub e J1 Z2 [(6,.set 8 (V.str NE)),(7,.set 8 (V.str NM))])=.ok (.ret (.bool true)) J'' Z2:=by
   rcases q with ⟨tk,rfl⟩ | ⟨tk,lt,rfl⟩
   ·refine ⟨_,aB (J':=[some (sh W.P),rF (W.Q.A (.b 2)),rF (W.Q.A (.b 1)),rI k,rS x,some (val t),some (nP true (lat (W.S.d k).start (W.S.I x))),o,rS NE]) (Z':=Z2) (gw hs (bw tk rfl)) (aL (aM rfl rfl rfl) (aP (aM rfl rfl rfl)))⟩
   ·refine ⟨_,aB (J':=[some (sh W.P),rF (W.Q.A (.b 2)),rF (W.Q.A (.b 1)),rI k,rS x,some (val t),some (nP false true),o,rS NM]) (Z':=Z2) (gw hs (bw tk (bw lt rfl))) (aL (aM rfl rfl rfl) (aP (aM rfl rfl rfl)))⟩
  obtain ⟨J'',fin⟩:=fin;exact K ⟨W,Z2,aN (fn:=cW) (v:=.bool true) rfl (hd (aA rfl rfl (wJ hX fin))),o2,.refl⟩
 ·have t2:=h1.tw.sh I2;have JJ2:=t2.l.mx.wr hkL x t;have t3:=t2.lw JJ2;have kE:=h.sl k hk;have o3:=h.both (k:=k) (E:={ W.L.d k with ws:=(W.L.d k).ws++[(x,t)] }) (yi T) ho ((h.sf.d k hk).wr (v:=.tup [.str Nu,.str x,val t]) (t:=t) hxx) rfl ⟨⟨zn kE.1.said,za (zu (bH ..)) (zw kE.1.ws),zn kE.1.seen,zn kE.1.O,λp hp=>(yh.mp hp).elim (kE.1.nm p) λq=>gw (ze.mp q ..) hxx⟩,kE.2⟩
   (let l:=h.lk.d k hk;⟨l.start,l.st,l.kat,by show (W.L.d k).ws++_=(W.S.d k).ws++_;exact gw (l.ws ..) rfl,l.seen,l.O⟩) rfl (λz=>rfl) t3
  have hB:aH ns C J1 Z1 [.x (.g .isnt (.u (.v 0) Nu [(.v 3),(.v 4),(.v 5)]) (.k V.none)) [.dead] []]=.ok .next J1 Z2:=aL (aM (aV rfl lo rfl he) rfl rfl) aI;have fin:∃J'' ,aH ns C J1 Z2 (cW.body.drop 5)=.ok (.ret (.bool true)) J'' (Z2.set (W.Q.A (.d 1 k)) (.list (wV (W.L.d k).ws++[.tup [.str x,val t]]))):=by
   refine ⟨J1,?_⟩;show aH ns C [some (sh W.P),rF (W.Q.A (.b 2)),rF (W.Q.A (.b 1)),rI k,rS x,some (val t),some (nP (taken W.S k x) (lat (W.S.d k).start (W.S.I x))),o,rS Nz] Z2 _=.ok _ [some (sh W.P),rF (W.Q.A (.b 2)),rF (W.Q.A (.b 1)),rI k,rS x,some (val t),some (nP (taken W.S k x) (lat (W.S.d k).start (W.S.I x))),o,rS Nz] _;exact gw tk (gw lt (bU (aM rfl rfl rfl) (aB (b5 (fZ (aK (aK rfl rfl (cD t2.l hkL)) rfl (gZ t2.l hkL)) (kL (t2.l.d 1 (by decide) hkL) rfl) (a9 (eV rfl rfl)) (kY (t2.l.d 1 (by decide) hkL) (gw (iJ ..) (lm1 (za (b2 kE.1.ws hT) (by decide)))))) aI) (aP (aM rfl rfl rfl)))))
  obtain ⟨J'',fin⟩:=fin;exact K ⟨_,_,aN (fn:=cW) (v:=.bool true) rfl (hd (aA rfl rfl (aBg hB fin))),o3,rfl,oN rfl,λz z e=>e⟩
end
section
variable{ns:List Int}{C:Calls}{J J':Env}{Z Z' Z1 Z2:H}{xs:List (List Nat)}{S S' L L':St}{P P' Q:Pl}{k a:Nat}{G:Fz}{κ:Kd}{o o':O}
theorem Iv.thaw(I':Iv κ (Mine.Internal.L11.mx S P (Z.set a o)) S' P' Z')(f:a9m S P a)(h:Z[a]?=some o'):Iv κ (Mine.Internal.L11.mx S P Z) S' P' (Z'.set a o'):=by
 obtain ⟨e1,f'⟩:=I'.kept f (eZ h o);refine ⟨λc l=>⟨cA _ (f' c l) (I'.c c l).1,(I'.c c l).2⟩,λi x e=>?_⟩;by_cases q:i=a
 ·subst q;unfold Mine.Internal.L11.mx at e;rw [Ub (λq_0=>by obtain ⟨c,l,w⟩:=q_0;exact f c l w),h] at e;cases e;exact ⟨eZ e1 _,f'⟩
 ·have e':Mine.Internal.L11.mx S P (Z.set a o) i=some x:=by
   unfold Mine.Internal.L11.mx at e ⊢;refine gw (wo (Ne.symm q) ..) ?_;exact e
  exact ⟨cA _ q (I'.fz i x e').1,(I'.fz i x e').2⟩
theorem Iv.ins(I:Iv κ G S P Z)(p:Nat):Iv κ G { S with row:=bS S.row p k } P (Z.set (P.A (.b 3)) (.list (iV (bS S.row p k)))):=by
 refine I.store (S':={ S with row:=bS S.row p k }) (c₀:=.b 3) (by show 3<4;decide) (λc l=>by cases c <;> exact l) (λc q lv=>?_) rfl;cases c with
 | b j=>exact lS (S:=S) (S':={ S with row:=bS S.row p k }) (q:=3) (λe=>q (gw e rfl)) lv (.inr rfl) (.inr rfl) (.inl rfl)
 | d j k'=>rfl
 | h y=>rfl
noncomputable def St.more(L:St)(k:Nat)(g:List Nat->Option Int)(ks:List (List Nat)):St:={ L with names:=a8 L.names ks,I:=dM L k g ks }
theorem a1j{g:List Nat->Option Int}{ks:List (List Nat)}{i:Nat}{x:List Nat}(tk:ks.take (i+1)=ks.take i++[x])(hx:x∉ks.take i):(L.more k g (ks.take i)).seth x (L.I x++[((L.d k).kat,g x)])=L.more k g (ks.take (i+1)):=by
 unfold St.more St.seth;have e1:cI (a8 L.names (ks.take i)) x=a8 L.names (ks.take (i+1)):=by refine gw tk ?_;unfold a8;exact gw (vw ..) rfl
 have e2:(λy=>if y=x then L.I x++[((L.d k).kat,g x)] else dM L k g (ks.take i) y)=dM L k g (ks.take (i+1)):=funext λy=>by
  unfold dM;refine gw tk ?_;by_cases q:y=x
  ·subst q;exact gw (Ua rfl ..) (gw (Ua (xx _ (ze.mpr rfl)) ..) rfl)
  ·refine gw (Ub q ..) ?_;have w:y∈ks.take i++[x]↔y∈ks.take i:=iw (yh ..) (iw (ze ..) ⟨λz=>z.resolve_right q,.inl⟩);by_cases z:y∈ks.take i
   ·exact gw (Ua z ..) (gw (Ua (w.mpr z) ..) rfl)
   ·rw [Ub z,Ub λu=>z (w.mp u)]
 exact gw e1 (gw e2 rfl)
noncomputable abbrev a8k:List Mine.Internal.S:=[.T (.v 2) (.v 10) (.o .add (.me (.v 2) .get [(.v 10),(.list [])]) (.list [(.tup [(.bi .len (.v 3)),(.i (.v 9) (.v 10))])]))]
theorem a1a{own:Kv}{l:Nat}{g:List Nat->Option Int}(JJ:Lv xs G L Q Z)(hl:G l=some (.fro own))(hg:∀x∈keysOf own,aW own x=some (val (g x)))(hnd:(keysOf own).Nodup)(hh:∀x,x∉L.names->L.I x=[])(hn:L.names.Nodup)(hz:L.names.length+own.length<=50000)(hs:∀x,(L.I x).length<=49999)(hk:k<L.n)(hm:(L.d k).kat=L.row.length){r0 r1 r4 r5 r6 r7 r8 r10:Option V}:
  ∃Z' Q' o,forLoop (dH 10) (λJ Z=>aH ns C J Z a8k) own.length (.keys l own 0) [r0,r1,rF (Q.A (.b 1)),rF (Q.A (.b 3)),r4,r5,r6,r7,r8,rF l,r10] Z=.ok .next [r0,r1,rF (Q.A (.b 1)),rF (Q.A (.b 3)),r4,r5,r6,r7,r8,rF l,o] Z'/\Lv xs G (L.more k g (keysOf own)) Q' Z'/\∀j,Q'.A (.b j)=Q.A (.b j):=by
 refine cps λG' K=>?_;obtain ⟨J',Z',hF,Q',o,rfl,JJ',hq⟩:=bR (tgt:=dH 10) (body:=λJ Z=>aH ns C J Z a8k) (it:=λi=>.keys l own i)
  (λi J Z'=>∃Q' o,J=[r0,r1,rF (Q.A (.b 1)),rF (Q.A (.b 3)),r4,r5,r6,r7,r8,rF l,o]/\Lv xs G (L.more k g ((keysOf own).take i)) Q' Z'/\∀j,Q'.A (.b j)=Q.A (.b j)) own.length
  (λJ Z u=>by show some ((own[own.length]?).map _)=_;refine gw (vc (zf _) ..) ?_;rfl)
  (λi J Z' hi p=>by
   refine cps λG' K=>?_;refine ex2 (p) λQ' o q_h=>?_;refine an3 q_h λq_2 JJ' hq=>?_;obtain rfl:=q_2;have hi':i<(keysOf own).length:=by unfold keysOf;exact gw (zb ..) hi
   obtain ⟨x,hx⟩:∃x,x=(keysOf own)[i]:=⟨_,rfl⟩;have hxm:x∈keysOf own:=hx▸xj hi';have tk:(keysOf own).take (i+1)=(keysOf own).take i++[x]:=gw hx (bM _ hi');have hxs:x∉(keysOf own).take i:=λq=>by
    have w:=hnd;replace w:=(xf hi' ..)▸(yb i (keysOf own) ..)▸w;exact (wv.mp w).2.2 _ q _ zm hx
   have nx:aS (.keys l own i) Z'=some (some (.str x,.keys l own (i+1))):=by
    show some ((own[i]?).map _)=_;refine gw (zg hi ..) (gw hx ?_);exact Uf (λz=>some (some (V.str z,It.keys l own (i+1)))) (List.getElem_map (λp:List Nat×V=>p.1) (l:=own) (h:=hi')).symm
   have hh':∀y,y∉(L.more k g ((keysOf own).take i)).names->(L.more k g ((keysOf own).take i)).I y=[]:=λy hy=>by
    have hy:y∉a8 L.names ((keysOf own).take i):=hy;rw [fJ] at hy;exact (Ub λq=>hy (.inr q)).trans (hh y λq=>hy (.inl q))
   have eh:(L.more k g ((keysOf own).take i)).I x=L.I x:=Ub hxs;obtain ⟨a,e1,h1⟩:=j5 (ns:=ns) (C:=C) (J:=[r0,r1,rF (Q.A (.b 1)),rF (Q.A (.b 3)),r4,r5,r6,r7,r8,rF l,rS x]) (e:=.v 2) (i:=10) (n:=x) JJ' hh' (gw (hq 1 ..) rfl) rfl;replace h1:=eh▸h1;let Z1:=Z'++[O.list []];have JJ1:=JJ'.gr (Gr.app Z' [O.list []]);have hf:Z1[l]?=some (.fro own):=(JJ1.fz l _ hl).1;have e9:Ev ns C [r0,r1,rF (Q.A (.b 1)),rF (Q.A (.b 3)),r4,r5,r6,r7,r8,rF l,rS x] (.i (.v 9) (.v 10)) Z1 (val (g x)) Z1:=aK rfl rfl (by
    show onD l (λkvs=>bF (aW kvs x)) Z1=_;unfold onD dictAt;refine gw hf ?_;show bF (aW own x) Z1=_;exact gw (hg x hxm) rfl)
   have e3:biV ns .len (.ref (Q.A (.b 3))) Z1=.ok (.int (L.d k).kat) Z1:=bw (hq 3 ..) (gw hm (eQ (S:=L.more k g ((keysOf own).take i)) JJ1));let Z2:=Z1++[O.list [.tup [.int (L.d k).kat,val (g x)]]];have JJ2:=JJ1.gr (Gr.app Z1 [O.list [.tup [.int (L.d k).kat,val (g x)]]]);have hb:hV (L.I x)++[.tup [.int (L.d k).kat,val (g x)]]=hV (L.I x++[((L.d k).kat,g x)]):=by unfold hV;exact gw (xc ..) rfl
   have e4:oX .add (.ref a) (.ref Z1.length) Z2=.ok (.ref Z2.length) (Z2++[.list (hV (L.I x++[((L.d k).kat,g x)]))]):=(a7v ((Gr.app Z1 _).at h1) (aE Z1 _) (by refine gw (jP ..) ?_;exact za (yx (hs x) 1) (by decide))).trans (gw hb rfl);have nm:(L.more k g ((keysOf own).take i)).names.Nodup:=eM _ hn;have JJ3:=JJ2.seth nm x (L.I x++[((L.d k).kat,g x)]);replace JJ3:=(a1j tk hxs ..)▸JJ3;have nl:((L.more k g ((keysOf own).take i)).names).length<=50000:=za (fM _ _) (za (yg (za (xt _ _) (zu (zb ..))) _) hz);have e5:=setD (x:=x) (v:=.ref Z2.length) ((Gr.app Z2 [.list (hV (L.I x++[((L.d k).kat,g x)]))]).at (JJ2.b 1 (by decide))) (lmx (f0 ..) (gw (zb ..) (za nl (by decide))));replace e5:=(hq 1 ..)▸e5;exact K ⟨.str x,_,_,_,nx,rfl,iR (bB e1 (bV (a9 (eV (bW (bD rfl e3) e9) rfl)) (by show 1<=lim;decide)) e4) rfl rfl e5 aI,Q'.growH Z2.length x,_,rfl,(bw (hq 1 ..) JJ3),hq⟩)
  own.length 0 [r0,r1,rF (Q.A (.b 1)),rF (Q.A (.b 3)),r4,r5,r6,r7,r8,rF l,r10] Z (zp _) ⟨Q,_,rfl,by
   have:L.more k g ((keysOf own).take 0)=L:=by
    unfold St.more;have e:dM L k g ((keysOf own).take 0)=L.I:=funext λx=>Ub yl;exact gw e rfl
   exact gw (this ..) JJ,λu=>rfl⟩
 rw [xu (by unfold keysOf;rw [zb];exact zf _)] at JJ';exact K ⟨Z',Q',o,hF,JJ',hq⟩
end
noncomputable abbrev a3j(f:Fu):Prop:=∀{G:Fz}{S:St}{P:Pl}{Z:H}{k T:Nat}{xs:List (List Nat)},Inv G S P Z->Sf xs S T->T<=20000->xs.length<=137->k<S.n->(S.d k).st=0 ->
 ∃P' Z',P.Sim P'/\((Pk S k .none/\f [sh P,.int k] Z=.exc 8 Z'/\Inv G (S.setD k { S.d k with st:=1 }) P' Z')∨∃p:Nat,p<=S.row.length/\Pk S k (.int p)/\f [sh P,.int k] Z=.ok (.int p) Z'/\Inv G (S.keep k p) P' Z')
noncomputable abbrev a5v(f:Fu):Prop:=∀{xs:List (List Nat)}{F:Fz}{L:St}{Q:Pl}{Z:H}{k:Nat},Lv xs F L Q Z->k<L.n->(∀j∈L.row,j<L.n)->L.row.length<=50000->(∀j,j<L.n->(L.d j).ws.length<=50000/\(L.d j).O.length<=50000/\∀n∈kys (L.d j).ws,n.length<=12) ->
 ∃v Z',f [.ref (Q.A (.b 2)),.ref (Q.A (.b 3)),ld Q k] Z=.ok v Z'/\Gr Z Z'/\Plc L.row (λj=>mb (L.d j) (L.d k) (kys (L.d k).ws)) (λj=>bh (L.d j) (L.d k)) v
section
variable{ns:List Int}{C:Calls}{J J':Env}{Z Z' Z1 Z2:H}{xs:List (List Nat)}{A:Ad}{W W':Wl}{S L:St}{T T' k:Nat}{D E:Dl}{F:Fz}
theorem aBr(hm:C.U=aJ T0)(h31:dG C)(h7:sY C)(h10:rY C)(h41:yU C)(h44:a5q C):a3j (evF ns C bA):=λI F hT hz hk ho=>
 a9y hm h31 h7 h10 h41 h44 I F.hh hk ho (λj hj=>(F.rw j hj).1) F.nd (λj hj=>⟨b2 (F.d j hj).ws hT,b2 (F.d j hj).O hT⟩) (za F.rl (za hT (by decide))) (za (za (j0 F.nn F.nx) hz) (by decide)) λx=>b2 (F.hl x) hT
theorem Lk.pk(h:Lk S L)(F:Sf xs S T)(hk:k<S.n){v:V}(q:Plc L.row (λj=>mb (L.d j) (L.d k) (kys (L.d k).ws)) (λj=>bh (L.d j) (L.d k)) v):Pk S k v:=by
 unfold Pk;replace q:=(h.row ..)▸q;have l:=h.d k hk;refine q.congr (λj hj=>?_) λj hj=>?_
 ·have lj:=h.d j (F.rw j hj).1;show mb (L.d j) (L.d k) (kys (L.d k).ws)=mb (S.d j) (S.d k) (kys (S.d k).ws);unfold mb;exact gw (l.ws ..) (gw (lj.ws ..) (gw (lj.kat ..) (gw (l.start ..) (gw (l.wl ..) (gw (funext lj.looks ..) rfl)))))
 ·have lj:=h.d j (F.rw j hj).1;show bh (L.d j) (L.d k)=bh (S.d j) (S.d k);unfold bh;exact gw (lj.ws ..) (gw (lj.kat ..) (gw (l.start ..) (gw (l.wl ..) rfl)))
noncomputable abbrev vE(f:Fu):Prop:=∀{xs:List (List Nat)}{A:Ad}{W:Wl}{T:Nat}{Z:H}{k:Nat},Ok xs A W T Z->T<=20000->xs.length<=137->(∀x∈xs,Nm x)->k<W.S.n->(W.S.d k).st=0 ->
 ∃W' Z',f [A.sh,.ref (A.q 2),.ref (A.q 1),.ref (A.q 3),.int k] Z=.ok (.bool true) Z'/\Ok xs A W' (T+1) Z'/\W'.S.n=W.S.n/\W.Le W'
noncomputable def St.nt(L:St)(k m a:Nat):St:=L.setD k { L.d k with st:=m,kat:=a }
noncomputable def St.l3(L:St)(k p:Nat):St:={ L.nt k 1 (L.d k).kat with row:=bS L.row p k }
noncomputable def St.l4(L:St)(k p:Nat):St:=(L.l3 k p).nt k 2 ((L.l3 k p).d k).kat
noncomputable def St.lk(L:St)(k p:Nat):St:=(L.l4 k p).nt k ((L.l4 k p).d k).st (L.row.length+1)
theorem St.lk_at(L:St)(k p:Nat):(L.lk k p).d k={ L.d k with st:=2,kat:=L.row.length+1 }:=by exact (St.setD_at ..).trans (gw (show (L.l4 k p).d k={ L.d k with st:=2,kat:=(L.d k).kat } from (St.setD_at ..).trans (gw (show (L.l3 k p).d k={ L.d k with st:=1,kat:=(L.d k).kat } from L.setD_at ..) rfl)) rfl)
theorem St.lk_ne(L:St){k j:Nat}(p:Nat)(e:j≠k):(L.lk k p).d j=L.d j:=((L.l4 k p).setD_ne _ e).trans (((L.l3 k p).setD_ne _ e).trans (L.setD_ne _ e))
theorem Tw.note{P Q:Pl}{x:List Nat}{w:V}(t:Tw xs F S P L Q Z)(hk:k<L.n)(m a:Nat)(e:∀p q r s,bP (lwE (L.d k).start (L.d k).st (L.d k).kat p q r s) x w=lwE (L.d k).start m a p q r s):∃Z',pF (ld Q k) (.str x) w Z=.ok .none Z'/\Tw xs F S P (L.nt k m a) Q Z':=
 ⟨_,(setD (kvs:=lwE (L.d k).start (L.d k).st (L.d k).kat (Q.A (.d 1 k)) (Q.A (.d 2 k)) (Q.A (.d 3 k)) (Q.A (.d 4 k))) (t.l.d 0 (by decide) hk) (by show _<=lim;exact gw (e ..) ((show 7<=lim by decide)))).trans (gw (e ..) rfl),t.lw (t.l.mx.st hk m a)⟩
theorem Tw.ins{P Q:Pl}{p:Nat}(t:Tw xs F S P L Q Z)(hp:p<=L.row.length)(hz:L.row.length<=50000):∃Z',meK .insert (.ref (Q.A (.b 3))) Z=.ok .none Z/\meV (.ref (Q.A (.b 3))) .insert [.int p,.int k] Z=.ok .none Z'/\Tw xs F S P { L with row:=bS L.row p k } Q Z':=
 ⟨_,kL (m:=.insert) (t.l.b 3 (by decide)) rfl,xQ (k:=k) (t.l.b 3 (by decide)) hz hp,t.lw (t.l.mx.ins (k:=k) p)⟩
theorem a7k(hm:C.U=aJ T0)(hs:C.sub=a6g)(h11:∀i Z,C.call 11 [.int i] Z=.ok (.bool true) Z)(h20:nF C)(h25:a5v (C.call 25))(h57:a3j (C.call 57)):vE (evF ns C gT):=λ{xs A W T Z k} h hT hz hn hk ho=>by
 refine cps λG' K=>?_;obtain rfl:=h.ad;obtain ⟨F,S,P,L,Q⟩:=W;have hkL:k<L.n:=h.lk.lt hk;have l:=h.lk.d k hk;have JJ:=h.tw.l;have kw:∀j,j<L.n->(L.d j).ws.length<=50000/\(L.d j).O.length<=50000/\∀n∈kys (L.d j).ws,n.length<=12:=λj hj=>
  let q:=(h.sl j (h.lk.n▸hj)).1
  ⟨b2 q.ws hT,b2 q.O hT,λn hn'=>by obtain ⟨p,hp,e⟩:=xJ hn';exact e▸(hn _ (q.nm p hp)).2.1⟩
 refine ex2 (h25 JJ hkL (λj hj=>h.lk.n▸(h.sf.rw j (h.lk.row▸hj)).1) (h.lk.row▸b2 h.sf.rl hT) kw) λv Z1 q_h=>?_;refine an3 q_h λe6 g1 pv=>?_;have pv:=h.lk.pk h.sf hk pv;have t1:=h.tw.gr g1;obtain ⟨Z2,e2,t2⟩:=t1.note hkL (x:=Ni) (w:=.str Nq) 1 (L.d k).kat λz z z z=>rfl;have A1:∀{R:RS},aH ns C [some (sh P),rF (Q.A (.b 2)),rF (Q.A (.b 1)),rF (Q.A (.b 3)),rI k,some (ld Q k),some v,.none,.none,.none,.none] Z2 (gT.body.drop 3)=R->aH ns C [some (sh P),rF (Q.A (.b 2)),rF (Q.A (.b 1)),rF (Q.A (.b 3)),rI k,.none,.none,.none,.none,.none,.none] Z gT.body=R:=λh=>
  aA (aK rfl rfl (cD JJ hkL)) rfl (aA (aG (b7 rfl rfl rfl) e6) rfl (iR rfl rfl rfl e2 h))
 refine ex2 (h57 t2.s.mx h.sf hT hz hk ho) λP' Z3 q_h=>?_;obtain ⟨sim,q⟩:=q_h;have lo:C.U (sh P) NJ Z2=.ok 57 Z2:=aY hm (t2.s.b 0 (by decide)) rfl rfl;rcases q with ⟨pk,ek,I3⟩ | ⟨p,hp,pk,ek,I3⟩
 ·obtain rfl:v=.none:=Plc.one pv pk;have t3:=t2.sh I3;have kE:=h.sl k hk;have o3:=h.both (k:=k) (D:={ S.d k with st:=1 }) (E:={ L.d k with st:=1,kat:=(L.d k).kat }) (yi T) ho ((h.sf.d k hk).mono (yi T)).st rfl ⟨(kE.1.mono (yi T)).st,kE.2⟩ ⟨l.start,rfl,l.kat,l.ws,l.seen,l.O⟩ sim (λz=>rfl) t3;have hX:aH ns C [some (sh P),rF (Q.A (.b 2)),rF (Q.A (.b 1)),rF (Q.A (.b 3)),rI k,some (ld Q k),some .none,.none,.none,.none,.none] Z2 [.a 7 (.u (.v 0) NJ [(.v 4)])]=.exc 8 _ Z3:=fF (eR rfl lo rfl ek);exact K ⟨_,Z3,aN (fn:=gT) rfl (A1 (wJ hX (aU (gw hs rfl)))),o3,rfl,λz z e=>e⟩
 ·obtain rfl:v=.int p:=Plc.one pv pk;have t3:=t2.sh I3;let m:=L.row.length+1;have hp':p<=L.row.length:=h.lk.row▸hp;obtain ⟨Z4,q⟩:=t3.ins (k:=k) hp' (show L.row.length<=50000 from h.lk.row▸b2 h.sf.rl hT);refine an3 q λkb4 e4 t4=>?_;obtain ⟨Z5,e5,t5⟩:=t4.note (k:=k) (x:=Ni) (w:=.str NN) hkL 2 _ λz z z z=>rfl;obtain ⟨Z6,e6',t6⟩:=t5.note (k:=k) (x:=Nt) (w:=.int m) hkL _ m λz z z z=>rfl;replace t6:Tw xs F (S.keep k p) P' (L.lk k p) Q Z6:=t6;have lr5:biV ns .len (.ref (Q.A (.b 3))) Z5=.ok (.int m) Z5:=(eQ t5.l).trans (by show R.ok (V.int ((bS L.row p k).length:Nat)) Z5=_;exact gw (kU ..) rfl);have hd6:(L.lk k p).d k={ L.d k with st:=2,kat:=m }:=L.lk_at k p;have w6:=t6.l.d 1 (by decide) hkL;replace w6:=hd6▸w6;have kE:=h.sl k hk;let own:=put [] (L.d k).ws;have e7:=h20 w6 (b2 kE.1.ws hT);let Z7:=Z6++[O.dict own];have t7:=t6.gr (Gr.app Z6 [O.dict own]);have fr7:Fr F (L.lk k p) Q Z6.length:=t6.l.fr (zf _);have frS:Fr F (S.keep k p) P' Z6.length:=t6.s.fr (zf _);have a7:Z7[Z6.length]?=some (.dict own):=aE Z6 _;have JJ8:Lv xs (mx (L.lk k p) Q (Z7.set Z6.length (.fro own))) (L.lk k p) Q (Z7.set Z6.length (.fro own)):=(t7.l.put fr7 (.fro own)).mx;have hl:mx (L.lk k p) Q (Z7.set Z6.length (.fro own)) Z6.length=some (.fro own):=by
   unfold mx;exact gw (Ub (λq_0=>by obtain ⟨c,lc,e⟩:=q_0;exact fr7.ne c lc e)) (eZ a7 _)
  have ol:own.length<=20000:=za (iE _ []) (za (zu (zp _)) (za kE.1.ws hT));refine ex3 (a1a (ns:=ns) (C:=C) (k:=k) (own:=own) (g:=λx=>(lw (L.d k).ws x).getD .none) (r0:=some (sh P)) (r1:=rF (Q.A (.b 2))) (r4:=rI k) (r5:=some (ld Q k)) (r6:=rI p) (r7:=rI p) (r8:=.none) (r10:=.none) JJ8 hl (λx q=>a2o _ q) (m6 _ [] um) (h.lk.hh h.sf) (show L.names.Nodup from h.lk.names▸h.sf.nn) (za (yy (show L.names.length<=137 from h.lk.names▸za (j0 h.sf.nn h.sf.nx) hz) ol) (by decide)) (λx=>by show (L.I x).length<=_;exact gw (h.lk.I ..) (za (h.sf.hl x) (za hT (by decide)))) hkL (by refine gw hd6 ?_;show m=(bS L.row p k).length;exact gw (kU ..) rfl)) λZ8 Q' o q_h=>?_;refine an3 q_h λhF JJ9 hq=>?_;have t9:=t7.lw (JJ9.thaw fr7.ne a7);have hsK:evS ns C [some (sh P),rF (Q.A (.b 2)),rF (Q.A (.b 1)),rF (Q.A (.b 3)),rI k,some (ld Q k),rI p,rI p,.none,rF Z6.length,.none] Z7 (.Z 10 (.keys (.v 9)) a8k)=.ok .next [some (sh P),rF (Q.A (.b 2)),rF (Q.A (.b 1)),rF (Q.A (.b 3)),rI k,some (ld Q k),rI p,rI p,.none,rF Z6.length,o] (Z8.set Z6.length (.dict own)):=by
   show RS.ofE (onW Z6.length (λkvs=>λZ=>R.ok (It.keys Z6.length kvs 0,kvs.length) (Z.set Z6.length (.fro kvs))) Z7) _ (λp Z'=>RS.thaw p.1 (forLoop (dH 10) (λJ Z=>aH ns C J Z a8k) p.2 p.1 _ Z'))=_;refine gw (mQ a7 ..) ?_;show RS.thaw (It.keys Z6.length own 0) (forLoop _ _ _ _ _ _)=_;refine gw hF ?_;show RS.ok .next _ (jL Z8 Z6.length)=_;exact gw (tL (JJ9.kept fr7.ne (eZ a7 _)).1 ..) rfl
  have hB:aH ns C [some (sh P),rF (Q.A (.b 2)),rF (Q.A (.b 1)),rF (Q.A (.b 3)),rI k,some (ld Q k),rI p,.none,.none,.none,.none] Z2 [.a 7 (.u (.v 0) NJ [(.v 4)])]=.ok .next [some (sh P),rF (Q.A (.b 2)),rF (Q.A (.b 1)),rF (Q.A (.b 3)),rI k,some (ld Q k),rI p,rI p,.none,.none,.none] Z3:=aA (aV rfl lo rfl ek) rfl aI;have cK:Ev ns C [some (sh P),rF (Q.A (.b 2)),rF (Q.A (.b 1)),rF (Q.A (.b 3)),rI k,some (ld Q k),rI p,rI p,.none,.none,.none] (.or [(.g .is (.v 6) (.k V.none)),(.not (.call 11 [(.v 7)])),(.g .ne (.v 7) (.v 6))]) Z3 (.bool false) Z3:=orF rfl (orF (cE (aG rfl (h11 p Z3)) rfl) (or1 (aM rfl rfl ((neI _ _).trans (gw (Uc rfl) rfl)))));have fin:aH ns C [some (sh P),rF (Q.A (.b 2)),rF (Q.A (.b 1)),rF (Q.A (.b 3)),rI k,some (ld Q k),rI p,rI p,.none,rF Z6.length,.none] Z7 (gT.body.drop 9)=.ok (.ret (.bool true)) _ (Z8.set Z6.length (.dict own)):=cL.trans (aB hsK (aP rfl));refine K ⟨⟨F,S.keep k p,P',(L.lk k p).more k (λx=>(lw (L.d k).ws x).getD .none) (keysOf own),Q'⟩,_,aN (fn:=gT) rfl (A1 (aBg hB (aL cK (b5 (fZ rfl kb4 rfl e4) (iR rfl rfl rfl e5 (iR (bD rfl lr5) rfl rfl e6' (aA (aG (a9 (aK rfl rfl (gZ t6.l hkL))) e7) rfl fin))))))),⟨t9,h.sf.keep hk ho,?_,λj hj=>?_,sim.trans h.a0,λj=>(hq j).trans (h.aq j)⟩,rfl,λz z e=>e⟩
  ·refine ⟨h.lk.n,?_,?_,?_,λj hj=>?_⟩
   ·show bS L.row p k=bS S.row p k;exact gw (h.lk.row ..) rfl
   ·show a8 L.names (kys (L.d k).ws)=a8 S.names (kys (S.d k).ws);exact gw (h.lk.names ..) (gw (l.ws ..) rfl)
   ·show dM (L.lk k p) k _ (kys (L.d k).ws)=_;funext x;unfold dM;refine gw hd6 ?_;show (if x∈kys (L.d k).ws then L.I x++[(L.row.length+1,(lw (L.d k).ws x).getD .none)] else L.I x)=if x∈kys (S.d k).ws then S.I x++[(S.row.length+1,(lw (S.d k).ws x).getD .none)] else S.I x;exact gw (l.ws ..) (gw (h.lk.I ..) (gw (h.lk.row ..) rfl))
   ·show Ll ((S.setD k { S.d k with st:=2,kat:=S.row.length+1 }).d j) ((L.lk k p).d j);by_cases e:j=k
    ·subst e;exact gw (S.setD_at ..) (gw hd6 ⟨l.start,rfl,Uf (·.length+1) h.lk.row,l.ws,l.seen,l.O⟩)
    ·exact gw (S.setD_ne _ e ..) (gw (L.lk_ne p e) (h.lk.d j hj))
  ·show Sk xs ((L.lk k p).d j) _/\∀v∈((L.lk k p).d j).said,_;by_cases e:j=k
   ·subst e;exact gw hd6 ⟨(kE.1.mono (yi T)).st,kE.2⟩
   ·exact gw (L.lk_ne p e) ⟨(h.sl j hj).1.mono (yi T),(h.sl j hj).2⟩
end
noncomputable abbrev a4b(f:Fu):Prop:=∀{G:Fz}{S:St}{P:Pl}{Z:H},Inv G S P Z->S.n<=50000->∃P' Z',f [sh P] Z=.ok (.int S.n) Z'/\P.Sim P'/\Inv G S.beg P' Z'
noncomputable def pm:Nat->Nat
 | 0=>0 | 1=>1 | 2=>4 | 3=>2 | _=>3
noncomputable def pi:Nat->Nat
 | 0=>0 | 1=>1 | 2=>3 | 3=>4 | _=>2
noncomputable def Pl.nw(Q:Pl)(b n:Nat):Pl where
 A:=λc=>match c with
  | .d j k=>if k=n then b+pm j else Q.A (.d j k)
  | c=>Q.A c
 ow:=λi=>if i<b then Q.ow i else .d (pi (i-b)) n
section
variable{ns:List Int}{C:Calls}{J J':Env}{Z Z' Z1 Z2:H}{xs:List (List Nat)}{A:Ad}{W:Wl}{S L:St}{T k:Nat}{G:Fz}{Q:Pl}
theorem Iv.begL(JJ:Lv xs G L Q Z):Lv xs G L.beg (Q.nw Z.length L.n) ((Z++[O.dict (lwE L.row.length 0 0 (Z.length+1) (Z.length+4) (Z.length+2) (Z.length+3)),.list [],.list [],.list [],.list []]).set (Q.A (.b 2)) (.list ((zs L.n).map (λk=>ld Q k)++[.ref Z.length]))):=by
 have off:∀{j k:Nat},k≠L.n->(Q.nw Z.length L.n).A (.d j k)=Q.A (.d j k):=λh=>Ub h;have on:∀{j:Nat},(Q.nw Z.length L.n).A (.d j L.n)=Z.length+pm j:=Ua rfl;have ow:∀{c},dU L c->(Q.nw Z.length L.n).ow (Q.A c)=c:=λ{c} l=>(Ua (JJ.lt l)).trans (JJ.c c l).2;refine JJ.step (c₀:=.b 2) (Gr.app Z _) (by show 2<4;decide) rfl (λc lc=>?_) ?_
 ·cases c with
  | b j=>exact .inl ⟨lc,rfl,ow (c:=.b j) lc,λq=>(lS (S:=L) (S':=L.beg) (q:=2) (λe=>q (by exact gw e rfl)) lc (.inr rfl) (.inl rfl) (.inr rfl)).trans (n9 (S:=L) (P:=Q) (P':=Q.nw Z.length L.n) (λz=>rfl) (λk hk=>off (yq hk)) (λz z=>rfl) j)⟩
  | h x=>exact .inl ⟨lc,rfl,ow (c:=.h x) lc,λz=>rfl⟩
  | d j k=>
   obtain ⟨h1,h2⟩:=lc;have h2:k<L.n+1:=h2;by_cases e:k=L.n
   ·subst e;refine .inr ?_;refine gw on ?_;refine ⟨zt _ _,?_,?_⟩
    ·show _=some (iC (lwK xs) (L.beg.d L.n) (Q.nw Z.length L.n) L.n j);refine gw (show L.beg.d L.n=dl0 L.row.length from L.setD_at _ _) (gw (zv (zt _ _) ..) (gw (xe ..) ?_));refine below (motive:=λj=>[O.dict (lwE L.row.length 0 0 (Z.length+1) (Z.length+4) (Z.length+2) (Z.length+3)),.list [],.list [],.list [],.list []][pm j]?=some (iC (lwK xs) (dl0 L.row.length) (Q.nw Z.length L.n) L.n j)) h1 ⟨⟨⟨⟨⟨trivial,?_⟩,rfl⟩,rfl⟩,rfl⟩,rfl⟩;show some (O.dict (lwE _ _ _ _ _ _ _))=some (O.dict (lwE _ _ _ ((Q.nw Z.length L.n).A (.d 1 L.n)) ((Q.nw Z.length L.n).A (.d 2 L.n)) ((Q.nw Z.length L.n).A (.d 3 L.n)) ((Q.nw Z.length L.n).A (.d 4 L.n))));exact gw on (gw on (gw on (gw on rfl)))
    ·show (if Z.length+pm j<Z.length then _ else Cell.d (pi (Z.length+pm j-Z.length)) L.n)=_;exact gw (Ub (yf.mpr (zt _ _)) ..) (gw (xe ..) (below (motive:=λj=>Cell.d (pi (pm j)) L.n=.d j L.n) h1 ⟨⟨⟨⟨⟨trivial,rfl⟩,rfl⟩,rfl⟩,rfl⟩,rfl⟩))
   ·have hl:k<L.n:=xm (yz h2) e;refine .inl ⟨⟨h1,hl⟩,off e,ow (c:=.d j k) ⟨h1,hl⟩,λz=>?_⟩;show iC (lwK xs) (L.beg.d k) _ k j=_;exact gw (show L.beg.d k=L.d k from L.setD_ne _ e) (kR λz i z z=>off e)
 ·show O.list _=.list ((zs (L.n+1)).map λk=>V.ref ((Q.nw Z.length L.n).A (.d 0 k)));refine gw (fx ..) (gw (xc ..) ?_);congr 2
  ·exact xz λk q=>gw (off (yq (xw.mp q)) ..) rfl
  ·show _=[V.ref ((Q.nw Z.length L.n).A (.d 0 L.n))];rw [on];rfl
noncomputable abbrev lD(f:Fu):Prop:=∀{xs:List (List Nat)}{A:Ad}{W:Wl}{T:Nat}{Z:H},Ok xs A W T Z->T<=20000 ->
 ∃W' Z',f [A.sh,.ref (A.q 2),.ref (A.q 3)] Z=.ok (.bool true) Z'/\Ok xs A W' (T+1) Z'/\W'.S.n=W.S.n+1/\(W'.S.d W.S.n).st=0/\W.Le W'
theorem a3w(hm:C.U=aJ T0)(h11:∀i Z,C.call 11 [.int i] Z=.ok (.bool true) Z)(h49:a4b (C.call 49)):lD (evF ns C mW):=λ{xs A W T Z} h hT=>by
 refine cps λG' K=>?_;obtain rfl:=h.ad;obtain ⟨F,S,P,L,Q⟩:=W;refine ex2 (h49 h.tw.s.mx (b2 h.sf.nl hT)) λP' Z1 q_h=>?_;refine an3 q_h λe1 sim I1=>?_;have t1:=h.tw.sh I1;have t2:=t1.lw t1.l.mx.begL;have lo:C.U (sh P) [98,101,103,105,110] Z=.ok 49 Z:=aY hm (h.tw.s.b 0 (by decide)) rfl rfl;let J1:Env:=[some (sh P),rF (Q.A (.b 2)),rF (Q.A (.b 3)),rI S.n];let τ:H:=[O.dict (lwE L.row.length 0 0 (Z1.length+1) (Z1.length+4) (Z1.length+2) (Z1.length+3)),.list [],.list [],.list [],.list []];have t1':=t1.gr (Gr.app Z1 [O.dict []]);have nl:∀(t:H),Ev ns C J1 (.list []) (Z1++[O.dict []]++t) (.ref (Z1.length+1+t.length)) (Z1++[O.dict []]++(t++[.list []])):=λt=>j7 t _;have ed:Ev ns C J1 (.dict [Na,Ni,Nf,Ny,Np,Nt,Nv] [(.bi .len (.v 2)),(.k (V.str Ng)),(.list []),(.list []),(.list []),(.k (V.int 0)),(.list [])]) Z1 (.ref Z1.length) (Z1++τ):=by
  have es:Evs ns C J1 [(.bi .len (.v 2)),(.k (V.str Ng)),(.list []),(.list []),(.list []),(.k (V.int 0)),(.list [])] (Z1++[O.dict []]) [.int L.row.length,.str Ng,.ref (Z1.length+1),.ref (Z1.length+2),.ref (Z1.length+3),.int 0,.ref (Z1.length+4)] (Z1++[O.dict []]++[.list [],.list [],.list [],.list []]):=
   aQ (bD rfl (eQ t1'.l)) (aQ rfl (aQ ((Uf (evE ns C J1 (.list [])) (yw (Z1++[O.dict []])).symm).trans (nl [])) (aQ (nl [_]) (aQ (nl [_,_]) (aQ rfl (a9 (nl [_,_,_])))))))
  refine bI (a:=.ref Z1.length) (Z':=Z1++[O.dict []]) rfl (bI es ?_);show onW Z1.length (λkvs=>match kvs with | []=>(fN Z1.length (lwE L.row.length 0 0 (Z1.length+1) (Z1.length+4) (Z1.length+2) (Z1.length+3))).bnd λz=>M.ret (V.ref Z1.length) | _::_=>stuck) (Z1++[O.dict []]++[.list [],.list [],.list [],.list []])=_;refine gw (mQ (tF Z1 _ _) ..) ?_;show ((fN Z1.length _).bnd λz=>M.ret (V.ref Z1.length)) _=_;refine bI (a:=.none) (Z':=Z1++[O.dict (lwE L.row.length 0 0 (Z1.length+1) (Z1.length+4) (Z1.length+2) (Z1.length+3))]++[.list [],.list [],.list [],.list []]) ?_ ?_
  ·unfold fN;rw [Ua (by show 7<=lim;decide),tK]
  ·show R.ok (V.ref Z1.length) (Z1++_++_)=_;exact gw (zh ..) rfl
 have d2:Z1[Q.A (.b 2)]?=some (.list ((zs L.n).map λk=>ld Q k)):=t1.l.b 2 (by decide);have ea:meV (.ref (Q.A (.b 2))) .append [.ref Z1.length] (Z1++τ)=.ok .none ((Z1++τ).set (Q.A (.b 2)) (.list ((zs L.n).map (λk=>ld Q k)++[.ref Z1.length]))):=kY ((Gr.app Z1 τ).at d2) (gw (zb ..) (gw (we ..) (gw (h.lk.n ..) (lm1 (za (b2 h.sf.nl hT) (by decide))))));generalize hσ2:(Z1++τ).set (Q.A (.b 2)) (.list ((zs L.n).map (λk=>ld Q k)++[.ref Z1.length]))=Z2 at t2 ea;have ll:biV ns .len (.ref (Q.A (.b 2))) Z2=.ok (.int ((L.n+1:Nat):Int)) Z2:=gP t2.l;have wC:((L.n+1:Nat):Int)-1=(S.n:Int):=gw (h.lk.n ..) (je (S.n:Int) 1);refine K ⟨⟨F,S.beg,P',L.beg,Q.nw Z1.length L.n⟩,Z2,aN (fn:=mW) rfl (aA (aV rfl lo rfl e1) rfl (b5 (fZ rfl (kL d2 rfl) (a9 ed) ea) (aP (hU (aG rfl (h11 _ Z2)) (jR (aM rfl (bB (bD rfl ll) rfl rfl) ((eqI _ _).trans (by rw [wC,Uc rfl])))))))),⟨t2,h.sf.beg,?_,λj hj=>?_,sim.trans h.a0,λj=>h.aq j⟩,rfl,Uf Dl.st (S.setD_at S.n _),λz z e=>e⟩
 ·refine ⟨Uf (·+1) h.lk.n,h.lk.row,h.lk.names,h.lk.I,λj hj=>?_⟩;by_cases e:j=S.n
  ·rw [e,show S.beg.d S.n=_ from S.setD_at _ _,show L.beg.d S.n=dl0 L.row.length by rw [←h.lk.n];exact L.setD_at _ _,h.lk.row];exact Ll.refl
  ·rw [show S.beg.d j=_ from S.setD_ne _ e,show L.beg.d j=_ from L.setD_ne _ (h.lk.n▸e)];exact h.lk.d j (xm (yz hj) e)
 ·by_cases e:j=S.n
  ·rw [e,show L.beg.d S.n=dl0 L.row.length by rw [←h.lk.n];exact L.setD_at _ _];exact ⟨⟨yj _,yj _,yj _,yj _,λz hp=>Ue hp yl⟩,λz hp=>Ue hp yl⟩
  ·refine gw (show L.beg.d j=_ from L.setD_ne _ (h.lk.n▸e)) ?_;have q:=h.sl j (xm (yz hj) e);exact ⟨q.1.mono (yi T),q.2⟩
end
section
variable{ns:List Int}{C:Calls}{J J':Env}{Z Z' Z1 Z2:H}{xs:List (List Nat)}{A:Ad}{W:Wl}{S L:St}{T k a b:Nat}{G F:Fz}{P Q:Pl}{ys:List V}
theorem Fr.upd{o:O}(f:Fr F S P b)(h:b≠a):Fr (upd F a o) S P b:=⟨f.ne,(jS F o h).trans f.no⟩
theorem sU{o:O}(h:F a=.none){i:Nat}{x:O}(e:F i=some x):upd F a o i=some x:=(jS F o (λw=>by replace e:=h▸w▸e;cases e)).trans e
theorem Ok.fz{o:O}(h:Ok xs A W T Z)(f:Fr W.F W.S W.P a)(f':Fr W.F W.L W.Q a)(ha:Z[a]?=some o):Ok xs A { W with F:=Mine.Internal.L11.upd W.F a o } T Z:=
 ⟨h.tw.fz f f' ha,h.sf,h.lk,λk hk=>⟨(h.sl k hk).1,λv hv=>((h.sl k hk).2 v hv).upd f.no⟩,h.a0,h.aq⟩
theorem Ok.held(h:Ok xs A W T Z)(hk:k<W.S.n)(ha:Z[a]?=some (.list ys))(hb:Z[b]?=some (.list ys))(hab:b≠a)(fa:Fr W.F W.S W.P a)(fa':Fr W.F W.L W.Q a)(fb:Fr W.F W.S W.P b)(fb':Fr W.F W.L W.Q b)(hf:ys.all nQ=true)(hz:ys.length<=50000):
  ∃W',Ok xs A W' (T+1) (Z.set (W.Q.A (.d 2 k)) (.list ((W.L.d k).said++[.tup [.ref a,.ref b]])))/\W.Sto W'/\W'.S=W.S:=by
 have h2:=(h.fz fa fa' ha).fz (fb.upd hab) (fb'.upd hab) hb;have hkL:=h.lk.lt hk;have t3:=h2.tw.lw (h2.tw.l.mx.said hkL (.tup [.ref a,.ref b]));have kE:=h2.sl k hk;have l:=h.lk.d k hk;refine ⟨⟨upd (upd W.F a (.list ys)) b (.list ys),W.S,W.P,W.L.setD k { W.L.d k with said:=(W.L.d k).said++[.tup [.ref a,.ref b]] },W.Q⟩,⟨t3,h.sf.mono (yi T),⟨h.lk.n,h.lk.row,h.lk.names,h.lk.I,λj hj=>?_⟩,a1y h2.sl (yi T) ⟨⟨za (zu (bH ..)) (zw kE.1.said),zn kE.1.ws,zn kE.1.seen,zn kE.1.O,kE.1.nm⟩,λv hv=>(yh.mp hv).elim (kE.2 v) λq=>⟨a,b,ys,ze.mp q,(jS _ _ (Ne.symm hab)).trans (lG ..),lG ..,hf,hz⟩⟩,h.a0,h.aq⟩,⟨rfl,λz=>rfl,λi o e=>sU ((jS _ _ hab).trans fb.no) (sU fa.no e)⟩,rfl⟩;show Ll (W.S.d j) ((W.L.setD k _).d j);by_cases e:j=k
 ·subst e;exact gw (W.L.setD_at ..) ⟨l.start,l.st,l.kat,l.ws,l.seen,l.O⟩
 ·exact gw (W.L.setD_ne _ e ..) (h.lk.d j hj)
theorem oW(h:ys.all nQ=true):leq ys ys=some true:=by unfold leq;exact gw (Ua rfl ..) (gw (Ua ⟨rfl,h⟩ ..) rfl)
theorem xR(l:List Nat):(iV l).all nQ=true:=wt.mpr λv hv=>by obtain ⟨x,_,rfl⟩:=vu.mp hv;rfl
theorem a6r(l:List (Nat×Option Int)):(hV l).all nQ=true:=wt.mpr λv hv=>by obtain ⟨⟨n,t⟩,_,rfl⟩:=vu.mp hv;cases t <;> rfl
theorem lY(JJ:Lv xs G L Q Z)(hk:k<L.n):Z[Q.A (.d 2 k)]?=some (.list (L.d k).said):=JJ.d 2 (by decide) hk
theorem yY{e1 e2:E}{d w:Nat}(h:Ok xs A W T Z)(hk:k<W.S.n)(hT:T<=20000)(h1:J[d]?=some (rF (W.Q.A (.b 2))))(h2:J[w]?=some (rI k))(he1:Ev ns C J e1 Z (.ref a) Z)(he2:Ev ns C J e2 Z (.ref b) Z1)(g:Gr Z Z1):
  Ev ns C J (.me (.i (.i (.v d) (.v w)) (.k (V.str Nv))) .append [(.tup [e1,e2])]) Z .none (Z1.set (W.Q.A (.d 2 k)) (.list ((W.L.d k).said++[.tup [.ref a,.ref b]]))):=by
 have hkL:=h.lk.lt hk;have JJ:=h.tw.l;exact fZ (aK (aK (cY h1) (cY h2) (cD JJ hkL)) rfl (xB JJ hkL)) (kL (lY JJ hkL) rfl) (a9 (eV (bW he1 he2) rfl)) (kY (g.at (lY JJ hkL)) (lm1 (za (b2 (h.sl k hk).1.said hT) (by decide))))
noncomputable abbrev gC(f:List V->H->R V)(as:Ad->Nat->List V):Prop:=∀{xs:List (List Nat)}{A:Ad}{W:Wl}{T:Nat}{Z:H}{k:Nat},Ok xs A W T Z->T<=20000->k<W.S.n->∃W' Z',f (as A k) Z=.ok (.bool true) Z'/\Ok xs A W' (T+1) Z'/\W.Sto W'
theorem p9(hm:C.U=aJ T0)(h59:∀{G:Fz}{S:St}{P:Pl}{Z:H},Inv G S P Z->S.row.length<=50000->C.call 59 [sh P] Z=.ok (.ref Z.length) (Z++[.list (iV S.row)]))(h60:∀{G:Fz}{S:St}{P:Pl}{Z:H},Inv G S P Z->C.call 60 [sh P] Z=.ok (.int S.row.length) Z):
  gC (evF ns C g9) λA k=>[A.sh,.ref (A.q 2),.ref (A.q 3),.int k]:=λ{xs A W T Z k} h hT hk=>by
 refine cps λG' K=>?_;obtain rfl:=h.ad;obtain ⟨F,S,P,L,Q⟩:=W;have rz:S.row.length<=50000:=b2 h.sf.rl hT;have e1:=h59 h.tw.s rz;let Z1:=Z++[O.list (iV S.row)];let Z2:=Z1++[O.list (iV S.row)];have h1:Ok xs _ _ T Z1:=h.gr (Gr.app Z _);have h2:Ok xs _ _ T Z2:=h1.gr (Gr.app Z1 _);have r1:Z1[Q.A (.b 3)]?=some (.list (iV S.row)):=h.lk.row▸h1.tw.l.b 3 (by decide);have f:∀{a},Z.length<=a->Fr F S P a/\Fr F L Q a:=λq=>⟨h.tw.s.fr q,h.tw.l.fr q⟩;have l1:Z1.length=Z.length+1:=bH _ _;have fa:=f (zf _);have fb:=f (a:=Z1.length) (l1▸yi _);obtain ⟨W',q_h⟩:=(h2.held (k:=k) (a:=Z.length) (b:=Z1.length) hk ((Gr.app Z1 _).at (aE Z _)) (aE Z1 _) (l1▸uo _) fa.1 fa.2 fb.1 fb.2 (xR _) (gw (fP ..) rz));refine an3 q_h λo3 s3 z=>?_;have eh:=yY (ns:=ns) (C:=C) (J:=[some (sh P),rF (Q.A (.b 2)),rF (Q.A (.b 3)),rI k,rF Z.length]) (d:=1) (w:=3) (e1:=.v 4) (e2:=.bi .list (.v 2)) (a:=Z.length) (b:=Z1.length) h1 hk hT rfl rfl rfl (bD rfl (qJ r1 (gw (fP ..) rz))) (Gr.app Z1 _);have lo:∀{Z n i},Inv F S P Z->((T0.cls[1]?).bind λp=>p.2.lookup n)=some i->aW (shE (P.A (.b 1)) (P.A (.b 2)) (P.A (.b 3))) n=.none->C.U (sh P) n Z=.ok i Z:=λI h h'=>aY hm (I.b 0 (by decide)) h' h;refine K ⟨W',_,aN (fn:=g9) rfl (aA (aV rfl (lo h.tw.s rfl rfl) rfl e1) rfl (aL (orF (cE (tR rfl (isL (aE Z _))) rfl) (orF (aM rfl rfl (eqL (aE Z _) r1 (oW (xR _)))) (or1 (aM (aV rfl (lo h1.tw.s rfl rfl) rfl (h60 h1.tw.s)) (bD rfl (nT r1)) ((neI _ _).trans (gw (fP ..) (gw (Uc rfl ..) rfl))))))) (b5 eh (aP rfl)))),o3,s3⟩
theorem pT(hm:C.U=aJ T0)(h11:∀i Z,C.call 11 [.int i] Z=.ok (.bool true) Z)(h61:∀{G:Fz}{S:St}{P:Pl}{Z:H}{k:Nat},Inv G S P Z->k<S.n->C.call 61 [sh P,.int k] Z=.ok (.str (iL (S.d k).st)) Z)(h53:∀{G:Fz}{S:St}{P:Pl}{Z:H}{k:Nat},Inv G S P Z->k<S.n->(S.d k).st=0->C.call 53 [sh P,.int k] Z=.ok (.int (S.d k).ws.length) Z):
  gC (evF ns C cB) λA k=>[A.sh,.ref (A.q 2),.int k]:=λ{xs A W T Z k} h hT hk=>by
 obtain rfl:=h.ad;obtain ⟨F,S,P,L,Q⟩:=W;have hkL:k<L.n:=h.lk.lt hk;have JJ:=h.tw.l;have l:=h.lk.d k hk;have lo:∀{n i},((T0.cls[1]?).bind λp=>p.2.lookup n)=some i->aW (shE (P.A (.b 1)) (P.A (.b 2)) (P.A (.b 3))) n=.none->C.U (sh P) n Z=.ok i Z:=λh' h''=>aY hm (h.tw.s.b 0 (by decide)) h'' h';have em:=pD (ns:=ns) JJ hkL;replace em:=(l.st ..)▸em;refine ⟨_,Z,?_,h.mono (yi T),.refl⟩;have A1:∀{R:RS},aH ns C [some (sh P),rF (Q.A (.b 2)),rI k,rS (iL (S.d k).st),.none] Z (cB.body.drop 2)=R->aH ns C [some (sh P),rF (Q.A (.b 2)),rI k,.none,.none] Z cB.body=R:=λq=>
  aA (aV rfl (lo rfl rfl) rfl (h61 h.tw.s hk)) rfl (aL (orF (cE (tR rfl rfl) rfl) (or1 (aM rfl (aK (aK rfl rfl (cD JJ hkL)) rfl em) ((neS _ _).trans (gw (Uc rfl ..) rfl))))) q)
 have c:Ev ns C [some (sh P),rF (Q.A (.b 2)),rI k,rS (iL (S.d k).st),.none] (.g .ne (.v 3) (.k (V.str Ng))) Z (.bool (!decide ((S.d k).st=0))) Z:=(aM rfl rfl (neS _ _)).trans (gw (iM ..) rfl);by_cases ho:(S.d k).st=0
 ·replace c:=(Uc ho ..)▸c;exact aN (fn:=cB) rfl (A1 (aL c (aA (aV rfl (lo rfl rfl) rfl (h53 h.tw.s hk ho)) rfl (aP (hU (aG rfl (h11 _ Z)) (jR (aM rfl (bD (aK (aK rfl rfl (cD JJ hkL)) rfl (gZ JJ hkL)) (sM JJ hkL)) ((eqI _ _).trans (gw (l.ws ..) (gw (Uc rfl ..) rfl))))))))))
 ·replace c:=(Ud ho ..)▸c;exact aN (fn:=cB) rfl (A1 (bU c (aU (aP rfl))))
end
section
variable{ns:List Int}{C:Calls}{J J':Env}{Z Z' Z1 Z2:H}{xs:List (List Nat)}{A:Ad}{W W' W'':Wl}{S L:St}{T k a b:Nat}{G F:Fz}{P Q:Pl}{ys:List V}{x:List Nat}
theorem Wl.Sto.tr(h:W.Sto W')(h':W'.Sto W''):W.Sto W'':=⟨h'.1.trans h.1,λj=>(h'.2.1 j).trans (h.2.1 j),λi o e=>h'.2.2 i o (h.2.2 i o e)⟩
noncomputable abbrev aBh(C:Calls):Prop:=∀{G:Fz}{S:St}{P:Pl}{Z:H},Inv G S P Z->(∀x,x∉S.names->S.I x=[])->∀{x:List Nat},Nm x->(S.I x).length<=50000->∃l Z',C.call 64 [sh P,.str x] Z=.ok (.ref l) Z'/\Gr Z Z'/\Z'[l]?=some (.list (hV (S.I x)))/\Z.length<=l
noncomputable abbrev a4s(C:Calls):Prop:=∀{G:Fz}{S:St}{P:Pl}{Z:H},Inv G S P Z->(∀x,x∉S.names->S.I x=[])->∀{x:List Nat},Nm x->∃Z',C.call 63 [sh P,.str x] Z=.ok (val (amv (S.I x) S.row.length)) Z'/\Gr Z Z'
theorem pA(hm:C.U=aJ T0)(h18:wA C)(h22:wN C)(h32:∀{Z:H}{a b:Nat}{l:List (Nat×Option Int)},Z[a]?=some (.list (hV l))->Z[b]?=some (.list (hV l))->l.length<=50000->C.call 32 [.ref a,.ref b] Z=.ok (.bool true) Z)(h63:a4s C)(h64:aBh C)(hx:Nm x):
  gC (evF ns C f8) λA k=>[A.sh,.ref (A.q 2),.ref (A.q 1),.ref (A.q 3),.int k,.str x]:=λ{xs A W T Z k} h hT hk=>by
 refine cps λG' K=>?_;obtain rfl:=h.ad;obtain ⟨F,S,P,L,Q⟩:=W;have hz:(S.I x).length<=50000:=b2 (h.sf.hl x) hT;refine ex2 (h64 h.tw.s h.sf.hh hx hz) λa Z1 q_h=>?_;refine an4 q_h λe1 g1 a1 ge=>?_;have h1:=h.gr g1;let J1:Env:=[some (sh P),rF (Q.A (.b 2)),rF (Q.A (.b 1)),rF (Q.A (.b 3)),rI k,rS x,rF a];obtain ⟨c,e2,c2⟩:=j5 (ns:=ns) (C:=C) (J:=J1) (e:=.v 2) (i:=5) (n:=x) h1.tw.l (h.lk.hh h.sf) rfl rfl;rw [show L.I=S.I from h.lk.I] at c2;let Z2:=Z1++[O.list []];have h2:=h1.gr (Gr.app Z1 [O.list []]);have a2:Z2[a]?=some (.list (hV (S.I x))):=(Gr.app Z1 _).at a1;let Z3:=Z2++[O.list (hV (S.I x))];have h3:=h2.gr (Gr.app Z2 [O.list (hV (S.I x))]);have l2:a<Z2.length:=(zc.mp a2).1;have f:∀{a},Z.length<=a->Fr F S P a/\Fr F L Q a:=λq=>⟨h.tw.s.fr q,h.tw.l.fr q⟩;have fa:=f ge;have fb:=f (a:=Z2.length) (za ge (yd l2));have hl:(hV (S.I x)).length<=50000:=gw (jP ..) hz;obtain ⟨W',q_h⟩:=(h3.held (k:=k) (a:=a) (b:=Z2.length) hk ((Gr.app Z2 _).at a2) (aE Z2 _) (wq l2) fa.1 fa.2 fb.1 fb.2 (a6r _) hl);refine an3 q_h λo4 s4 z=>?_;have eh:=yY (ns:=ns) (C:=C) (J:=J1) (d:=1) (w:=4) (e1:=.v 6) (e2:=.bi .list (.v 6)) (a:=a) (b:=Z2.length) h2 hk hT rfl rfl rfl (bD rfl (qJ a2 hl)) (Gr.app Z2 _);generalize Z3.set (Q.A (.d 2 k)) (.list ((L.d k).said++[.tup [.ref a,.ref Z2.length]]))=Z4 at o4 eh;have hP:W'.P.A (.b 0)=P.A (.b 0):=o4.a0;have hQ:∀j,W'.Q.A (.b j)=Q.A (.b j):=o4.aq;obtain ⟨Z5,e5,g5⟩:=h63 o4.tw.s o4.sf.hh hx;rw [show sh W'.P=sh P by show V.inst 1 _=_;rw [hP]] at e5;have h5:=o4.gr g5;obtain ⟨d,e6,d6⟩:=j5 (ns:=ns) (C:=C) (J:=J1) (e:=.v 2) (i:=5) (n:=x) h5.tw.l (h5.lk.hh h5.sf) (gw (hQ 1 ..) rfl) rfl;have h6:=h5.gr (Gr.app Z5 [O.list []]);have lr:biV ns .len (.ref (Q.A (.b 3))) (Z5++[O.list []])=.ok (.int W'.L.row.length) (Z5++[O.list []]):=hQ 3▸eQ h6.tw.l;obtain ⟨Z7,e7,g7⟩:=h22 (m:=W'.L.row.length) d6 (gw (h5.lk.I ..) (za (o4.sf.hl x) (za (zw hT) (by decide))));replace e7:=(h5.lk.row ..)▸(h5.lk.I ..)▸e7;replace lr:=(h5.lk.row ..)▸lr;have lo:∀{G S P' Z n i},Inv G S P' Z->P'.A (.b 0)=P.A (.b 0)->((T0.cls[1]?).bind λp=>p.2.lookup n)=some i->aW (shE (P'.A (.b 1)) (P'.A (.b 2)) (P'.A (.b 3))) n=.none->C.U (sh P) n Z=.ok i Z:=λI e h h'=>by
  have:=aY hm (I.b 0 (by decide)) h' h;rwa [e] at this
 have es:C.call 18 [val (amv (W'.S.I x) W'.S.row.length),val (amv (W'.S.I x) W'.S.row.length)] Z7=.ok (.bool true) Z7:=(h18 _ _ Z7).trans (gw (Uc rfl ..) rfl);refine K ⟨W',Z7,aN (fn:=f8) rfl (aA (aV rfl (lo h.tw.s rfl rfl rfl) rfl e1) rfl (aL (cE (aG (bW rfl e2) (h32 a2 c2 hz)) rfl) (b5 eh (aP (aG (bW (aV rfl (lo o4.tw.s hP rfl rfl) rfl e5) (aG (bW e6 (bD rfl lr)) e7)) es))))),h6.gr g7,s4⟩
noncomputable abbrev stB:List Mine.Internal.S:=[.x (.and [(.g .eq (.v 7) (.k (V.int 0))),(.not (.call 33 [(.v 0),(.v 1),(.v 3),(.v 4)]))]) [.dead] [],
  .x (.and [(.g .eq (.v 7) (.k (V.int 1))),(.not (.call 34 [(.v 0),(.v 1),(.v 4)]))]) [.dead] [],
  .x (.and [(.g .eq (.v 7) (.k (V.int 2))),(.not (.call 35 [(.v 0),(.v 1),(.v 2),(.v 3),(.v 4),(.v 5)]))]) [.dead] []]
theorem uU(h33:gC (C.call 33) λA k=>[A.sh,.ref (A.q 2),.ref (A.q 3),.int k])(h34:gC (C.call 34) λA k=>[A.sh,.ref (A.q 2),.int k])(h35:gC (C.call 35) λA k=>[A.sh,.ref (A.q 2),.ref (A.q 1),.ref (A.q 3),.int k,.str x])(h:Ok xs A W T Z)(hT:T<=20000)(hk:k<W.S.n){w:V}{v:Nat}(hv:v<3):
  ∃W' Z',aH ns C [some A.sh,rF (A.q 2),rF (A.q 1),rF (A.q 3),rI k,rS x,some w,rI v] Z stB=.ok .next [some A.sh,rF (A.q 2),rF (A.q 1),rF (A.q 3),rI k,rS x,some w,rI v] Z'/\Ok xs A W' (T+1) Z'/\W.Sto W':=by
 refine below (motive:=λv:Nat=>∃W' Z',aH ns C [some A.sh,rF (A.q 2),rF (A.q 1),rF (A.q 3),rI k,rS x,some w,rI v] Z stB=.ok .next [some A.sh,rF (A.q 2),rF (A.q 1),rF (A.q 3),rI k,rS x,some w,rI v] Z'/\Ok xs A W' (T+1) Z'/\W.Sto W') hv ⟨⟨⟨trivial,?_⟩,?_⟩,?_⟩
 ·refine ex2 (h33 h hT hk) λW' Z' q_h=>?_;refine an3 q_h λe o s=>?_;exact ⟨W',Z',aL (hU rfl (jR (cE (aG rfl e) rfl))) (aL (jU rfl) (aL (jU rfl) aI)),o,s⟩
 ·refine ex2 (h34 h hT hk) λW' Z' q_h=>?_;refine an3 q_h λe o s=>?_;exact ⟨W',Z',aL (jU rfl) (aL (hU rfl (jR (cE (aG rfl e) rfl))) (aL (jU rfl) aI)),o,s⟩
 ·refine ex2 (h35 h hT hk) λW' Z' q_h=>?_;refine an3 q_h λe o s=>?_;exact ⟨W',Z',aL (jU rfl) (aL (jU rfl) (aL (hU rfl (jR (cE (aG rfl e) rfl))) aI)),o,s⟩
noncomputable def way:Nat->List Nat
 | 0=>[0,1,2] | 1=>[1,2,0] | 2=>[2,0,1] | _=>[2,1,0]
theorem aDq{w:Nat}(hw:w<4)(h:J[6]?=some (rI (w:Int))):∃c Z',cX ns C J (.of (.i (.list [(.list [(.k (V.int 0)),(.k (V.int 1)),(.k (V.int 2))]),(.list [(.k (V.int 1)),(.k (V.int 2)),(.k (V.int 0))]),(.list [(.k (V.int 2)),(.k (V.int 0)),(.k (V.int 1))]),(.list [(.k (V.int 2)),(.k (V.int 1)),(.k (V.int 0))])]) (.v 6))) Z=.ok (.list c 0,3) Z'/\Gr Z Z'/\Z.length<=c/\Z'[c]?=some (.list (iV (way w))):=by
 let Z1:=Z++[O.list (iV (way 0))];let Z2:=Z1++[O.list (iV (way 1))];let Z3:=Z2++[O.list (iV (way 2))];let Z4:=Z3++[O.list (iV (way 3))];let Z5:=Z4++[O.list [.ref Z.length,.ref Z1.length,.ref Z2.length,.ref Z3.length]];have l3:∀{n:Nat},n<=10->n<=lim:=λh=>za h (by decide);have e1:Ev ns C J (.list [(.list [(.k (V.int 0)),(.k (V.int 1)),(.k (V.int 2))]),(.list [(.k (V.int 1)),(.k (V.int 2)),(.k (V.int 0))]),(.list [(.k (V.int 2)),(.k (V.int 0)),(.k (V.int 1))]),(.list [(.k (V.int 2)),(.k (V.int 1)),(.k (V.int 0))])]) Z (.ref Z4.length) Z5:=bV (aQ (bV rfl (l3 (by decide))) (b7 (bV (vs:=iV (way 1)) rfl (l3 (by decide))) (bV (vs:=iV (way 2)) rfl (l3 (by decide))) (bV (vs:=iV (way 3)) rfl (l3 (by decide))))) (l3 (by show 4<=10;decide));have g1:Gr Z Z1:=Gr.app Z _;have g2:Gr Z1 Z2:=Gr.app Z1 _;have g3:Gr Z2 Z3:=Gr.app Z2 _;have g4:Gr Z3 Z4:=Gr.app Z3 _;have g5:Gr Z4 Z5:=Gr.app Z4 _;have fin:∀{c:Nat},[V.ref Z.length,.ref Z1.length,.ref Z2.length,.ref Z3.length][w]?=rF c->Z5[c]?=some (.list (iV (way w)))->Z.length<=c->(iV (way w)).length=3->∃c Z',cX ns C J (.of (.i (.list [(.list [(.k (V.int 0)),(.k (V.int 1)),(.k (V.int 2))]),(.list [(.k (V.int 1)),(.k (V.int 2)),(.k (V.int 0))]),(.list [(.k (V.int 2)),(.k (V.int 0)),(.k (V.int 1))]),(.list [(.k (V.int 2)),(.k (V.int 1)),(.k (V.int 0))])]) (.v 6))) Z=.ok (.list c 0,3) Z'/\Gr Z Z'/\Z.length<=c/\Z'[c]?=some (.list (iV (way w))):=λ{c} a b d l=>
  ⟨c,Z5,(bN (aK e1 (cY h) (kZ (aE Z4 _) (zy w) a)) b).trans (gw l rfl),g1.tr (g2.tr (g3.tr (g4.tr g5))),d,b⟩
 refine below (motive:=λw=>(∀{c:Nat},[V.ref Z.length,.ref Z1.length,.ref Z2.length,.ref Z3.length][w]?=rF c->Z5[c]?=some (.list (iV (way w)))->Z.length<=c->(iV (way w)).length=3->_)->_) hw ⟨⟨⟨⟨trivial,λf=>?_⟩,λf=>?_⟩,λf=>?_⟩,λf=>?_⟩ fin
 ·exact f rfl ((g2.tr (g3.tr (g4.tr g5))).at (aE Z _)) (zf _) rfl
 ·exact f rfl ((g3.tr (g4.tr g5)).at (aE Z1 _)) g1.length_le rfl
 ·exact f rfl ((g4.tr g5).at (aE Z2 _)) (g1.tr g2).length_le rfl
 ·exact f rfl (g5.at (aE Z3 _)) (g1.tr (g2.tr g3)).length_le rfl
theorem a7r:∀w,w<4->∀i,i<3->((way w)[i]?).getD 3<3:=by decide
theorem aDt{w i:Nat}(hw:w<4)(hi:i<3):∃v,v<3/\(iV (way w))[i]?=rI (v:Nat):=by
 have h:=a7r w hw i hi;unfold iV;refine gw (yk ..) ?_;cases e:(way w)[i]? with
 | none=>replace h:=e▸h;exact Ue h (by decide)
 | some v=>replace h:=e▸h;exact ⟨v,h,rfl⟩
noncomputable abbrev sQ(f:Fu):Prop:=∀{xs:List (List Nat)}{A:Ad}{W:Wl}{T:Nat}{Z:H}{k w:Nat}{x:List Nat},Ok xs A W T Z->T<=19990->k<W.S.n->Nm x->w<4->∃W' Z',f [A.sh,.ref (A.q 2),.ref (A.q 1),.ref (A.q 3),.int k,.str x,.int w] Z=.ok (.bool true) Z'/\Ok xs A W' (T+3) Z'/\W.Sto W'
theorem a1d(h33:gC (C.call 33) λA k=>[A.sh,.ref (A.q 2),.ref (A.q 3),.int k])(h34:gC (C.call 34) λA k=>[A.sh,.ref (A.q 2),.int k])(h35:∀{x},Nm x->gC (C.call 35) λA k=>[A.sh,.ref (A.q 2),.ref (A.q 1),.ref (A.q 3),.int k,.str x]):sQ (evF ns C lJ):=λ{xs A W T Z k w x} h hT hk hx hw=>by
 refine cps λG' K=>?_;refine ex2 (aDq (ns:=ns) (C:=C) (Z:=Z) (J:=[some A.sh,rF (A.q 2),rF (A.q 1),rF (A.q 3),rI k,rS x,rI w,.none]) hw rfl) λc Z1 q_h=>?_;refine an4 q_h λes g1 gc hc=>?_;have h1:=(h.gr g1).fz (h.tw.s.fr gc) (h.tw.l.fr gc) hc;have le1:W.Sto { W with F:=upd W.F c (.list (iV (way w))) }:=⟨rfl,λz=>rfl,λi o e=>sU (h.tw.s.fr gc).no e⟩;have fc:∀{W':Wl}{T Z},Ok xs A W' T Z->({ W with F:=upd W.F c (.list (iV (way w))) }:Wl).Sto W'->Z[c]?=some (.list (iV (way w))):=λo s=>(o.tw.s.fz c _ (s.2.2 c _ (lG ..))).1;have l3:(iV (way w)).length=3:=below (motive:=λw=>(iV (way w)).length=3) hw ⟨⟨⟨⟨trivial,rfl⟩,rfl⟩,rfl⟩,rfl⟩;obtain ⟨J',Z',hF,⟨o,rfl⟩,W',ok,st⟩:=bR (tgt:=dH 7) (body:=λJ Z=>aH ns C J Z stB) (it:=λi=>.list c i)
  (λi J Z'=>(∃o,J=[some A.sh,rF (A.q 2),rF (A.q 1),rF (A.q 3),rI k,rS x,rI w,o])/\∃W',Ok xs A W' (T+i) Z'/\({ W with F:=upd W.F c (.list (iV (way w))) }:Wl).Sto W') 3
  (λJ Z p=>by obtain ⟨_,W',ok,st⟩:=p;exact l3▸bY (fc ok st))
  (λi J Z' hi p=>by
   obtain ⟨⟨o,rfl⟩,W',ok,st⟩:=p;obtain ⟨v,hv,ev⟩:=aDt hw hi;refine ex2 (uU (ns:=ns) (w:=.int w) h33 h34 (h35 hx) ok (za (yy hT (yd hi)) (by decide)) (st.1.symm▸hk) hv) λW'' Z'' q_h=>?_;refine an3 q_h λe ok' st'=>?_;exact ⟨.int v,_,_,Z'',bE (fc ok st) ev,rfl,e,⟨_,rfl⟩,W'',ok',st.tr st'⟩)
  3 0 [some A.sh,rF (A.q 2),rF (A.q 1),rF (A.q 3),rI k,rS x,rI w,.none] Z1 rfl ⟨⟨_,rfl⟩,_,h1,.refl⟩
 exact K ⟨W',Z',aN (fn:=lJ) rfl (bT es (aB hF (aP rfl))),ok,le1.tr st⟩
end
theorem aEo(c:Nat):max (0:Int) ((c:Int)-1)=((c-1:Nat):Int):=by
 by_cases h:(0:Int)<(c:Int)-1
 ·exact gw (Int.max_eq_right (kn h) ..) (cm1 h)
 ·exact gw (Int.max_eq_left (kj.mp h) ..) (gw (cm0 h ..) rfl)
theorem a1p{d:Nat}{l:List Nat}(h:∀a∈l,a<=d):sB d l=l.foldl min d:=by
 cases l with
 | nil=>rfl
 | cons a r=>show r.foldl min a=r.foldl min (min d a);exact gw (vq (h a zm) ..) rfl
section
variable{ns:List Int}{C:Calls}{J J':Env}{Z Z' Z1 Z2:H}{xs:List (List Nat)}{A:Ad}{W W':Wl}{S L:St}{T k:Nat}{G F:Fz}{P Q:Pl}
noncomputable abbrev svB:List Mine.Internal.S:=[.a 5 (.bi .len (.J (.of (.i (.v 1) (.v 4))) (.v 6) (.g .le (.i (.v 6) (.k (V.int 0))) (.v 2)))),
  .a 3 (.o .add (.v 3) (.mm .mx (.k (V.int 0)) (.o .sub (.v 5) (.k (V.int 1))))),
  .T (.v 1) (.v 4) (.slice (.i (.v 1) (.v 4)) (.mm .mx (.k (V.int 0)) (.o .sub (.v 5) (.k (V.int 1)))) .nil)]
theorem v4(JJ:Lv xs G L Q Z){lk:Nat}(hl:G lk=some (.list (L.names.map V.str)))(hnd:L.names.Nodup)(hs:∀x,(L.I x).length<=50000)(hz:L.names.length<=50000)(t:Nat){r0 r5:Option V}:
  ∃Z' Q' o4 o5,forLoop (dH 4) (λJ Z=>aH ns C J Z svB) (L.names.map V.str).length (.list lk 0) [r0,rF (Q.A (.b 1)),rI (t:Int),rI 0,.none,r5] Z =
   .ok .next [r0,rF (Q.A (.b 1)),rI (t:Int),rI (gon t L L.names:Nat),o4,o5] Z'/\Lv xs G { L with I:=hsw t L L.names } Q' Z'/\∀j,Q'.A (.b j)=Q.A (.b j):=by
 refine cps λG' K=>?_;obtain ⟨J',Z',hF,Q',o4,o5,rfl,JJ',hq⟩:=bR (tgt:=dH 4) (body:=λJ Z=>aH ns C J Z svB) (it:=λi=>.list lk i)
  (λi J' Z'=>∃(Q':Pl) (o4 o5:Option V),J'=[r0,rF (Q.A (.b 1)),rI (t:Int),rI (gon t L (L.names.take i):Nat),o4,o5]/\Lv xs G { L with I:=hsw t L (L.names.take i) } Q' Z'/\∀j,Q'.A (.b j)=Q.A (.b j))
  (L.names.map V.str).length (λJ Z p=>by obtain ⟨_,_,_,_,I,_⟩:=p;exact bY (I.fz lk _ hl).1)
  (λi J' Z' hi p=>by
   refine cps λG' K=>?_;refine ex3 (p) λQ' o4 o5 q_h=>?_;refine an3 q_h λq_3 JJ' hq=>?_;obtain rfl:=q_3;have hi':i<L.names.length:=by replace hi:=(zb ..)▸hi;exact hi
   obtain ⟨x,hx⟩:∃x,x=L.names[i]:=⟨_,rfl⟩;have hxm:x∈L.names:=hx▸xj hi';have hxs:x∉L.names.take i:=λq=>by
    have w:=hnd;replace w:=(xf hi' ..)▸(yb i L.names ..)▸w;exact (wv.mp w).2.2 _ q _ zm hx
   have tk:L.names.take (i+1)=L.names.take i++[x]:=gw hx (bM _ hi');have eh:hsw t L (L.names.take i) x=L.I x:=Ub hxs;have hp:Z'[Q'.A (.h x)]?=some (.list (hV (L.I x))):=bw eh (JJ'.h hxm);have nx:aS (.list lk i) Z'=some (some (.str x,.list lk (i+1))):=bE (JJ'.fz lk _ hl).1 (by refine gw (yk ..) (gw (zg hi' ..) (gw hx ?_));rfl);have gs:=uN (t:=t) tk;generalize hg:gon t L (L.names.take i)=g at *;have ix:∀{Z2:H}{o5 r3:Option V},Gr Z' Z2->Ev ns C [r0,rF (Q.A (.b 1)),rI (t:Int),r3,rS x,o5] (.i (.v 1) (.v 4)) Z2 (.ref (Q'.A (.h x))) Z2:=λg=>by
    exact aK (x:=.ref (Q.A (.b 1))) rfl rfl (bw (hq 1 ..) (nO ((JJ'.gr g).b 1 (by decide)) (by rw [f6 λx=>V.ref (Q'.A (.h x))];exact Ua hxm)))
   obtain ⟨j,hj⟩:∃j,j=cnt t (L.I x)-1:=⟨_,rfl⟩;let Z1:=Z'++[O.list (hV ((L.I x).filter λp=>decide (p.1<=t)))];have e5:Ev ns C [r0,rF (Q.A (.b 1)),rI (t:Int),rI (g:Int),rS x,o5] (.bi .len (.J (.of (.i (.v 1) (.v 4))) (.v 6) (.g .le (.i (.v 6) (.k (V.int 0))) (.v 2)))) Z' (.int (cnt t (L.I x):Nat)) Z1:=bD (vW (elt:=.v 6) (mo:=.v 2) (ix Gr.rfl) hp (λz z=>rfl) (λz=>rfl) (hs x)) ((nT (aE Z' _)).trans (gw (jP ..) rfl));have em:∀{r3:Option V},Ev ns C [r0,rF (Q.A (.b 1)),rI (t:Int),r3,rS x,rI (cnt t (L.I x):Nat)] (.mm .mx (.k (V.int 0)) (.o .sub (.v 5) (.k (V.int 1)))) Z1 (.int (j:Int)) Z1:=(zG rfl (bB rfl rfl rfl) (show mmV .mx (.int 0) (.int ((cnt t (L.I x):Nat)-1:Int)) Z1=.ok (.int (j:Int)) Z1 by show R.ok (V.int (max 0 _)) Z1=_;exact gw (aEo ..) (gw hj rfl)));have hp1:Z1[Q'.A (.h x)]?=some (.list (hV (L.I x))):=(Gr.app Z' _).at hp;have JJ1:=JJ'.gr (Gr.app Z' [O.list (hV ((L.I x).filter λp=>decide (p.1<=t)))]);have JJ3:=JJ1.seth hnd x (p7 t (L.I x));replace JJ3:=(vC hxm hxs tk ..)▸JJ3;have e6:=setD (x:=x) (v:=.ref Z1.length) ((Gr.app Z1 [.list (hV (p7 t (L.I x)))]).at (JJ1.b 1 (by decide))) (lmx (f0 ..) (gw (zb ..) (za hz (by decide))));replace e6:=(hq 1 ..)▸e6;replace K:=hj▸gs▸K;exact K ⟨.str x,_,_,_,nx,rfl,aA e5 rfl (aA (v:=.int ((g+j:Nat):Int)) (bB rfl em rfl) rfl (iR (cJ (ix (Gr.app Z' _)) em rfl (aAr hj hp1 (hs x))) rfl rfl e6 aI)),Q'.growH Z1.length x,_,_,rfl,(bw (hq 1 ..) JJ3),hq⟩)
  (L.names.map V.str).length 0 [r0,rF (Q.A (.b 1)),rI (t:Int),rI 0,.none,r5] Z (zp _) ⟨Q,.none,_,rfl,by
   have:hsw t L (L.names.take 0)=L.I:=funext λx=>Ub yl;exact gw (this ..) JJ,λz=>rfl⟩
 rw [xu (by refine gw (zb ..) ?_;exact zf _)] at JJ' hF;exact K ⟨Z',Q',o4,o5,hF,JJ',hq⟩
theorem a5p(JJ:Lv xs G L Q Z)(hnd:L.names.Nodup)(hs:∀x,(L.I x).length<=50000)(hz:L.names.length<=50000)(hn:L.n<=50000)(m:Nat):
  ∃Q' Z',evF ns C mJ [.ref (Q.A (.b 2)),.ref (Q.A (.b 1)),.int m] Z=.ok (.int (gon ((opn L).foldl min m) L L.names:Nat)) Z'/\(∀j,Q'.A (.b j)=Q.A (.b j))/\Lv xs G { L with I:=hsw ((opn L).foldl min m) L L.names } Q' Z':=by
 refine cps λG' K=>?_;let J1:Env:=[rF (Q.A (.b 2)),rF (Q.A (.b 1)),rI m,rI 0,.none,.none];let Z1:=Z++[O.list [.int m]];have JJ1:=JJ.gr (Gr.app Z [O.list [.int m]]);have d1:Z1[Q.A (.b 2)]?=some (.list ((zs L.n).map λk=>ld Q k)):=JJ1.b 2 (by decide);obtain ⟨Z'',hg,e''⟩:=cG (f:=fIf ns C J1 (.i (.v 6) (.k (V.str Na))) (.g .eq (.i (.v 6) (.k (V.str Ni))) (.k (V.str Ng)))) (it:=λi=>.list (Q.A (.b 2)) i) (·=Z1) (zs L.n) (λk=>ld Q k) (λk=>if decide ((L.d k).st=0) then rI ((L.d k).start) else .none) (gw (we ..) (lm hn)) rfl (λi Z' e=>dQ (e▸d1) i) λk hk Z' e=>by
  subst e;have hk:=xw.mp hk;have hc:Ev ns C (J1++[some (ld Q k)]) (.g .eq (.i (.v 6) (.k (V.str Ni))) (.k (V.str Ng))) Z1 (.bool (decide ((L.d k).st=0))) Z1:=(aM (aK rfl rfl (pD JJ1 hk)) rfl (eqS _ _)).trans (gw (iM ..) rfl);refine ⟨Z1,?_,rfl⟩;cases w:decide ((L.d k).st=0) with
  | true=>exact nD (w▸hc) (aK rfl rfl (nY JJ1 hk))
  | false=>exact mC (w▸hc)
 obtain rfl:=e''.symm;have hoq:(zs L.n).filterMap (λk=>if decide ((L.d k).st=0) then rI ((L.d k).start) else .none)=iV (opn L):=by rw [hY (λk=>decide ((L.d k).st=0)) (λk=>V.int (L.d k).start)];unfold iV opn;exact gw (vt ..) rfl
 replace hg:=(show (zs L.n).length=((zs L.n).map λk=>ld Q k).length from (zb ..).symm)▸hoq▸hg;let Z2:=Z1++[O.list (iV (opn L))];let Z3:=Z2++[O.list (iV (m::opn L))];have ol:(iV (opn L)).length<=50000:=by refine gw (fP ..) ?_;unfold opn;exact gw (zb ..) (za (jo _ _) (gw (we ..) hn))
 have e2:Ev ns C J1 (.o .add (.list [(.v 2)]) (.J (.of (.v 0)) (.i (.v 6) (.k (V.str Na))) (.g .eq (.i (.v 6) (.k (V.str Ni))) (.k (V.str Ng))))) Z (.ref Z2.length) Z3:=bB (bV (vs:=[.int m]) rfl (by show 1<=lim;decide)) (eP (bN rfl d1) hg) (a7v ((Gr.app Z1 _).at (aE Z _)) (aE Z1 _) (za (yg ol 1) (by decide)));have e3:biV ns (.min ()) (.ref Z2.length) Z3=.ok (.int ((opn L).foldl min m:Nat)) Z3:=by
  show onL Z2.length (λxs=>if xs=[] then stuck else bF ((jK xs).map λis=>uV is .none)) Z3=_;refine gw (fO (aE Z2 _) ..) ?_;show (if iV (m::opn L)=[] then stuck else bF ((jK (iV (m::opn L))).map λis=>uV is .none)) Z3=_;refine gw (Ub (λq=>by cases q)) (gw (nB ..) ?_);show R.ok (V.int ((inz (opn L)).foldl min (m:Int))) Z3=_;exact gw (rK ..) rfl
 have g3:Gr Z Z3:=(Gr.app Z _).tr ((Gr.app Z1 _).tr (Gr.app Z2 _));have JJ3:=JJ.gr g3;generalize (opn L).foldl min m=t at *;let Z4:=Z3++[O.list (L.names.map V.str)];have JJ4:=JJ3.gr (Gr.app Z3 [O.list (L.names.map V.str)]);have ls:biV ns .list (.ref (Q.A (.b 1))) Z3=.ok (.ref Z3.length) Z4:=by
  have q:=pU (ns:=ns) (JJ3.b 1 (by decide)) (gw (zb ..) hz);rwa [dZ λx=>V.ref (Q.A (.h x))] at q
 have fr:=JJ3.fr (zf Z3.length);have hlk:mx L Q Z4 Z3.length=some (.list (L.names.map V.str)):=by
  unfold mx;exact gw (Ub λq=>by obtain ⟨c,l,e⟩:=q;exact fr.ne c l e) (aE Z3 _)
 refine ex4 (v4 (ns:=ns) (C:=C) JJ4.mx hlk hnd hs hz t (r0:=rF (Q.A (.b 2))) (r5:=.none)) λZ' Q' o4 o5 q_h=>?_;refine an3 q_h λhF JJ' hq=>?_;exact K ⟨Q',Z',aN (fn:=mJ) rfl (aA rfl rfl (aA (bD e2 e3) rfl (bT (bN (bD rfl ls) (aE Z3 _)) (aB hF (aP rfl))))),hq,JJ4.un JJ'⟩
noncomputable abbrev sC(f:Fu):Prop:=∀{G:Fz}{S:St}{P:Pl}{Z:H}{T:Nat}{xs:List (List Nat)},Inv G S P Z->Sf xs S T->T<=20000->xs.length<=137->∃P' Z',f [sh P] Z=.ok (.int (gon (lst S) S S.names:Nat)) Z'/\P.Eqd P'/\Inv G S.swp P' Z'
theorem a8f:sC (evF ns C dW):=λI F hT hz=>a3g I F.nn (λx=>b2 (F.hl x) hT) (za (za (j0 F.nn F.nx) hz) (by decide)) (b2 F.nl hT)
noncomputable abbrev w0(f:Fu):Prop:=∀{xs:List (List Nat)}{G:Fz}{L:St}{Q:Pl}{Z:H},Lv xs G L Q Z->L.names.Nodup->(∀x,(L.I x).length<=50000)->L.names.length<=50000->L.n<=50000->∀m:Nat,∃Q' Z',f [.ref (Q.A (.b 2)),.ref (Q.A (.b 1)),.int m] Z=.ok (.int (gon ((opn L).foldl min m) L L.names:Nat)) Z'/\(∀j,Q'.A (.b j)=Q.A (.b j))/\Lv xs G { L with I:=hsw ((opn L).foldl min m) L L.names } Q' Z'
theorem Lk.opn(h:Lk S L):opn L=opn S:=by unfold Mine.Internal.L11.opn;refine gw (h.n ..) ?_;have e:(zs S.n).filter (λk=>decide ((L.d k).st=0))=(zs S.n).filter λk=>decide ((S.d k).st=0):=List.filter_congr λk hk=>gw ((h.d k (xw.mp hk)).st ..) rfl;exact gw e (xz λk hk=>(h.d k (xw.mp (jf.mp hk).1)).start)
theorem aCw(hm:C.U=aJ T0)(h38:w0 (C.call 38))(h65:sC (C.call 65))(h:Ok xs A W T Z)(hT:T<=20000)(hz:xs.length<=137):
  ∃W' Z1 Z2 m,C.call 65 [A.sh] Z=.ok (.int (m:Nat)) Z1/\C.U A.sh NP Z=.ok 65 Z/\biV ns .len (.ref (A.q 3)) Z1=.ok (.int W.S.row.length) Z1/\C.call 38 [.ref (A.q 2),.ref (A.q 1),.int W.S.row.length] Z1=.ok (.int (m:Nat)) Z2/\Ok xs A W' T Z2/\W.Sto W':=by
 obtain rfl:=h.ad;obtain ⟨F,S,P,L,Q⟩:=W;refine ex2 (h65 h.tw.s.mx h.sf hT hz) λP' Z1 q_h=>?_;refine an3 q_h λe1 q_3 I1=>?_;obtain ⟨hb,hd⟩:=q_3;have t1:=h.tw.sh I1;have nz:S.names.length<=50000:=za (za (j0 h.sf.nn h.sf.nx) hz) (by decide);refine ex2 (h38 t1.l.mx (h.lk.names.symm▸h.sf.nn) (λx=>gw (h.lk.I ..) (b2 (h.sf.hl x) hT)) (h.lk.names.symm▸nz) (h.lk.n.symm▸b2 h.sf.nl hT) S.row.length) λQ' Z2 q_h=>?_;refine an3 q_h λe2 hq JJ2=>?_;have et:(Mine.Internal.L11.opn L).foldl min S.row.length=lst S:=by
  refine gw (h.lk.opn ..) ?_;exact (a1p λa ha=>by
   unfold Mine.Internal.L11.opn at ha;obtain ⟨k,hk,rfl⟩:=vu.mp ha;exact h.sf.sr k (xw.mp (jf.mp hk).1)).symm
 have eg:gon (lst S) L L.names=gon (lst S) S S.names:=by unfold gon;exact gw (h.lk.names ..) (gw (h.lk.I ..) rfl)
 rw [et] at e2 JJ2;replace e2:=eg▸e2;have t2:=t1.lw JJ2;refine ⟨⟨F,S.swp,P',{ L with I:=hsw (lst S) L L.names },Q'⟩,Z1,Z2,gon (lst S) S S.names,e1,aY hm (h.tw.s.b 0 (by decide)) rfl rfl,(eQ t1.l).trans (gw (h.lk.row ..) rfl),e2,⟨t2,h.sf.swp,⟨h.lk.n,h.lk.row,h.lk.names,?_,h.lk.d⟩,h.sl,(hb 0).trans h.a0,λj=>(hq j).trans (h.aq j)⟩,rfl,λz=>rfl,λz z e=>e⟩;show hsw (lst S) L L.names=hsw (lst S) S S.names;funext x;unfold hsw;exact gw (h.lk.names ..) (gw (h.lk.I ..) rfl)
end
theorem a0r(k:List Nat)(v:V):∀d:Kv,keysOf (bP d k v)=cI (keysOf d) k:=by
 intro d
 induction d with
 | nil=>rfl
 | cons p r ih=>
  obtain ⟨a,x⟩:=p;show keysOf (if a=k then (a,v)::r else (a,x)::bP r k v)=cI (a::keysOf r) k;unfold cI at ih ⊢;by_cases h:a=k
  ·exact gw (Ua h ..) (gw (Ua (h▸zm) ..) rfl)
  ·refine gw (Ub h ..) ?_;show a::keysOf (bP r k v)=_;refine gw ih ?_;by_cases q:k∈keysOf r
   ·exact gw (Ua q ..) (gw (Ua (zr _ q) ..) rfl)
   ·exact gw (Ub q ..) (gw (Ub (λw=>(ye.mp w).elim (λe=>h e.symm) q)) rfl)
theorem oG:∀(qs d:Kv),keysOf (aZ d qs)=a8 (keysOf d) (keysOf qs):=by
 intro qs
 induction qs with
 | nil=>intro d;rfl
 | cons p r ih=>intro d;show keysOf (aZ (bP d p.1 p.2) r)=a8 (cI (keysOf d) p.1) (keysOf r);rw [ih,a0r]
theorem v2(l m:List (List Nat))(x:List Nat):a8 l (cI m x)=cI (a8 l m) x:=by
 by_cases h:x∈m
 ·exact gw (show cI m x=m from Ua h) (gw (show cI (a8 l m) x=a8 l m from Ua (fJ.mpr (.inr h))) rfl)
 ·refine gw (show cI m x=m++[x] from Ub h) ?_;unfold a8;exact gw (vw ..) rfl
theorem vD:∀(ys l m:List (List Nat)),a8 l (a8 m ys)=a8 (a8 l m) ys:=by
 intro ys
 induction ys with
 | nil=>intro l m;rfl
 | cons y ys ih=>intro l m;show a8 l (a8 (cI m y) ys)=a8 (cI (a8 l m) y) ys;rw [ih,v2]
theorem a1i:∀(l m:List (List Nat)),(m++l).Nodup->a8 m l=m++l:=by
 intro l
 induction l with
 | nil=>exact λm z=>(yw m).symm
 | cons y l ih=>
  intro m h;have e:m++y::l=m++[y]++l:=gw (zh ..) rfl;show a8 (cI m y) l=_;exact gw (show cI m y=m++[y] from Ub λq=>(wv.mp h).2.2 _ q _ zm rfl) (gw e (ih (m++[y]) (e▸h)))
section
variable{ns:List Int}{C:Calls}{J J':Env}{Z Z' Z1 Z2:H}{xs:List (List Nat)}{A:Ad}{W W':Wl}{S L:St}{T T' k:Nat}{G F:Fz}{P Q:Pl}{x:List Nat}{D:Dl}
theorem Lk.keys(h:Lk S L)(F:Sf xs S T)(hk:k<S.n):keysOf (aZ (sv L k) (put [] (L.d k).ws))=nms S k:=by
 refine gw (oG ..) ?_;have e1:keysOf (sv L k)=S.names:=by unfold sv;exact gw (dZ ..) (gw (h.names ..) rfl)
 have e2:keysOf (put [] (L.d k).ws)=a8 [] (pN (S.d k).ws):=by
  unfold put;refine gw (oG ..) (gw ((h.d k hk).ws ..) ?_);congr 1;unfold wE pN keysOf;exact gw (vt ..) rfl
 refine gw e1 (gw e2 (gw (vD ..) ?_));unfold nms;rw [show a8 [] S.names=S.names from a1i S.names [] F.nn];rfl
theorem Lk.vd(h:Lk S L)(F:Sf xs S T)(hk:k<S.n):Vd (aZ (sv L k) (put [] (L.d k).ws)) (sb (S.d k).ws (S.base k)):=by
 refine gw ((h.d k hk).ws ..) ?_;refine Vd.put (λn=>?_) _;unfold get sv St.base;rw [f6 λx=>val (amv (L.I x) (L.d k).start),h.names,h.I,(h.d k hk).start];by_cases q:n∈S.names
 ·rw [Ua q];rfl
 ·rw [Ub q,F.hh n q];rfl
theorem aEb(h:Lk S L)(F:Sf xs S T)(hz:xs.length<=137)(hk:k<S.n)(hT:T<=20000):(aZ (sv L k) (put [] (L.d k).ws)).length<=50000/\∀n∈nms S k,n∈xs:=by
 constructor
 ·have e:(sv L k).length=S.names.length:=by unfold sv;exact gw (zb ..) (gw (h.names ..) rfl)
  refine za (mE _ _) (za (yy (za (zu e) (za (j0 F.nn F.nx) hz)) (za (iE _ []) (gw ((h.d k hk).ws ..) (za (zu (zp _)) (za (F.d k hk).ws hT))))) (by decide))
 ·intro n hn;unfold nms at hn;rcases fJ.mp hn with q | q
  ·exact F.nx n ((fJ.mp q).resolve_left yl)
  ·unfold pN at q;obtain ⟨p,hp,rfl⟩:=vu.mp q;exact (F.d k hk).nm p hp
theorem Ok.one(h:Ok xs A W T Z)(l:T<=T')(ho:(W.S.d k).st=0)(hD:Sk xs D T')(hs:D.start=(W.S.d k).start)(q:Ll D (W.L.d k)){P':Pl}(hp:P'.A (.b 0)=W.P.A (.b 0))(t:Tw xs W.F (W.S.setD k D) P' W.L W.Q Z'):Ok xs A ⟨W.F,W.S.setD k D,P',W.L,W.Q⟩ T' Z':=by have e:=W.L.setD_same k;refine ⟨t,h.sf.setD ho l hD hs,?_,λj hj=>⟨(h.sl j hj).1.mono l,(h.sl j hj).2⟩,hp.trans h.a0,h.aq⟩;have:=h.lk.setD (k:=k) q;replace this:=e▸this;exact this
noncomputable abbrev yW(f:Fu):Prop:=∀{G:Fz}{S:St}{P:Pl}{Z:H}{k T:Nat}{xs:List (List Nat)}{x:List Nat},Inv G S P Z->Sf xs S T->T<=20000->k<S.n->(S.d k).st=0->Nm x ->
 ∃Z' v,f [sh P,.int k,.str x] Z=.ok (val (sb (S.d k).ws (S.base k) x)) Z'/\Inv G (S.setD k ((S.d k).rd x v)) P Z'
noncomputable abbrev sX(f:Fu):Prop:=∀{G:Fz}{S:St}{P:Pl}{Z:H}{k T:Nat}{xs:List (List Nat)}{x:List Nat},Inv G S P Z->Sf xs S T->T<=20002->xs.length<=137->k<S.n->(S.d k).st=0->x.length<=12->Sg x ->
 ∃Z' a w,f [sh P,.int k,.str x] Z=.ok (.ref a) Z'/\Z'[a]?=some (.list (pV (und (sb (S.d k).ws (S.base k)) x (jE dK (nms S k)))))/\Z.length<=a/\Fr G S P a/\Inv G (S.setD k ((S.d k).un x w)) P Z'
noncomputable abbrev zL(f:Fu):Prop:=∀{G:Fz}{S:St}{P:Pl}{Z:H}{k T m:Nat}{xs:List (List Nat)},Inv G S P Z->Sf xs S T->T<=20000->k<S.n->(S.d k).st=0->m<=(S.d k).ws.length ->
 ∃P' Z' v,f [sh P,.int k,.int m] Z=.ok .none Z'/\P.Sim P'/\Inv G (S.setD k ((S.d k).bk m v)) P' Z'
noncomputable abbrev yH(f:Fu):Prop:=∀{G:Fz}{S:St}{P:Pl}{Z:H}{k:Nat},Inv G S P Z->k<S.n->(S.d k).st=0->∃Z',f [sh P,.int k] Z=.ok .none Z'/\Inv G (S.setD k { S.d k with st:=1 }) P Z'
theorem aBq(hm:C.U=aJ T0)(h31:dG C)(h32:oE C)(h34:mT C)(h8:qW C):yW (evF ns C cP):=λI F hT hk ho hx=>by obtain ⟨Z',e,I'⟩:=a9r hm h31 h32 h34 h8 I F.hh hk ho (b2 (F.d _ hk).ws hT) (b2 (F.d _ hk).said hT) (b2 (F.d _ hk).seen hT) hx;exact ⟨Z',_,e,I'⟩
theorem a6z(hm:C.U=aJ T0)(h31:dG C)(h2:aDm C)(h5:IsU C)(h34:mT C):sX (evF ns C bG):=λI F hT hz hk ho hx hs=>
 a1g hm h31 h2 h5 h34 I F.hh hk ho (za (yy (za (j0 F.nn F.nx) hz) (za (F.d _ hk).ws hT)) (by decide)) (za (F.d _ hk).said (za hT (by decide))) (za (F.d _ hk).O (za hT (by decide))) hx (wt.mpr hs)
theorem aEi(hm:C.U=aJ T0)(h31:dG C)(h1:∀i Z,C.call 1 [.int i] Z=.ok (.bool true) Z):zL (evF ns C cS):=λI F hT hk ho hi=>by obtain ⟨P',Z',e,s,I'⟩:=a8e hm h31 h1 I hk ho (b2 (F.d _ hk).ws hT) (b2 (F.d _ hk).said hT) hi;exact ⟨P',Z',_,e,s,I'⟩
theorem aDf(hm:C.U=aJ T0)(h31:dG C):yH (evF ns C cU):=λI hk ho=>a7f hm h31 I hk ho
end
section
variable{ns:List Int}{C:Calls}{J J':Env}{Z Z' Z1 Z2:H}{xs:List (List Nat)}{A:Ad}{W W':Wl}{S L:St}{T T' k a b:Nat}{G F:Fz}{P Q:Pl}{x:List Nat}{D:Dl}
theorem aCi{l:Nat}{kvs:Kv}{n:List Nat}(hl:Z[l]?=some (.dict kvs)):eA (.notin ()) (.str n) (.ref l) Z=.ok (.bool (!(aW kvs n).isSome)) Z:=by show (match Z[l]? with | some (.list xs)=>bF ((dL (.str n) xs).map (yes true)) Z | some (.dict kvs)=>onS (.str n) (λx=>M.ret (yes true (aW kvs x).isSome)) Z | _=>R.stuck)=_;exact gw hl rfl
theorem aGx{l:Nat}{kvs:Kv}{n:List Nat}(hl:Z[l]?=some (.dict kvs)):meV (.ref l) .get [.str n] Z=.ok (get kvs n) Z:=by unfold meV;dsimp only;rw [hl];rfl
theorem aFf(hm:C.U=aJ T0)(h:Ok xs A W T Z){n:List Nat}{i:Nat}(h':((T0.cls[1]?).bind λp=>p.2.lookup n)=some i)(h'':∀s d r,aW (shE s d r) n=.none):C.U A.sh n Z=.ok i Z:=by have:=aY hm (h.tw.s.b 0 (by decide)) (h'' _ _ _) h';rwa [h.a0] at this
theorem zN(hm:C.U=aJ T0)(h18:wA C)(h20:nF C)(h50:yW (C.call 50))(h:Ok xs A W T Z)(hT:T<=20000)(hk:k<W.S.n)(ho:(W.S.d k).st=0)(hx:Nm x)(hD:W.F a=some (.dict (aZ (sv W.L k) (put [] (W.L.d k).ws)))){r1 r2 r3 r6 r7 r8 r11 r12 r13:Option V}{r:List Mine.Internal.S}:
  ∃W' Z' J',aH ns C [some A.sh,r1,r2,r3,rI k,rS x,r6,r7,r8,some (ld W.Q k),rF a,r11,r12,r13] Z (.x (.g (.notin ()) (.v 5) (.call 20 [(.i (.v 9) (.k (V.str Nf)))])) [.expr (.me (.i (.v 9) (.k (V.str Ny))) .append [(.v 5)])] []::.ret (.call 18 [(.u (.v 0) NB [(.v 4),(.v 5)]),(.me (.v 10) .get [(.v 5)])])::r)=.ok (.ret (.bool true)) J' Z'/\Ok xs A W' (T+1) Z'/\W.Sto W':=by
 refine cps λG' K=>?_;have hkL:=h.lk.lt hk;have JJ:=h.tw.l;have l:=h.lk.d k hk;have kE:=h.sl k hk;have e20:=h20 (JJ.d 1 (by decide) hkL) (b2 kE.1.ws hT);let Z1:=Z++[O.dict (put [] (W.L.d k).ws)];have t1:=h.tw.gr (Gr.app Z [O.dict (put [] (W.L.d k).ws)]);have c1:Ev ns C [some A.sh,r1,r2,r3,rI k,rS x,r6,r7,r8,some (ld W.Q k),rF a,r11,r12,r13] (.g (.notin ()) (.v 5) (.call 20 [(.i (.v 9) (.k (V.str Nf)))])) Z (.bool (!bX (W.L.d k).ws x)) Z1:=(aM rfl (aG (a9 (aK rfl rfl (gZ JJ hkL))) e20) (aCi (aE Z _))).trans (gw (wZ ..) rfl);have nt:∃Z2,aH ns C [some A.sh,r1,r2,r3,rI k,rS x,r6,r7,r8,some (ld W.Q k),rF a,r11,r12,r13] Z1 (if !bX (W.L.d k).ws x then [.expr (.me (.i (.v 9) (.k (V.str Ny))) .append [(.v 5)])] else [])=.ok .next [some A.sh,r1,r2,r3,rI k,rS x,r6,r7,r8,some (ld W.Q k),rF a,r11,r12,r13] Z2/\Tw xs W.F W.S W.P (W.L.setD k { W.L.d k with seen:=if bX (W.L.d k).ws x then (W.L.d k).seen else (W.L.d k).seen++[x] }) W.Q Z2:=by
  cases bX (W.L.d k).ws x with
  | true=>exact ⟨Z1,aI,by show Tw xs W.F W.S W.P (W.L.setD k (W.L.d k)) W.Q Z1;exact gw (W.L.setD_same ..) t1⟩
  | false=>exact ⟨_,b5 (fZ (aK rfl rfl (xT t1.l hkL)) (kL (t1.l.d 3 (by decide) hkL) rfl) rfl (kY (t1.l.d 3 (by decide) hkL) (by show (nV _).length+1<=lim;unfold nV;exact gw (zb ..) (lm1 (za (b2 kE.1.seen hT) (by decide)))))) aI,t1.lw (t1.l.mx.nmL hkL x)⟩
 obtain ⟨Z2,s2,t2⟩:=nt;refine ex2 (h50 t2.s.mx h.sf hT hk ho hx) λZ3 v q_h=>?_;obtain ⟨e3,I3⟩:=q_h;have t3:=t2.sh I3;rw [show sh W.P=A.sh by show V.inst 1 _=_;rw [h.a0]] at e3;have hD3:Z3[a]?=some (.dict (aZ (sv W.L k) (put [] (W.L.d k).ws))):=(t3.s.fz a _ hD).1;have lo:C.U A.sh NB Z2=.ok 50 Z2:=by
  have:=aY hm (t2.s.b 0 (by decide)) rfl (show ((T0.cls[1]?).bind λp=>p.2.lookup NB)=some 50 from rfl);rwa [h.a0] at this
 have eg:=aGx (n:=x) hD3;replace eg:=(h.lk.vd h.sf hk x ..)▸eg;have o3:=h.both (k:=k) (D:=(W.S.d k).rd x v) (E:={ W.L.d k with seen:=if bX (W.L.d k).ws x then (W.L.d k).seen else (W.L.d k).seen++[x] }) (yi T) ho (h.sf.d k hk).rd rfl
  ⟨⟨zn kE.1.said,zn kE.1.ws,by show (if _ then _ else _:List (List Nat)).length<=_;split;exact zn kE.1.seen;exact gw (bH ..) (zw kE.1.seen),zn kE.1.O,kE.1.nm⟩,kE.2⟩
  ⟨l.start,l.st,l.kat,l.ws,λn=>by
   show n∈(if bX (W.L.d k).ws x then _ else _)↔n∈(if bX (W.S.d k).ws x then _ else _);refine gw (l.ws ..) ?_;cases bX (W.S.d k).ws x with
   | true=>exact l.seen n
   | false=>exact yh.trans (Iff.trans (or_congr (l.seen n) ze) fX.symm),l.O⟩ rfl (λz=>rfl) t3
 refine K ⟨_,Z3,_,mX c1 (aB s2 (aP (aG (bW (aV rfl lo rfl e3) (fZ rfl (kD hD3 rfl) rfl eg)) ((h18 _ _ Z3).trans (by rw [Uc rfl]))))),o3,rfl,oN rfl,λz z e=>e⟩
theorem a0b(hm:C.U=aJ T0)(h54:zL (C.call 54))(h:Ok xs A W T Z)(hT:T<=20000)(hk:k<W.S.n)(ho:(W.S.d k).st=0){m:Int}{r1 r2 r3 r5 r6 r7 r10 r11 r12:Option V}{r:List Mine.Internal.S}:
  ∃W' Z' J',aH ns C [some A.sh,r1,r2,r3,rI k,r5,r6,r7,rI m,some (ld W.Q k),r10,r11,r12,.none] Z (.a 13 (.o .mod (.v 8) (.o .add (.bi .len (.i (.v 9) (.k (V.str Nf)))) (.k (V.int 1))))::.T (.v 9) (.k (V.str Nf)) (.slice (.i (.v 9) (.k (V.str Nf))) .nil (.v 13))::.ret (.g .is (.u (.v 0) NF [(.v 4),(.v 13)]) (.k V.none))::r)=.ok (.ret (.bool true)) J' Z'/\Ok xs A W' (T+1) Z'/\W.Sto W':=by
 refine cps λG' K=>?_;have hkL:=h.lk.lt hk;have JJ:=h.tw.l;have l:=h.lk.d k hk;have kE:=h.sl k hk;have hp:(0:Int)<((W.L.d k).ws.length:Int)+1:=zbg (zy _);obtain ⟨z1,z2⟩:=dA m hp;obtain ⟨j,hj⟩:=vi z1;have hj':j<=(W.L.d k).ws.length:=xd.mp (fj (hj▸z2));have e1:Ev ns C [some A.sh,r1,r2,r3,rI k,r5,r6,r7,rI m,some (ld W.Q k),r10,r11,r12,.none] (.o .mod (.v 8) (.o .add (.bi .len (.i (.v 9) (.k (V.str Nf)))) (.k (V.int 1)))) Z (.int (j:Int)) Z:=bB rfl (bB (bD (aK rfl rfl (gZ JJ hkL)) (sM JJ hkL)) rfl rfl) ((qF (kr hp)).trans (gw hj rfl));have es:=(slL (ns:=ns) (a:=.none) (b:=.int (j:Int)) (lo:=.none) (hi:=some (j:Int)) (JJ.d 1 (by decide) hkL) rfl rfl (gw (iJ ..) (lm (b2 kE.1.ws hT)))).trans (gw (yZ ..) rfl);have t2:=h.tw.lw (h.tw.l.mx.back hkL j);have e2:=setD (x:=Nf) (v:=.ref Z.length) (kvs:=lwE (W.L.d k).start (W.L.d k).st (W.L.d k).kat (W.Q.A (.d 1 k)) (W.Q.A (.d 2 k)) (W.Q.A (.d 3 k)) (W.Q.A (.d 4 k))) ((Gr.app Z [O.list (wV ((W.L.d k).ws.take j))]).at (JJ.d 0 (by decide) hkL)) (by show 7<=lim;decide);replace e2:pF (ld W.Q k) (.str Nf) (.ref Z.length) (Z++[O.list (wV ((W.L.d k).ws.take j))])=.ok .none ((Z++[O.list (wV ((W.L.d k).ws.take j))]).set (W.Q.A (.d 0 k)) ((lwK xs).dE (W.L.d k).start (W.L.d k).st (W.L.d k).kat Z.length (W.Q.A (.d 2 k)) (W.Q.A (.d 3 k)) (W.Q.A (.d 4 k)))):=e2;generalize (Z++[O.list (wV ((W.L.d k).ws.take j))]).set (W.Q.A (.d 0 k)) ((lwK xs).dE (W.L.d k).start (W.L.d k).st (W.L.d k).kat Z.length (W.Q.A (.d 2 k)) (W.Q.A (.d 3 k)) (W.Q.A (.d 4 k)))=Z2 at t2 e2;refine ex3 (h54 t2.s.mx h.sf hT hk ho (l.ws▸hj')) λP' Z3 v q_h=>?_;refine an3 q_h λe3 sim I3=>?_;have t3:=t2.sh I3;rw [show sh W.P=A.sh by show V.inst 1 _=_;rw [h.a0]] at e3;have lo:C.U A.sh NF Z2=.ok 54 Z2:=by
  have:=aY hm (t2.s.b 0 (by decide)) rfl (show ((T0.cls[1]?).bind λp=>p.2.lookup NF)=some 54 from rfl);rwa [h.a0] at this
 have o3:=h.both (k:=k) (Q':=W.Q.grow Z.length k 1 1) (D:=(W.S.d k).bk j v) (E:={ W.L.d k with ws:=(W.L.d k).ws.take j }) (yi T) ho (h.sf.d k hk).bk rfl
  ⟨⟨zn kE.1.said,zn (za (xt _ _) kE.1.ws),zn kE.1.seen,zn kE.1.O,λp hp=>kE.1.nm p (wn hp)⟩,kE.2⟩
  ⟨l.start,l.st,l.kat,by show (W.L.d k).ws.take j=(W.S.d k).ws.take j;rw [l.ws],l.seen,l.O⟩ sim (λz=>rfl) t3
 exact K ⟨_,Z3,_,aA e1 rfl (iR (cJ (aK rfl rfl (gZ JJ hkL)) rfl rfl es) rfl rfl e2 (aP (aM (aV rfl lo rfl e3) rfl rfl))),o3,rfl,oN rfl,λz z e=>e⟩
theorem a0t(hm:C.U=aJ T0)(h58:yH (C.call 58))(h:Ok xs A W T Z)(hk:k<W.S.n)(ho:(W.S.d k).st=0){r1 r2 r3 r5 r6 r7 r8 r10 r11 r12 r13:Option V}:
  ∃W' Z' J',aH ns C [some A.sh,r1,r2,r3,rI k,r5,r6,r7,r8,some (ld W.Q k),r10,r11,r12,r13] Z [.T (.v 9) (.k (V.str Ni)) (.k (V.str Nq)),.ret (.g .is (.u (.v 0) NK [(.v 4)]) (.k V.none))]=.ok (.ret (.bool true)) J' Z'/\Ok xs A W' (T+1) Z'/\W'.S.n=W.S.n/\W.Le W':=by
 refine cps λG' K=>?_;have hkL:=h.lk.lt hk;have l:=h.lk.d k hk;have kE:=h.sl k hk;have t2:=h.tw.lw (h.tw.l.mx.st hkL 1 (W.L.d k).kat);have e2:pF (ld W.Q k) (.str Ni) (.str Nq) Z=.ok .none (Z.set (W.Q.A (.d 0 k)) ((lwK xs).dE (W.L.d k).start 1 (W.L.d k).kat (W.Q.A (.d 1 k)) (W.Q.A (.d 2 k)) (W.Q.A (.d 3 k)) (W.Q.A (.d 4 k)))):=setD (kvs:=lwE (W.L.d k).start (W.L.d k).st (W.L.d k).kat (W.Q.A (.d 1 k)) (W.Q.A (.d 2 k)) (W.Q.A (.d 3 k)) (W.Q.A (.d 4 k))) (h.tw.l.d 0 (by decide) hkL) (by show 7<=lim;decide);generalize Z.set (W.Q.A (.d 0 k)) ((lwK xs).dE (W.L.d k).start 1 (W.L.d k).kat (W.Q.A (.d 1 k)) (W.Q.A (.d 2 k)) (W.Q.A (.d 3 k)) (W.Q.A (.d 4 k)))=Z2 at t2 e2;obtain ⟨Z3,e3,I3⟩:=h58 t2.s.mx hk ho;have t3:=t2.sh I3;rw [show sh W.P=A.sh by show V.inst 1 _=_;rw [h.a0]] at e3;have lo:C.U A.sh NK Z2=.ok 58 Z2:=by
  have:=aY hm (t2.s.b 0 (by decide)) rfl (show ((T0.cls[1]?).bind λp=>p.2.lookup NK)=some 58 from rfl);rwa [h.a0] at this
 have o3:=h.both (k:=k) (D:={ W.S.d k with st:=1 }) (E:={ W.L.d k with st:=1,kat:=(W.L.d k).kat }) (yi T) ho ((h.sf.d k hk).mono (yi T)).st rfl ⟨(kE.1.mono (yi T)).st,kE.2⟩ ⟨l.start,rfl,l.kat,l.ws,l.seen,l.O⟩ rfl (λz=>rfl) t3;exact K ⟨_,Z3,_,iR rfl rfl rfl e2 (aP (aM (aV rfl lo rfl e3) rfl rfl)),o3,rfl,λz z e=>e⟩
end
noncomputable abbrev a2c(C:Calls):Prop:=∀{Z:H}{d j:Nat}{kvs qs:Kv}{g:List Nat->Option Int},Z[d]?=some (.dict kvs)->Z[j]?=some (.dict qs)->kvs.length+qs.length<=50000->(keysOf kvs).Nodup->Vd (aZ kvs qs) g->(∀n∈keysOf (aZ kvs qs),n.length<=12)->∀h:List Nat,
 ∃l' Z',C.call 21 [.ref d,.ref j,.str h] Z=.ok (.ref l') Z'/\Gr Z Z'/\Z'[l']?=some (.list (pV (und g h (jE dK (keysOf (aZ kvs qs))))))
noncomputable abbrev vT(C:Calls):Prop:=∀{Z:H}{a b:Nat}{ps:Ps},Z[a]?=some (.list (pV ps))->Z[b]?=some (.list (pV ps))->ps.length<=50000->C.call 19 [.ref a,.ref b] Z=.ok (.bool true) Z
section
variable{ns:List Int}{C:Calls}{J J':Env}{Z Z' Z1 Z2:H}{xs:List (List Nat)}{A:Ad}{W W':Wl}{S L:St}{T T' k a b:Nat}{G F:Fz}{P Q:Pl}{x:List Nat}{D:Dl}
theorem a9e(hx:Nm x){m:Int}{r0 r1 r2 r3 r4 r6 r7 r9 r10 r12 r13:Option V}:
  ∃h:List Nat,h.length<=12/\Sg h/\∀{r:List Mine.Internal.S}{Res:RS},aH ns C [r0,r1,r2,r3,r4,rS x,r6,r7,rI m,r9,r10,rS h,r12,r13] Z r=Res->aH ns C [r0,r1,r2,r3,r4,rS x,r6,r7,rI m,r9,r10,.none,r12,r13] Z (.a 11 (.slice (.v 5) .nil (.o .mod (.v 8) (.o .add (.bi .len (.v 5)) (.k (V.int 1)))))::.x (.g .eq (.o .mod (.o .fdiv (.v 8) (.k (V.int 13))) (.k (V.int 4))) (.k (V.int 3))) [.a 11 (.slice (.o .add (.v 11) (.k (V.str [113]))) .nil (.k (V.int 12)))] []::r)=Res:=by
 have hp:(0:Int)<(x.length:Int)+1:=zbg (zy _);let z:=m.fmod ((x.length:Int)+1);have l0:(cut x .none (some z)).length<=12:=za (lO _ _ _) hx.2.1;have s0:Sg (cut x .none (some z)):=hx.2.2.cut _ _;have e0:Ev ns C [r0,r1,r2,r3,r4,rS x,r6,r7,rI m,r9,r10,.none,r12,r13] (.slice (.v 5) .nil (.o .mod (.v 8) (.o .add (.bi .len (.v 5)) (.k (V.int 1))))) Z (.str (cut x .none (some z))) Z:=cJ rfl rfl (bB rfl rfl (qF (kr hp))) (slS (lo:=.none) (hi:=some z) rfl rfl (za hx.2.1 (by decide)));have e1:Ev ns C [r0,r1,r2,r3,r4,rS x,r6,r7,rI m,r9,r10,rS (cut x .none (some z)),r12,r13] (.g .eq (.o .mod (.o .fdiv (.v 8) (.k (V.int 13))) (.k (V.int 4))) (.k (V.int 3))) Z (.bool (decide ((m.fdiv 13).fmod 4=3))) Z:=aM rfl rfl (eqI _ _);have l1:(cut x .none (some z)).length+1<=13:=zw l0;have e2:Ev ns C [r0,r1,r2,r3,r4,rS x,r6,r7,rI m,r9,r10,rS (cut x .none (some z)),r12,r13] (.slice (.o .add (.v 11) (.k (V.str [113]))) .nil (.k (V.int 12))) Z (.str (cut (cut x .none (some z)++[113]) .none (some 12))) Z:=cJ (bB rfl rfl (sL (za l1 (by decide)))) rfl rfl (slS (lo:=.none) (hi:=some 12) rfl rfl (gw (bH ..) (za l1 (by decide))));by_cases q:(m.fdiv 13).fmod 4=3
 ·exact ⟨cut (cut x .none (some z)++[113]) .none (some 12),(gw (iN _ (by decide) ..) (jz _ _)),(s0.app (.one rfl)).cut _ _,λh=>aA e0 rfl (bU (e1.trans (gw (Uc q ..) rfl)) (aB (aA e2 rfl aI) h))⟩
 ·exact ⟨_,l0,s0,λh=>aA e0 rfl (aL (e1.trans (gw (Ud q ..) rfl)) h)⟩
theorem Tw.put(t:Tw xs F S P L Q Z)(f:Fr F S P a)(f':Fr F L Q a)(o:O):Tw xs F S P L Q (Z.set a o):=⟨t.s.put f o,t.l.put f' o,t.ap⟩
theorem a8d(ps:Ps):(pV ps).all nQ=true:=wt.mpr λv hv=>by obtain ⟨p,_,rfl⟩:=vu.mp hv;rfl
theorem v1(hm:C.U=aJ T0)(h19:vT C)(h21:a2c C)(h51:sX (C.call 51))(h:Ok xs A W T Z)(hT:T<=19990)(hz:xs.length<=137)(hn:∀x∈xs,Nm x)(hk:k<W.S.n)(ho:(W.S.d k).st=0)(hD:W.F a=some (.dict (aZ (sv W.L k) (put [] (W.L.d k).ws)))){y:List Nat}(hy:y.length<=12)(hg:Sg y){r5 r6 r7 r8 r13:Option V}{r:List Mine.Internal.S}:
  ∃W' Z' J',aH ns C [some A.sh,rF (A.q 2),rF (A.q 1),rF (A.q 3),rI k,r5,r6,r7,r8,some (ld W.Q k),rF a,rS y,.none,r13] Z (.expr (.me (.i (.v 9) (.k (V.str Np))) .append [(.v 11)]) ::
   .a 12 (.u (.v 0) Nr [(.v 4),(.v 11)]) ::
   .x (.not (.call 19 [(.v 12),(.call 21 [(.v 10),.dict0,(.v 11)])])) [.dead] [] ::
   .expr (.me (.v 12) .append [(.tup [(.k (V.str [122,122])),(.k (V.int 9))])]) ::
   .expr (.me (.i (.v 9) (.k (V.str Nv))) .append [(.tup [(.v 12),(.bi .list (.v 12))])]) ::
   .ret (.call 19 [(.u (.v 0) Nr [(.v 4),(.v 11)]),(.call 21 [(.v 10),.dict0,(.v 11)])])::r)=.ok (.ret (.bool true)) J' Z'/\Ok xs A W' (T+3) Z'/\W.Sto W':=by
 refine cps λG' K=>?_;have hkL:=h.lk.lt hk;have JJ:=h.tw.l;have l:=h.lk.d k hk;have kE:=h.sl k hk;have T0':T<=20000:=za hT (by decide);have sl:=aEb h.lk h.sf hz hk T0';have ky:=h.lk.keys h.sf hk;have vd:=h.lk.vd h.sf hk;generalize hps:und (sb (W.S.d k).ws (W.S.base k)) y (jE dK (nms W.S k))=ps;have pl:ps.length<=49000:=by
  have e:(nms W.S k).length<=20137:=za (fM _ _) (za (yy (za (fM _ _) (za (zu (zp _)) (za (j0 h.sf.nn h.sf.nx) hz))) (za (zu (zb ..)) (za (h.sf.d k hk).ws T0'))) (by decide));exact bw hps (za (xC _ _ _) (gw (l9 ..) (za e (by decide))))
 have pl5:ps.length<=50000:=za pl (by decide);have told:∀{Z1:H}{r12:Option V},Z1[a]?=some (.dict (aZ (sv W.L k) (put [] (W.L.d k).ws)))->∃b Z2,Ev ns C [some A.sh,rF (A.q 2),rF (A.q 1),rF (A.q 3),rI k,r5,r6,r7,r8,some (ld W.Q k),rF a,rS y,r12,r13] (.call 21 [(.v 10),.dict0,(.v 11)]) Z1 (.ref b) Z2/\Gr Z1 Z2/\Z2[b]?=some (.list (pV ps)):=λ{Z1 _} ha=>by
  refine ex2 (h21 (qs:=[]) ((Gr.app Z1 [O.dict []]).at ha) (aE Z1 _) sl.1 (gw ky (eM _ (eM _ um))) vd (λn hn'=>by replace hn':n∈keysOf (aZ (sv W.L k) (put [] (W.L.d k).ws)):=hn';replace hn':=ky▸hn';exact (hn n (sl.2 n hn')).2.1) y) λb Z2 q_h=>?_;refine an3 q_h λe g hb=>?_;replace hb:Z2[b]?=some (.list (pV (und (sb (W.S.d k).ws (W.S.base k)) y (jE dK (keysOf (aZ (sv W.L k) (put [] (W.L.d k).ws))))))):=hb;replace hb:=hps▸ky▸hb;exact ⟨b,Z2,aG (b7 rfl rfl rfl) e,(Gr.app Z1 _).tr g,hb⟩
 have d4:=JJ.d 4 (by decide) hkL;have t1:=h.tw.lw (JJ.mx.hdL hkL y);have e1:meV (.ref (W.Q.A (.d 4 k))) .append [.str y] Z=.ok .none (Z.set (W.Q.A (.d 4 k)) (.list (nV (W.L.d k).O++[.str y]))):=kY d4 (by show (nV _).length+1<=lim;unfold nV;exact gw (zb ..) (lm1 (za (b2 kE.1.O T0') (by decide))));generalize Z.set (W.Q.A (.d 4 k)) (.list (nV (W.L.d k).O++[.str y]))=Z1 at t1 e1;have shA:sh W.P=A.sh:=by show V.inst 1 _=_;exact gw (h.a0 ..) rfl
 have lo:∀{G S Z},Inv G S W.P Z->C.U A.sh Nr Z=.ok 51 Z:=λI=>by
  have:=aY hm (I.b 0 (by decide)) rfl (show ((T0.cls[1]?).bind λp=>p.2.lookup Nr)=some 51 from rfl);rwa [h.a0] at this
 refine ex3 (h51 t1.s.mx h.sf (za hT (by decide)) hz hk ho hy hg) λZ2 c w q_h=>?_;refine an5 q_h λe2 c2 ge fr I2=>?_;have t2:=t1.sh I2;replace e2:=shA▸e2;replace c2:=hps▸c2;have o2:=h.both (k:=k) (D:=(W.S.d k).un y w) (E:={ W.L.d k with O:=(W.L.d k).O++[y] }) (yi T) ho (h.sf.d k hk).un rfl
  ⟨⟨zn kE.1.said,zn kE.1.ws,zn kE.1.seen,gw (bH ..) (zw kE.1.O),kE.1.nm⟩,kE.2⟩
  ⟨l.start,l.st,l.kat,l.ws,l.seen,λn=>yh.trans (Iff.trans (or_congr (l.O n) ze) fX.symm)⟩ rfl (λz=>rfl) t2
 have fS:Fr W.F (W.S.setD k ((W.S.d k).un y w)) W.P c:=⟨fr.ne,(t1.s.fr ge).no⟩;have fL:Fr W.F (W.L.setD k { W.L.d k with O:=(W.L.d k).O++[y] }) W.Q c:=t1.l.fr ge;have fa:∀{T S L P Q Z},Tw T W.F S P L Q Z->Z[a]?=some (.dict (aZ (sv W.L k) (put [] (W.L.d k).ws))):=λt=>(t.s.fz a _ hD).1;refine ex2 (told (r12:=rF c) (fa t2)) λb Z3 q_h=>?_;refine an3 q_h λe3 g3 b3=>?_;have o3:=o2.gr g3;have c3:=g3.at c2;have fz:pV ps++[V.tup [.str [122,122],.int 9]]=pV (ps++[([122,122],9)]):=by unfold pV;exact gw (xc ..) rfl
 have e4:meV (.ref c) .append [.tup [.str [122,122],.int 9]] Z3=.ok .none (Z3.set c (.list (pV (ps++[([122,122],9)])))):=(kY c3 (gw (mR ..) (lm1 (za pl5 (by decide))))).trans (gw fz rfl);let Z4:=Z3.set c (.list (pV (ps++[([122,122],9)])));have c4:Z4[c]?=some (.list (pV (ps++[([122,122],9)]))):=eZ c3 _;have o4:Ok xs A ⟨W.F,W.S.setD k ((W.S.d k).un y w),W.P,W.L.setD k { W.L.d k with O:=(W.L.d k).O++[y] },W.Q⟩ (T+1) Z4:=⟨o3.tw.put fS fL _,o3.sf,o3.lk,o3.sl,o3.a0,o3.aq⟩;let Z5:=Z4++[O.list (pV (ps++[([122,122],9)]))];have o5:=o4.gr (Gr.app Z4 [O.list (pV (ps++[([122,122],9)]))]);have lz:(pV (ps++[([122,122],9)])).length<=50000:=gw (mR ..) (gw (bH ..) (za (zw pl) (by decide)));have l4:c<Z4.length:=(zc.mp c4).1;obtain ⟨W6,q_h⟩:=(o5.held (k:=k) (a:=c) (b:=Z4.length) hk ((Gr.app Z4 _).at c4) (aE Z4 _) (wq l4) fS fL (o4.tw.s.fr (zf _)) (o4.tw.l.fr (zf _)) (a8d _) lz);refine an3 q_h λo6 s6 eS=>?_;have eD1:(W.L.setD k { W.L.d k with O:=(W.L.d k).O++[y] }).d k={ W.L.d k with O:=(W.L.d k).O++[y] }:=W.L.setD_at k _;have hs4:=lY o4.tw.l hkL;have eh:Ev ns C [some A.sh,rF (A.q 2),rF (A.q 1),rF (A.q 3),rI k,r5,r6,r7,r8,some (ld W.Q k),rF a,rS y,rF c,r13] (.me (.i (.v 9) (.k (V.str Nv))) .append [(.tup [(.v 12),(.bi .list (.v 12))])]) Z4 .none _:=fZ (aK rfl rfl (xB o4.tw.l hkL)) (kL hs4 rfl) (a9 (eV (bW rfl (bD rfl (qJ c4 lz))) rfl)) (kY ((Gr.app Z4 _).at hs4) (lm1 (za (o4.sl k hk).1.said (za (zw hT) (by decide)))));generalize Z5.set (W.Q.A (.d 2 k)) (.list (((W.L.setD k { W.L.d k with O:=(W.L.d k).O++[y] }).d k).said++[.tup [.ref c,.ref Z4.length]]))=Z6 at o6 eh;have hk6:k<W6.S.n:=s6.1.symm▸hk;have dk6:W6.S.d k=(W.S.d k).un y w:=gw eS (W.S.setD_at k _);have ho6:(W6.S.d k).st=0:=gw dk6 ho;refine ex3 (h51 o6.tw.s.mx o6.sf (za (yx hT 2) (by decide)) hz hk6 ho6 hy hg) λZ7 c' w' q_h=>?_;refine an5 q_h λe7 c7 z z I7=>?_;have eps:und (sb (W6.S.d k).ws (W6.S.base k)) y (jE dK (nms W6.S k))=ps:=by
  have n6:nms W6.S k=nms W.S k:=by unfold nms;exact gw dk6 (gw eS rfl)
  have b6:W6.S.base k=W.S.base k:=by unfold St.base;exact gw dk6 (gw eS rfl)
  exact gw dk6 (gw n6 (gw b6 hps))
 replace c7:=eps▸c7;have sh6:sh W6.P=A.sh:=by show V.inst 1 _=_;exact gw (o6.a0 ..) rfl
 replace e7:=sh6▸e7;have t7:=o6.tw.sh I7;have l6:=o6.lk.d k hk6;have o7:=o6.one (k:=k) (T':=T+3) (D:=(W6.S.d k).un y w') (yi _) ho6 (o6.sf.d k hk6).un rfl ⟨l6.start,l6.st,l6.kat,l6.ws,l6.seen,λn=>(l6.O n).trans ⟨λq=>fX.mpr (.inl q),λq=>(fX.mp q).elim id λe=>gw e (gw dk6 (fX.mpr (.inr rfl)))⟩⟩ rfl t7;have lo6:C.U A.sh Nr Z6=.ok 51 Z6:=by
  have:=aY hm (o6.tw.s.b 0 (by decide)) rfl (show ((T0.cls[1]?).bind λp=>p.2.lookup Nr)=some 51 from rfl);rwa [o6.a0] at this
 refine ex2 (told (r12:=rF c) (show Z7[a]?=_ from (t7.s.fz a _ (s6.2.2 a _ hD)).1)) λb' Z8 q_h=>?_;refine an3 q_h λe8 g8 b8=>?_;exact K ⟨_,Z8,_,b5 (fZ (aK rfl rfl (yR JJ hkL)) (kL d4 rfl) rfl e1) (aA (aV rfl (lo t1.s) rfl e2) rfl (aL (cE (aG (bW rfl e3) (h19 c3 b3 pl5)) rfl) (b5 (fZ rfl (kL c3 rfl) (a9 (eV rfl rfl)) e4) (b5 eh (aP (aG (bW (aV rfl lo6 rfl e7) e8) (h19 (g8.at c7) b8 pl5))))))),o7.gr g8,s6.1,λj=>((oN (D:=(W6.S.d k).un y w') rfl j).trans ((s6.2.1 j).trans (oN (D:=(W.S.d k).un y w) rfl j))),λi o e=>s6.2.2 i o e⟩
end
noncomputable abbrev aBc(C:Calls):Prop:=∀{xs:List (List Nat)}{F:Fz}{L:St}{Q:Pl}{Z:H}{k:Nat},Lv xs F L Q Z->k<L.n->L.names.Nodup->L.names.length+(L.d k).ws.length<=50000->(∀x,(L.I x).length<=50000) ->
 ∃a Z',C.call 23 [ld Q k,.ref (Q.A (.b 1))] Z=.ok (.ref a) Z'/\Gr Z Z'/\Z'[a]?=some (.dict (aZ (sv L k) (put [] (L.d k).ws)))/\Z.length<=a
noncomputable abbrev aAw(C:Calls):Prop:=∀{G:Fz}{S:St}{P:Pl}{Z:H}{k:Nat},Inv G S P Z->k<S.n->(S.d k).st≠0->∀(n:V) (w:Int),C.call 26 [sh P,.int k,n,.int w] Z=.ok (.bool true) Z
noncomputable abbrev aDh(f:Fu):Prop:=∀c:Int,∃t,inR t/\∀Z,∃Z',f [.int c] Z=.ok (val t) Z'/\Gr Z Z'
noncomputable abbrev qR(f:Fu):Prop:=∀{xs:List (List Nat)}{A:Ad}{W:Wl}{T:Nat}{Z:H}{k dr:Nat}{x:List Nat}{m c:Int},Ok xs A W T Z->T<=19990->xs.length<=137->(∀x∈xs,Nm x)->k<W.S.n->x∈xs->Z[dr]?=some (.list [.int m,.int c]) ->
 ∃W' Z',f [A.sh,.ref (A.q 2),.ref (A.q 1),.ref (A.q 3),.int k,.str x,.ref dr] Z=.ok (.bool true) Z'/\Ok xs A W' (T+3) Z'/\W'.S.n=W.S.n/\W.Le W'/\(m=7->(W.S.d k).st=0->(W'.S.d k).st=0)
section
variable{ns:List Int}{C:Calls}{J J':Env}{Z Z' Z1 Z2:H}{xs:List (List Nat)}{A:Ad}{W W' W'':Wl}{S L:St}{T T' k a b:Nat}
theorem Wl.Le.tr(h:W.Le W')(h':W'.Le W''):W.Le W'':=λi o e=>h' i o (h i o e)
theorem a7j(hm:C.U=aJ T0)(h17:aDh (C.call 17))(h18:wA C)(h19:vT C)(h20:nF C)(h21:a2c C)(h23:aBc C)(h26:aAw C)(h27:mB (C.call 27))(h28:vE (C.call 28))(h50:yW (C.call 50))(h51:sX (C.call 51))(h54:zL (C.call 54))(h58:yH (C.call 58)):qR (evF ns C cV):=λ{xs A W T Z k dr x m c} h hT hz hn hk hx hdr=>by
 refine cps λG' K=>?_;have hkL:=h.lk.lt hk;have JJ:=h.tw.l;have l:=h.lk.d k hk;have T0':T<=20000:=za hT (by decide);let J1:Env:=[some A.sh,rF (A.q 2),rF (A.q 1),rF (A.q 3),rI k,rS x,rF dr,rI (m.fmod 16),rI (m.fdiv 16),some (ld W.Q k),.none,.none,.none,.none];have e6:∀{r7 r8:Option V},Ev ns C [some A.sh,rF (A.q 2),rF (A.q 1),rF (A.q 3),rI k,rS x,rF dr,r7,r8,.none,.none,.none,.none,.none] (.i (.v 6) (.k (V.int 0))) Z (.int m) Z:=aK rfl rfl (kZ hdr (by decide) rfl);have A1:∀{R:RS},aH ns C J1 Z (cV.body.drop 3)=R->aH ns C [some A.sh,rF (A.q 2),rF (A.q 1),rF (A.q 3),rI k,rS x,rF dr,.none,.none,.none,.none,.none,.none,.none] Z cV.body=R:=λq=>
  aA (bB e6 rfl rfl) rfl (aA (bB e6 rfl rfl) rfl (aA (aK (x:=.ref (A.q 2)) rfl rfl (bw (h.aq 2 ..) (cD JJ hkL))) rfl q))
 have cm:Ev ns C J1 (.g .ne (.i (.v 9) (.k (V.str Ni))) (.k (V.str Ng))) Z (.bool (!decide ((W.S.d k).st=0))) Z:=(aM (aK rfl rfl (pD JJ hkL)) rfl (neS _ _)).trans (gw (iM ..) (gw (l.st ..) rfl));have shA:sh W.P=A.sh:=by show V.inst 1 _=_;exact gw (h.a0 ..) rfl
 by_cases ho:(W.S.d k).st=0
 ·replace cm:=(Uc ho ..)▸cm;refine ex2 (h23 JJ hkL (h.lk.names.symm▸h.sf.nn) (gw (h.lk.names ..) (za (yy (za (j0 h.sf.nn h.sf.nx) hz) (za (h.sl k hk).1.ws T0')) (by decide))) (λx=>gw (h.lk.I ..) (b2 (h.sf.hl x) T0'))) λa Z1 q_h=>?_;refine an4 q_h λe10 g1 a1 ge=>?_;replace e10:=(h.aq 1 ..)▸e10;have fr:=h.tw.s.fr ge;have h1:=(h.gr g1).fz fr (h.tw.l.fr ge) a1;have le1:W.Le { W with F:=upd W.F a (.dict (aZ (sv W.L k) (put [] (W.L.d k).ws))) }:=λi o e=>sU fr.no e;have hD:upd W.F a (.dict (aZ (sv W.L k) (put [] (W.L.d k).ws))) a=some (.dict (aZ (sv W.L k) (put [] (W.L.d k).ws))):=lG ..;let J2:Env:=[some A.sh,rF (A.q 2),rF (A.q 1),rF (A.q 3),rI k,rS x,rF dr,rI (m.fmod 16),rI (m.fdiv 16),some (ld W.Q k),rF a,.none,.none,.none];have A2:∀{R:RS},aH ns C J2 Z1 (cV.body.drop 5)=R->aH ns C [some A.sh,rF (A.q 2),rF (A.q 1),rF (A.q 3),rI k,rS x,rF dr,.none,.none,.none,.none,.none,.none,.none] Z cV.body=R:=λq=>A1 (aL cm (aA (aG rfl e10) rfl q));have cT:∀{j:Int},m.fmod 16<j->Ev ns C J2 (.g .lt (.v 7) (.k (V.int j))) Z1 (.bool true) Z1:=λq=>aM rfl rfl (aBx q);have cF:∀{j:Int},¬m.fmod 16<j->Ev ns C J2 (.g .lt (.v 7) (.k (V.int j))) Z1 (.bool false) Z1:=λq=>aM rfl rfl (aFs q);have ng:∀{p:Prop}{j:Int},m.fmod 16<j->j<=7->m=7->p:=λq w e=>by subst e;exact Ue (wm q w) (by decide)
  by_cases q1:m.fmod 16<4
  ·refine ex3 (zN (ns:=ns) (r:=[]) hm h18 h20 h50 h1 T0' hk ho (hn x hx) hD (r1:=rF (A.q 2)) (r2:=rF (A.q 1)) (r3:=rF (A.q 3)) (r6:=rF dr) (r7:=rI (m.fmod 16)) (r8:=rI (m.fdiv 16)) (r11:=.none) (r12:=.none) (r13:=.none)) λW' Z' J' q_h=>?_;refine an3 q_h λe o s=>?_;exact K ⟨W',Z',aN (fn:=cV) rfl (A2 (bU (cT q1) (aU e))),o.mono (zt _ 2),s.1,le1.tr s.2.2,ng q1 (by decide)⟩
  by_cases q2:m.fmod 16<7
  ·obtain ⟨y,q_h⟩:=(a9e (ns:=ns) (C:=C) (Z:=Z1) (m:=m.fdiv 16) (hn x hx) (r0:=some A.sh) (r1:=rF (A.q 2)) (r2:=rF (A.q 1)) (r3:=rF (A.q 3)) (r4:=rI k) (r6:=rF dr) (r7:=rI (m.fmod 16)) (r9:=some (ld W.Q k)) (r10:=rF a) (r12:=.none) (r13:=.none));refine an3 q_h λhy hg eh=>?_;refine ex3 (v1 (ns:=ns) (r:=[]) hm h19 h21 h51 h1 hT hz hn hk ho hD hy hg (r5:=rS x) (r6:=rF dr) (r7:=rI (m.fmod 16)) (r8:=rI (m.fdiv 16)) (r13:=.none)) λW' Z' J' q_h=>?_;refine an3 q_h λe o s=>?_;exact K ⟨W',Z',aN (fn:=cV) rfl (A2 (aL (cF q1) (bU (cT q2) (aU (eh e))))),o,s.1,le1.tr s.2.2,ng q2 (by decide)⟩
  by_cases q3:m.fmod 16<12
  ·obtain ⟨t,ht,hv⟩:=h17 c;obtain ⟨Z2,e2,g2⟩:=hv Z1;refine ex2 (h27 (h1.gr g2) T0' hk ho (hn x hx) hx ht) λW' Z' q_h=>?_;refine an3 q_h λe o s=>?_;exact K ⟨W',Z',aN (fn:=cV) rfl (A2 (aL (cF q1) (aL (cF q2) (bU (cT q3) (aU (aP (aG (aQ rfl (aQ rfl (aQ rfl (b7 rfl rfl (aG (a9 (aK rfl rfl (kZ (g1.at hdr) (by decide) rfl))) e2))))) e))))))),o.mono (zt _ 2),s.1,le1.tr s.2.2,λz z=>(s.2.1 k).trans ho⟩
  have ng':∀{p:Prop},m=7->p:=λe=>by subst e;exact Ue (by decide) q3
  by_cases q4:m.fmod 16<13
  ·refine ex3 (a0b (ns:=ns) (r:=[]) hm h54 h1 T0' hk ho (m:=m.fdiv 16) (r1:=rF (A.q 2)) (r2:=rF (A.q 1)) (r3:=rF (A.q 3)) (r5:=rS x) (r6:=rF dr) (r7:=rI (m.fmod 16)) (r10:=rF a) (r11:=.none) (r12:=.none)) λW' Z' J' q_h=>?_;refine an3 q_h λe o s=>?_;exact K ⟨W',Z',aN (fn:=cV) rfl (A2 (aL (cF q1) (aL (cF q2) (aL (cF q3) (bU (cT q4) (aU e)))))),o.mono (zt _ 2),s.1,le1.tr s.2.2,ng'⟩
  by_cases q5:m.fmod 16<15
  ·refine ex2 (h28 h1 T0' hz hn hk ho) λW' Z' q_h=>?_;refine an4 q_h λe o s le=>?_;exact K ⟨W',Z',aN (fn:=cV) rfl (A2 (aL (cF q1) (aL (cF q2) (aL (cF q3) (aL (cF q4) (bU (cT q5) (aU (aP (aG rfl e))))))))),o.mono (zt _ 2),s,le1.tr le,ng'⟩
  ·refine ex3 (a0t (ns:=ns) hm h58 h1 hk ho (r1:=rF (A.q 2)) (r2:=rF (A.q 1)) (r3:=rF (A.q 3)) (r5:=rS x) (r6:=rF dr) (r7:=rI (m.fmod 16)) (r8:=rI (m.fdiv 16)) (r10:=rF a) (r11:=.none) (r12:=.none) (r13:=.none)) λW' Z' J' q_h=>?_;refine an4 q_h λe o s le=>?_;exact K ⟨W',Z',aN (fn:=cV) rfl (A2 (aL (cF q1) (aL (cF q2) (aL (cF q3) (aL (cF q4) (aL (cF q5) e)))))),o.mono (zt _ 2),s,le1.tr le,ng'⟩
 ·replace cm:=(Ud ho ..)▸cm;have e:=h26 h.tw.s hk ho (.str x) (m.fmod 16);replace e:=shA▸e;exact K ⟨W,Z,aN (fn:=cV) rfl (A1 (bU cm (aU (aP (aG rfl e))))),h.mono (zt _ 3),rfl,λz z e=>e,λz q=>Ue q ho⟩
end
section
variable{ns:List Int}{C:Calls}{J J':Env}{Z Z' Z1 Z2:H}{xs:List (List Nat)}{A:Ad}{W W' W'':Wl}{S L:St}{T T' k a b n:Nat}
theorem Wl.Le.refl:W.Le W:=λz z e=>e
theorem Ok.pool(h:Ok xs A W T Z):Z[A.q 0]?=some (.list (nV xs)):=h.aq 0▸h.tw.l.b 0 (by decide)
theorem Ok.deals(h:Ok xs A W T Z):biV ns .len (.ref (A.q 2)) Z=.ok (.int W.S.n) Z:=h.aq 2▸(gP h.tw.l).trans (gw (h.lk.n ..) rfl)
theorem sT(l:List (List Nat)):(nV l).length=l.length:=zb ..
theorem aAy{l:List (List Nat)}{i:Nat}(h:i<l.length):(nV l)[i]?=rS (l[i]):=by unfold nV;refine gw (yk ..) (gw (zg h ..) ?_);rfl
theorem tH{e:E}{p:Nat}{m:Int}(h:Ok xs A W T Z)(hx:xs≠[])(hp:∀Z,Ev ns C J (.v p) Z (.ref (A.q 0)) Z)(he:Ev ns C J e Z (.int m) Z):∃x∈xs,Ev ns C J (.i (.v p) (.o .mod e (.bi .len (.v p)))) Z (.str x) Z:=by have hl:(0:Int)<xs.length:=gi.mpr (ja.mpr hx);obtain ⟨z1,z2⟩:=dA m hl;obtain ⟨j,hj⟩:=vi z1;have hj':j<xs.length:=uc.mp (hj▸z2);refine ⟨xs[j],xj hj',aK (hp Z) (bB he (bD (hp Z) ((nT h.pool).trans (gw (sT ..) rfl))) ((qF (kr hl)).trans (gw hj rfl))) (kZ h.pool (zy j) (aAy hj'))⟩
noncomputable abbrev wX(f:Fu):Prop:=∀{xs:List (List Nat)}{A:Ad}{W:Wl}{Z:H},Ok xs A W 0 Z->xs.length<=137->(∀x∈xs,Nm x)->W.S.n=0 ->
 ∃W' Z',f [A.sh,.ref (A.q 2),.ref (A.q 1),.ref (A.q 3),.ref (A.q 0)] Z=.ok (.bool true) Z'/\Ok xs A W' 200 Z'/\W'.S.n<=200
theorem a3f(h17:aDh (C.call 17))(h27:mB (C.call 27))(h28:vE (C.call 28))(h30:lD (C.call 30)):wX (evF ns C mG):=λ{xs A W Z} h hz hn h0=>by
 refine cps λG' K=>?_;refine ex2 (h30 h (by decide)) λW1 Z1 q_h=>?_;refine an5 q_h λe1 o1 n1 s1 z=>?_;rw [h0] at n1 s1;obtain ⟨J',Z2,hF,⟨o5,o6,rfl⟩,W2,o2,n2,s2⟩:=bR (tgt:=m8 5 6) (body:=λJ Z=>aH ns C J Z [.x (.not (.call 27 [(.v 0),(.v 1),(.v 2),(.k (V.int 0)),(.v 6),(.call 17 [(.v 5)])])) [.dead] []]) (it:=λi=>.enum (A.q 0) i)
  (λi J Z'=>(∃o5 o6,J=[some A.sh,rF (A.q 2),rF (A.q 1),rF (A.q 3),rF (A.q 0),o5,o6])/\∃W',Ok xs A W' (1+i) Z'/\W'.S.n=1/\(W'.S.d 0).st=0) (nV xs).length
  (λJ Z p=>by obtain ⟨_,W',o,_⟩:=p;exact rE o.pool)
  (λi J Z' hi p=>by
   obtain ⟨⟨o5,o6,rfl⟩,W',o,n',s'⟩:=p;replace hi:=(sT ..)▸hi;obtain ⟨t,ht,hv⟩:=h17 i;obtain ⟨Z3,e3,g3⟩:=hv Z';have hm:=xj hi;refine ex2 (h27 (k:=0) (o.gr g3) (za (yg (za (yd hi) hz) 1) (by decide)) (n'▸uv) s' (hn _ hm) hm ht) λW'' Z4 q_h=>?_;refine an3 q_h λe4 o4 st4=>?_;exact ⟨_,_,_,Z4,qY o.pool (aAy hi),rfl,aL (cE (aG (aQ rfl (aQ rfl (aQ rfl (b7 rfl rfl (aG rfl e3))))) e4) rfl) aI,⟨_,_,rfl⟩,W'',o4,st4.1.trans n',(st4.2.1 0).trans s'⟩)
  (nV xs).length 0 [some A.sh,rF (A.q 2),rF (A.q 1),rF (A.q 3),rF (A.q 0),.none,.none] Z1 (zp _) ⟨⟨_,_,rfl⟩,W1,o1,n1,s1⟩
 replace o2:=(sT ..)▸o2;refine ex2 (h28 (k:=0) o2 (za (yg hz 1) (by decide)) hz hn (n2▸uv) s2) λW3 Z3 q_h=>?_;refine an4 q_h λe3 o3 n3 z=>?_;exact K ⟨W3,Z3,aN (fn:=mG) rfl (aL (cE (aG rfl e1) rfl) (lK (uR rfl o1.pool) (aB hF (aP (aG rfl e3))))),o3.mono (za (zw (yg hz 1)) (by decide)),by refine gw n3 (gw n2 ?_);decide⟩
structure Nd(xs:List (List Nat)):Prop where
 z:xs.length<=137
 n:∀x∈xs,Nm x
 e:xs≠[]
noncomputable abbrev nA(f:Fu)(M:Nat)(c:Nat):Prop:=∀{xs:List (List Nat)}{A:Ad}{W:Wl}{T:Nat}{Z:H}{m:Nat},Ok xs A W T Z->T<=19000->Nd xs->m<M->0<W.S.n ->
 ∃W' Z',f [A.sh,.ref (A.q 2),.ref (A.q 1),.ref (A.q 3),.ref (A.q 0),.int m] Z=.ok (.bool true) Z'/\Ok xs A W' (T+c) Z'/\W.S.n<=W'.S.n/\W.Le W'
theorem a4k(h28:vE (C.call 28))(h29:qR (C.call 29))(h30:lD (C.call 30)):nA (evF ns C kM) 40 200:=λ{xs A W T Z m} h hT N hM _=>by
 refine cps λG' K=>?_;have hsr:=cO (ns:=ns) (C:=C) (Z:=Z) (J:=[some A.sh,rF (A.q 2),rF (A.q 1),rF (A.q 3),rF (A.q 0),rI m,.none,.none]) (e:=.v 5) (k:=m) rfl (nz _) (ns_ (za (yd hM) (by decide)));replace hsr:=(xa ..)▸hsr;obtain ⟨J',Z2,hF,⟨o6,o7,rfl⟩,W2,o2,n2,l2⟩:=bR (tgt:=dH 6) (body:=λJ Z=>aH ns C J Z [.a 7 (.bi .len (.v 1)),
  .x (.not (.call 30 [(.v 0),(.v 1),(.v 3)])) [.dead] [],
  .x (.not (.call 29 [(.v 0),(.v 1),(.v 2),(.v 3),(.v 7),(.i (.v 4) (.o .mod (.v 6) (.bi .len (.v 4)))),(.list [(.k (V.int 7)),(.v 6)])])) [.dead] [],
  .x (.not (.call 28 [(.v 0),(.v 1),(.v 2),(.v 3),(.v 7)])) [.dead] []]) (it:=λi=>.range i m)
  (λi J Z'=>(∃o6 o7,J=[some A.sh,rF (A.q 2),rF (A.q 1),rF (A.q 3),rF (A.q 0),rI m,o6,o7])/\∃W',Ok xs A W' (T+5*i) Z'/\W.S.n<=W'.S.n/\W.Le W') m (λy y y=>cH)
  (λi J Z' hi p=>by
   refine cps λG' K=>?_;obtain ⟨⟨o6,o7,rfl⟩,W1,o1,n1,l1⟩:=p;have hi':5*i<=195:=gb 5 (yz (zj (ke hi hM) (zf 40)));have hT1:T+5*i<=19195:=yy hT hi';refine ex2 (h30 o1 (za hT1 (by decide))) λW2 Z2 q_h=>?_;refine an5 q_h λe2 o2 n2 s2 l2=>?_;have k2:W1.S.n<W2.S.n:=n2▸yv _;obtain ⟨x,hx,ex⟩:=tH (ns:=ns) (C:=C) (p:=4) (J:=[some A.sh,rF (A.q 2),rF (A.q 1),rF (A.q 3),rF (A.q 0),rI m,rI i,rI W1.S.n]) (e:=.v 6) o2 N.e (λy=>rfl) rfl;have o2':=o2.gr (Gr.app Z2 [O.list [.int 7,.int i]]);refine ex2 (h29 o2' (za (zw hT1) (by decide)) N.z N.n k2 hx (aE Z2 (.list [.int 7,.int i]))) λW3 Z3 q_h=>?_;refine an5 q_h λe3 o3 n3 l3 s3=>?_;refine ex2 (h28 (k:=W1.S.n) o3 (za (yx (zw hT1) 3) (by decide)) N.z N.n (n3▸k2) (s3 rfl s2)) λW4 Z4 q_h=>?_;refine an4 q_h λe4 o4 n4 l4=>?_;exact K ⟨.int i,_,_,Z4,bJ hi,rfl,aA (bD rfl o1.deals) rfl (aL (cE (aG rfl e2) rfl) (aL (cE (aG (aQ rfl (aQ rfl (aQ rfl (aQ rfl (b7 rfl ex (bV (vs:=[.int 7,.int i]) rfl (by show 2<=lim;decide))))))) e3) rfl) (aL (cE (aG rfl e4) rfl) aI))),⟨_,_,rfl⟩,W4,o4,(gw n4 (gw n3 (gw n2 (zn n1)))),((l1.tr l2).tr l3).tr l4⟩)
  m 0 [some A.sh,rF (A.q 2),rF (A.q 1),rF (A.q 3),rF (A.q 0),rI m,.none,.none] Z (zp _) ⟨⟨_,_,rfl⟩,W,h,zf _,.refl⟩
 exact K ⟨W2,Z2,aN (fn:=kM) rfl (bT hsr (aB hF (aP rfl))),o2.mono (yg (gb 5 (yd hM)) T),n2,l2⟩
theorem wI(h29:qR (C.call 29))(h30:lD (C.call 30)):nA (evF ns C g6) 120 200:=λ{xs A W T Z m} h hT N hM h0=>by
 refine cps λG' K=>?_;have hsr:=cO (ns:=ns) (C:=C) (Z:=Z) (J:=[some A.sh,rF (A.q 2),rF (A.q 1),rF (A.q 3),rF (A.q 0),rI m,.none]) (e:=.v 5) (k:=m) rfl (nz _) (ns_ (za (yd hM) (by decide)));replace hsr:=(xa ..)▸hsr;obtain ⟨J',Z2,hF,⟨o6,rfl⟩,W2,o2,n2,l2⟩:=bR (tgt:=dH 6) (body:=λJ Z=>aH ns C J Z [.x (.not (.call 30 [(.v 0),(.v 1),(.v 3)])) [.dead] []]) (it:=λi=>.range i m)
  (λi J Z'=>(∃o6,J=[some A.sh,rF (A.q 2),rF (A.q 1),rF (A.q 3),rF (A.q 0),rI m,o6])/\∃W',Ok xs A W' (T+i) Z'/\W'.S.n=W.S.n+i/\W.Le W') m (λy y y=>cH)
  (λi J Z' hi p=>by
   obtain ⟨⟨o6,rfl⟩,W1,o1,n1,l1⟩:=p;refine ex2 (h30 o1 (za (yy hT (yd (ke hi hM))) (by decide))) λW2 Z2 q_h=>?_;refine an5 q_h λe2 o2 n2 y l2=>?_;exact ⟨.int i,_,_,Z2,bJ hi,rfl,aL (cE (aG rfl e2) rfl) aI,⟨_,rfl⟩,W2,o2,n2.trans (Uf (·+1) n1),l1.tr l2⟩)
  m 0 [some A.sh,rF (A.q 2),rF (A.q 1),rF (A.q 3),rF (A.q 0),rI m,.none] Z (zp _) ⟨⟨_,rfl⟩,W,h,rfl,.refl⟩
 have cq:Ev ns C [some A.sh,rF (A.q 2),rF (A.q 1),rF (A.q 3),rF (A.q 0),rI m,o6] (.g .eq (.v 5) (.k (V.int 0))) Z2 (.bool (decide ((m:Int)=0))) Z2:=aM rfl rfl (eqI _ _);have hm':T+m<=19120:=yy hT (yd hM);by_cases q:m=0
 ·exact K ⟨W2,Z2,aN (fn:=g6) rfl (bT hsr (aB hF (bU (cq.trans (by rw [Uc (show (m:Int)=0 by rw [q];rfl)])) (aU (aP rfl))))),o2.mono (yg (za (yd hM) (by decide)) T),n2▸zt _ _,l2⟩
 ·have cF:decide ((m:Int)=0)=false:=Ud λe=>q (Int.ofNat_eq_zero.mp e);obtain ⟨x,hx,ex⟩:=tH (ns:=ns) (C:=C) (p:=4) (J:=[some A.sh,rF (A.q 2),rF (A.q 1),rF (A.q 3),rF (A.q 0),rI m,o6]) (e:=.v 5) o2 N.e (λy=>rfl) rfl;have hd:m / 2<=m:=Nat.div_le_self m 2;have hw:m / 2+1<=W.S.n+m:=za (yy hd h0) (zu (uz _ _));have ew:((W2.S.n:Nat):Int)-(m:Int).fdiv 2-1=((W.S.n+m-(m / 2+1):Nat):Int):=by
   exact gw n2 (gw (show (m:Int).fdiv 2=((m / 2:Nat):Int) from (Int.ofNat_fdiv m 2).symm▸rfl) (gw (Int.ofNat_sub hw ..) (gw (Int.natCast_add ..) (gw (Int.natCast_add (m / 2) 1 ..) (gw (Int.sub_sub ..) rfl)))))
  have kw:W.S.n+m-(m / 2+1)<W2.S.n:=gw n2 (fy (zj (jm _) hw) (jm _));have o2':=o2.gr (Gr.app Z2 [O.list [.int 7,.int m]]);refine ex2 (h29 o2' (za hm' (by decide)) N.z N.n kw hx (aE Z2 (.list [.int 7,.int m]))) λW3 Z3 q_h=>?_;refine an5 q_h λe3 o3 n3 l3 y=>?_;refine K ⟨W3,Z3,aN (fn:=g6) rfl (bT hsr (aB hF (aL (cq.trans (gw cF rfl)) (aP (aG (aQ rfl (aQ rfl (aQ rfl (aQ rfl (b7 (bB (bB (bD rfl o2.deals) rfl rfl) rfl (show oX .sub (.int ((W2.S.n:Nat)-(m:Int).fdiv 2)) (.int 1) Z2=.ok (.int (W.S.n+m-(m / 2+1):Nat)) Z2 from Uf (λz=>R.ok (V.int z) Z2) ew)) ex (bV (vs:=[.int 7,.int m]) rfl (by show 2<=lim;decide))))))) e3))))),o3.mono ?_,?_,l2.tr l3⟩
  ·exact yg (show m+3<=200 from za (yx (yd hM) 3) (by decide)) T
  ·exact gw n3 (gw n2 (zt _ _))
end
section
variable{ns:List Int}{C:Calls}{J J':Env}{Z Z' Z1 Z2:H}{xs:List (List Nat)}{A:Ad}{W W' W'':Wl}{S L:St}{T T' k a b n:Nat}
theorem a2m{s:Mine.Internal.S}{r:List Mine.Internal.S}{Res:RS}(h:aH ns C J Z [s]=.ok .next J' Z')(h2:aH ns C J' Z' r=Res):aH ns C J Z (s::r)=Res:=by
 rw [cL] at h ⊢;refine aB ?_ h2;cases he:evS ns C J Z s with
 | ok f J Z'=>replace h:=he▸h;cases f <;> exact h
 | exc c J Z'=>replace h:=he▸h;exact h
 | stuck=>replace h:=he▸h;exact h
theorem aCu(h:Ok xs A W T Z){m t:Int}{dr:Nat}(hd:∀i,i=(2:Int)->iB ns (.ref dr) (.int i) Z=.ok (.int t) Z){r0 r2 r3 r4 r8 r9 r10:Option V}:∃w:Int,(0<W.S.n->∃k:Nat,k<W.S.n/\w=k)/\∀{r:List Mine.Internal.S}{R:RS},aH ns C [r0,rF (A.q 2),r2,r3,r4,rF dr,rI m,rI w,r8,r9,r10] Z r=R->aH ns C [r0,rF (A.q 2),r2,r3,r4,rF dr,rI m,.none,r8,r9,r10] Z (.a 7 (.o .sub (.o .sub (.bi .len (.v 1)) (.k (V.int 1))) (.o .mod (.o .fdiv (.v 6) (.k (V.int 800))) (.mm .mx (.k (V.int 1)) (.mm .mn (.bi .len (.v 1)) (.k (V.int 4)))))) ::
 .x (.g .eq (.o .mod (.i (.v 5) (.k (V.int 2))) (.k (V.int 6))) (.k (V.int 2))) [.a 7 (.o .mod (.o .fdiv (.v 6) (.k (V.int 800))) (.mm .mx (.k (V.int 1)) (.mm .mn (.bi .len (.v 1)) (.k (V.int 4)))))] [] ::
 .x (.g .eq (.o .mod (.i (.v 5) (.k (V.int 2))) (.k (V.int 6))) (.k (V.int 5))) [.a 7 (.o .mod (.o .fdiv (.v 6) (.k (V.int 800))) (.mm .mx (.k (V.int 1)) (.bi .len (.v 1))))] []::r)=R:=by
 let z:=m.fdiv 800;let d4:Int:=max 1 (min (W.S.n:Int) 4);let d5:Int:=max 1 (W.S.n:Int);have p4:0<d4:=wm (by decide) (Int.le_max_left 1 _);have p5:0<d5:=wm (by decide) (Int.le_max_left 1 _);have ln:∀{r7:Option V},Ev ns C [r0,rF (A.q 2),r2,r3,r4,rF dr,rI m,r7,r8,r9,r10] (.bi .len (.v 1)) Z (.int W.S.n) Z:=bD rfl h.deals;have e4:∀{r7:Option V},Ev ns C [r0,rF (A.q 2),r2,r3,r4,rF dr,rI m,r7,r8,r9,r10] (.o .mod (.o .fdiv (.v 6) (.k (V.int 800))) (.mm .mx (.k (V.int 1)) (.mm .mn (.bi .len (.v 1)) (.k (V.int 4))))) Z (.int (z.fmod d4)) Z:=bB rfl (zG rfl (aCg ln rfl) rfl) (qF (kr p4));have e5:∀{r7:Option V},Ev ns C [r0,rF (A.q 2),r2,r3,r4,rF dr,rI m,r7,r8,r9,r10] (.o .mod (.o .fdiv (.v 6) (.k (V.int 800))) (.mm .mx (.k (V.int 1)) (.bi .len (.v 1)))) Z (.int (z.fmod d5)) Z:=bB rfl (zG rfl ln rfl) (qF (kr p5));have c:∀{r7:Option V}{j:Int},Ev ns C [r0,rF (A.q 2),r2,r3,r4,rF dr,rI m,r7,r8,r9,r10] (.g .eq (.o .mod (.i (.v 5) (.k (V.int 2))) (.k (V.int 6))) (.k (V.int j))) Z (.bool (decide (t.fmod 6=j))) Z:=aM (bB (aK rfl rfl (hd 2 rfl)) rfl rfl) rfl (eqI _ _);let w1:Int:=if decide (t.fmod 6=2) then z.fmod d4 else (W.S.n:Int)-1-z.fmod d4;let w2:Int:=if decide (t.fmod 6=5) then z.fmod d5 else w1;obtain ⟨f1,f2⟩:=dA z p4;obtain ⟨g1,g2⟩:=dA z p5;refine ⟨w2,λh0=>?_,λq=>aA (bB (bB ln rfl rfl) e4 rfl) rfl (lA c e4 rfl (J':=[r0,rF (A.q 2),r2,r3,r4,rF dr,rI m,rI w1,r8,r9,r10]) (by show _=if _ then _ else _;cases hb:decide (t.fmod 6=2) <;> (show [_,_,_,_,_,_,_,rI (if decide (t.fmod 6=2) then _ else _),_,_,_]=_;exact gw hb rfl)) (lA c e5 rfl (by show [_,_,_,_,_,_,_,rI (if decide (t.fmod 6=5) then z.fmod d5 else w1),_,_,_]=_;cases decide (t.fmod 6=5) <;> rfl) q))⟩;have n1:(1:Int)<=W.S.n:=xd.mpr h0;have l4:d4<=W.S.n:=Int.max_le.mpr ⟨n1,Int.min_le_left _ _⟩;have l5:d5<=W.S.n:=Int.max_le.mpr ⟨n1,Int.le_refl _⟩;have fin:∀{w:Int},0<=w->w<W.S.n->∃k:Nat,k<W.S.n/\w=k:=λa b=>by
  obtain ⟨k,hk⟩:=vi a;exact ⟨k,uc.mp (hk▸b),hk⟩
 have a4:z.fmod d4<W.S.n:=wm f2 l4;show ∃k:Nat,k<W.S.n/\(if decide (t.fmod 6=5)=true then z.fmod d5 else (if decide (t.fmod 6=2)=true then z.fmod d4 else (W.S.n:Int)-1-z.fmod d4))=(k:Int);cases decide (t.fmod 6=5) with
 | true=>exact fin g1 (wm g2 l5)
 | false=>
  cases decide (t.fmod 6=2) with
  | true=>exact fin f1 a4
  | false=>exact fin (Int.sub_nonneg.mpr (Int.le_sub_one_of_lt a4)) (vp (Int.sub_le_self _ f1) (Int.sub_lt_self _ (by decide)))
theorem a9b(h29:qR (C.call 29))(h30:lD (C.call 30))(h37:nA (C.call 37) 40 200)(h39:nA (C.call 39) 120 200)(h:Ok xs A W T Z)(hT:T<=18000)(N:Nd xs){m w c t:Int}{dr:Nat}{x:List Nat}(hw:0<W.S.n->∃k:Nat,k<W.S.n/\w=k)(hx:x∈xs)(hd:Z[dr]?=some (.list [.int m,.int c,.int t])):
  ∃W' Z' k,aH ns C [some A.sh,rF (A.q 2),rF (A.q 1),rF (A.q 3),rF (A.q 0),rF dr,rI m,rI w,rS x,some (.bool true),.none] Z [.x (.or [(.g .eq (.v 1) (.list [])),(.g .eq (.o .mod (.v 6) (.k (V.int 5))) (.k (V.int 0)))]) [.a 7 (.bi .len (.v 1)),
  .a 9 (.call 30 [(.v 0),(.v 1),(.v 3)])] [.x (.and [(.g .eq (.o .mod (.o .fdiv (.v 6) (.k (V.int 5))) (.k (V.int 80))) (.k (V.int 7))),(.g .lt (.bi .len (.v 1)) (.k (V.int 60)))]) [.a 9 (.call 37 [(.v 0),(.v 1),(.v 2),(.v 3),(.v 4),(.o .mod (.o .fdiv (.v 6) (.k (V.int 800))) (.k (V.int 40)))])] [.x (.and [(.g .eq (.o .mod (.o .fdiv (.v 6) (.k (V.int 5))) (.k (V.int 160))) (.k (V.int 8))),(.g .lt (.bi .len (.v 1)) (.k (V.int 60)))]) [.a 9 (.call 39 [(.v 0),(.v 1),(.v 2),(.v 3),(.v 4),(.o .mod (.o .fdiv (.v 6) (.k (V.int 800))) (.k (V.int 120)))])] [.a 9 (.call 29 [(.v 0),(.v 1),(.v 2),(.v 3),(.v 7),(.v 8),(.list [(.o .fdiv (.v 6) (.k (V.int 1315200))),(.i (.v 5) (.k (V.int 1)))])])]]]]=.ok .next [some A.sh,rF (A.q 2),rF (A.q 1),rF (A.q 3),rF (A.q 0),rF dr,rI m,rI (k:Nat),rS x,some (.bool true),.none] Z'/\Ok xs A W' (T+200) Z'/\k<W'.S.n/\W.Le W':=by
 refine cps λG' K=>?_;let J1:Env:=[some A.sh,rF (A.q 2),rF (A.q 1),rF (A.q 3),rF (A.q 0),rF dr,rI m,rI w,rS x,some (.bool true),.none];let Z1:=Z++[O.list []];have g1:Gr Z Z1:=Gr.app Z _;have h1:=h.gr g1;have hT1:T<=20000:=za hT (by decide);have dl:Z1[A.q 2]?=some (.list ((zs W.S.n).map λk=>ld W.Q k)):=bw (h.aq 2 ..) (bw (h.lk.n ..) (h1.tw.l.b 2 (by decide)));have ce:Ev ns C J1 (.g .eq (.v 1) (.list [])) Z (.bool ((zs W.S.n).map λk=>ld W.Q k).isEmpty) Z1:=aM rfl (bV rfl (yj _)) (eqL (neg:=false) dl (aE Z _) (sP _));rw [show ((zs W.S.n).map λk=>ld W.Q k).isEmpty=decide (W.S.n=0) by
  rw [List.isEmpty_map,uh,List.isEmpty_iff,decide_eq_true_eq,List.range_eq_nil]] at ce
 have cm:Ev ns C J1 (.g .eq (.o .mod (.v 6) (.k (V.int 5))) (.k (V.int 0))) Z1 (.bool (decide (m.fmod 5=0))) Z1:=aM rfl rfl (eqI _ _);have beg:Ev ns C J1 (.or [(.g .eq (.v 1) (.list [])),(.g .eq (.o .mod (.v 6) (.k (V.int 5))) (.k (V.int 0)))]) Z (.bool true) Z1->G':=λhe=>by
  refine ex2 (h30 h1 hT1) λW2 Z2 q_h=>?_;refine an5 q_h λe2 o2 n2 y l2=>?_;exact K ⟨W2,Z2,W.S.n,bU he (aB (aA (bD rfl h1.deals) rfl (aA (aG rfl e2) rfl aI)) aI),o2.mono (yg (by decide) T),n2▸yv _,l2⟩
 by_cases q0:W.S.n=0
 ·exact beg (orT (ce.trans (gw (Uc q0 ..) rfl)))
 replace ce:=(Ud q0 ..)▸ce;by_cases q1:m.fmod 5=0
 ·exact beg (orF ce (or1 (cm.trans (gw (Uc q1 ..) rfl))))
 have c1:Ev ns C J1 (.or [(.g .eq (.v 1) (.list [])),(.g .eq (.o .mod (.v 6) (.k (V.int 5))) (.k (V.int 0)))]) Z (.bool false) Z1:=orF ce (or1 (cm.trans (gw (Ud q1 ..) rfl)));have hp:0<W.S.n:=uf q0;obtain ⟨k,hk,rfl⟩:=hw hp;have c2:∀{j v:Int},j≠0->Ev ns C J1 (.and [(.g .eq (.o .mod (.o .fdiv (.v 6) (.k (V.int 5))) (.k (V.int j))) (.k (V.int v))),(.g .lt (.bi .len (.v 1)) (.k (V.int 60)))]) Z1 (.bool (decide ((m.fdiv 5).fmod j=v)&&decide ((W.S.n:Int)<60))) Z1:=λhj=>a6b (aM (bB rfl rfl (qF hj)) rfl (eqI _ _)) (aM (bD rfl h1.deals) rfl (a3d _ _));have many:∀{j:Int} (hj:0<j),∃i:Nat,(i:Int)<j/\Ev ns C J1 (.o .mod (.o .fdiv (.v 6) (.k (V.int 800))) (.k (V.int j))) Z1 (.int (i:Int)) Z1:=λ{j} hj=>by
  obtain ⟨a,b⟩:=dA (m.fdiv 800) hj;obtain ⟨i,hi⟩:=vi a;exact ⟨i,hi▸b,(bB rfl rfl (qF (kr hj))).trans (bw hi rfl)⟩
 have hT2:T<=19000:=za hT (by decide);cases b2':(decide ((m.fdiv 5).fmod 80=7)&&decide ((W.S.n:Int)<60)) with
 | true=>
  obtain ⟨i,hi,ei⟩:=many (j:=40) (by decide);refine ex2 (h37 h1 hT2 N (uc.mp hi) hp) λW2 Z2 q_h=>?_;refine an4 q_h λe2 o2 n2 l2=>?_;exact K ⟨W2,Z2,k,mX (p:=false) c1 (aB (bU ((c2 (by decide)).trans (gw b2' rfl)) (aB (aA (aG (aQ rfl (aQ rfl (aQ rfl (b7 rfl rfl ei)))) e2) rfl aI) aI)) aI),o2,zj hk n2,l2⟩
 | false=>
  cases b3:(decide ((m.fdiv 5).fmod 160=8)&&decide ((W.S.n:Int)<60)) with
  | true=>
   obtain ⟨i,hi,ei⟩:=many (j:=120) (by decide);refine ex2 (h39 h1 hT2 N (uc.mp hi) hp) λW2 Z2 q_h=>?_;refine an4 q_h λe2 o2 n2 l2=>?_;exact K ⟨W2,Z2,k,mX (p:=false) c1 (aB (mX (p:=false) ((c2 (by decide)).trans (gw b2' rfl)) (aB (bU ((c2 (by decide)).trans (gw b3 rfl)) (aB (aA (aG (aQ rfl (aQ rfl (aQ rfl (b7 rfl rfl ei)))) e2) rfl aI) aI)) aI)) aI),o2,zj hk n2,l2⟩
  | false=>
   refine ex2 (h29 (m:=m.fdiv 1315200) (c:=c) (h1.gr (Gr.app Z1 [O.list [.int (m.fdiv 1315200),.int c]])) (za hT (by decide)) N.z N.n hk hx (aE Z1 _)) λW2 Z2 q_h=>?_;refine an5 q_h λe2 o2 n2 l2 y=>?_;exact K ⟨W2,Z2,k,mX (p:=false) c1 (aB (mX (p:=false) ((c2 (by decide)).trans (gw b2' rfl)) (aB (mX (p:=false) ((c2 (by decide)).trans (gw b3 rfl)) (aB (aA (aG (aQ rfl (aQ rfl (aQ rfl (aQ rfl (b7 rfl rfl (bV (bW rfl (aK rfl rfl (kZ (g1.at hd) (by decide) rfl))) (by show 2<=lim;decide))))))) e2) rfl aI) aI)) aI)) aI),o2.mono (yg (by decide) T),n2.symm▸hk,l2⟩
noncomputable abbrev a5i(f:Fu):Prop:=∀{xs:List (List Nat)}{A:Ad}{W:Wl}{T:Nat}{Z:H}{m c t:Int}{dr:Nat},Ok xs A W T Z->T<=18000->Nd xs->Z[dr]?=some (.list [.int m,.int c,.int t]) ->
 ∃W' Z',f [A.sh,.ref (A.q 2),.ref (A.q 1),.ref (A.q 3),.ref (A.q 0),.ref dr] Z=.ok (.bool true) Z'/\Ok xs A W' (T+203) Z'/\W.Le W'
theorem a7g(hm:C.U=aJ T0)(h11:∀i Z,C.call 11 [.int i] Z=.ok (.bool true) Z)(h29:qR (C.call 29))(h30:lD (C.call 30))(h36:sQ (C.call 36))(h37:nA (C.call 37) 40 200)(h38:w0 (C.call 38))(h39:nA (C.call 39) 120 200)(h65:sC (C.call 65)):a5i (evF ns C j4):=λ{xs A W T Z m c t dr} h hT N hd=>by
 refine cps λG' K=>?_;obtain ⟨w,hw,ew⟩:=aCu (ns:=ns) (C:=C) (m:=m) (t:=t) h (dr:=dr) (λi e=>by subst e;exact kZ hd (by decide) rfl) (r0:=some A.sh) (r2:=rF (A.q 1)) (r3:=rF (A.q 3)) (r4:=rF (A.q 0)) (r8:=.none) (r9:=.none) (r10:=.none);obtain ⟨x,hx,ex⟩:=tH (ns:=ns) (C:=C) (p:=4) (J:=[some A.sh,rF (A.q 2),rF (A.q 1),rF (A.q 3),rF (A.q 0),rF dr,rI m,rI w,.none,.none,.none]) (e:=.o .fdiv (.v 6) (.k (V.int 9600))) (m:=m.fdiv 9600) h N.e (λu=>rfl) rfl;refine ex3 (a9b (ns:=ns) h29 h30 h37 h39 h hT N hw hx hd) λW1 Z1 k q_h=>?_;refine an4 q_h λe1 o1 hk l1=>?_;have hT1:T+200<=18200:=yx hT 200;let J1:Env:=[some A.sh,rF (A.q 2),rF (A.q 1),rF (A.q 3),rF (A.q 0),rF dr,rI m,rI (k:Nat),rS x,some (.bool true),.none];have A1:∀{R:RS},aH ns C J1 Z1 (j4.body.drop 7)=R->aH ns C [some A.sh,rF (A.q 2),rF (A.q 1),rF (A.q 3),rF (A.q 0),rF dr,.none,.none,.none,.none,.none] Z j4.body=R:=λq=>
  aA (aK rfl rfl (kZ hd (by decide) rfl)) rfl (ew (aA ex rfl (aA rfl rfl (a2m e1 q))))
 have sw:∃W2 Z2 o,aH ns C J1 Z1 [.x (.g .eq (.o .mod (.o .fdiv (.v 6) (.k (V.int 100))) (.k (V.int 8))) (.k (V.int 0))) [.a 10 (.u (.v 0) NP []),.a 9 (.and [(.v 9),(.call 11 [(.v 10)]),(.g .eq (.v 10) (.call 38 [(.v 1),(.v 2),(.bi .len (.v 3))]))])] []]=.ok .next [some A.sh,rF (A.q 2),rF (A.q 1),rF (A.q 3),rF (A.q 0),rF dr,rI m,rI (k:Nat),rS x,some (.bool true),o] Z2/\Ok xs A W2 (T+200) Z2/\W1.Sto W2:=by
  have cs:Ev ns C J1 (.g .eq (.o .mod (.o .fdiv (.v 6) (.k (V.int 100))) (.k (V.int 8))) (.k (V.int 0))) Z1 (.bool (decide ((m.fdiv 100).fmod 8=0))) Z1:=aM rfl rfl (eqI _ _);by_cases q:(m.fdiv 100).fmod 8=0
  ·refine ex4 (aCw (ns:=ns) hm h38 h65 o1 (za hT1 (by decide)) N.z) λW2 Z2 Z3 g q_h=>?_;refine an6 q_h λe2 lo lr e3 o3 s3=>?_;exact ⟨W2,Z3,_,bU (cs.trans (gw (Uc q ..) rfl)) (aB (aA (aV rfl lo rfl e2) rfl (aA (v:=.bool true) (hU rfl (hU (aG rfl (h11 _ _)) (jR (aM rfl (aG (b7 rfl rfl (bD rfl lr)) e3) ((eqI _ _).trans (gw (Uc rfl ..) rfl)))))) rfl aI)) aI),o3,s3⟩
  ·exact ⟨W1,Z1,.none,aL (cs.trans (gw (Ud q ..) rfl)) aI,o1,.refl⟩
 refine ex3 (sw) λW2 Z2 o q_h=>?_;refine an3 q_h λe2 o2 s2=>?_;obtain ⟨z1,z2⟩:=dA (m.fdiv 7) (y:=4) (by decide);obtain ⟨v,hv⟩:=vi z1;refine ex2 (h36 (k:=k) (w:=v) o2 (za hT1 (by decide)) (s2.1.symm▸hk) (N.n x hx) (uc.mp (hv▸z2))) λW3 Z3 q_h=>?_;refine an3 q_h λe3 o3 s3=>?_;have ev:∀{Z:H},Ev ns C [some A.sh,rF (A.q 2),rF (A.q 1),rF (A.q 3),rF (A.q 0),rF dr,rI m,rI (k:Nat),rS x,some (.bool true),o] (.o .mod (.o .fdiv (.v 6) (.k (V.int 7))) (.k (V.int 4))) Z (.int (v:Nat)) Z:=(bB rfl rfl (qF (by decide))).trans (bw hv rfl);refine K ⟨W3,Z3,aN (fn:=j4) rfl (A1 (?_:_=RS.ok _ [some A.sh,rF (A.q 2),rF (A.q 1),rF (A.q 3),rF (A.q 0),rF dr,rI m,rI (k:Nat),rS x,some (.bool true),o] Z3)),o3,(l1.tr s2.2.2).tr s3.2.2⟩;have fin:aH ns C [some A.sh,rF (A.q 2),rF (A.q 1),rF (A.q 3),rF (A.q 0),rF dr,rI m,rI (k:Nat),rS x,some (.bool true),o] Z2 [.ret (.and [(.v 9),(.call 36 [(.v 0),(.v 1),(.v 2),(.v 3),(.v 7),(.v 8),(.o .mod (.o .fdiv (.v 6) (.k (V.int 7))) (.k (V.int 4)))])])]=.ok (.ret (.bool true)) _ Z3:=aP (hU rfl (jR (aG (aQ rfl (aQ rfl (aQ rfl (aQ rfl (b7 rfl rfl ev))))) e3)));exact a2m e2 fin
end
noncomputable def s0:St:=⟨0,λz=>dl0 0,[],[],λz=>[]⟩
noncomputable def P0(L:Nat):Pl:=⟨λc=>match c with | .b j=>L+j | _=>0,λi=>.b (i-L)⟩
noncomputable def Q0(p d:Nat):Pl:=⟨λc=>match c with | .b 0=>p | .b 1=>d+1 | .b 2=>d | .b _=>d+2 | _=>0,λi=>if i=p then .b 0 else if i=d then .b 2 else if i=d+1 then .b 1 else .b 3⟩
theorem a3m{xs:List V}(h:i9 xs):∃ks:List (List Nat),xs=nV ks/\∀x∈ks,Nm x:=by
 induction xs with
 | nil=>exact ⟨[],rfl,λz h=>Ue h yl⟩
 | cons v xs ih=>
  obtain ⟨n,e,hn⟩:=h v zm;obtain ⟨ks,e',hk⟩:=ih λu hu=>h u (zr _ hu);exact ⟨n::ks,gw e (gw e' rfl),λx hx=>(ye.mp hx).elim (λq=>q▸hn) (hk x)⟩
noncomputable abbrev aBa(C:Calls):Prop:=∀(k:Int) (Z:H),0<=k->∃y:Int,C.call 12 [.scr,.int k] Z=.ok (.int y) Z
noncomputable abbrev aFg(C:Calls):Prop:=∀(a b:Int) (Z:H),∃l xs Z',C.call 16 [.int a,.int b] Z=.ok (.ref l) Z'/\Gr Z Z'/\Z'[l]?=some (.list xs)/\xs≠[]/\xs.length<=137/\i9 xs
section
variable{ns:List Int}{C:Calls}{J:Env}{Z Z':H}{xs:List (List Nat)}{A:Ad}{W:Wl}{n T:Nat}
theorem qC:evF ns C cZ [.inst 1 Z.length] (Z++[.dict []])=.ok .none (Z++[.dict (shE (Z.length+1) (Z.length+2) (Z.length+3))]++[.dict [],.list [],.list []]):=by have e:Z++[O.dict []]=Z++[O.dict []]++[]:=(yw _).symm;exact gw e (m3 (fn:=cZ) rfl (eI (oV _ _) rfl (k6 rfl) (eI (j7 _ _) rfl (k6 rfl) (eI (j7 _ _) rfl (k6 rfl) aI))))
theorem aFd(Z:H)(o o1 o2 o3:O):(Z++[o]++[o1,o2,o3]).length=Z.length+4:=gw (zd ..) (gw (zd ..) rfl)
theorem aIj(x y:Int)(hx:small x=true):oX .mul (.int x) (.int y) Z=.ok (.int (x*y)) Z:=by show (if (small x || small y)=true then M.ret (V.int (x*y)) else stuck) Z=_;exact gw hx (gw (Bool.true_or ..) (gw (Ua rfl ..) rfl))
theorem ok0{p:Nat}(hp:Z[p]?=some (.list (nV xs))):Ok xs ⟨Z.length,(Q0 p (Z.length+4)).A ∘ .b⟩ ⟨nof,s0,P0 Z.length,s0,Q0 p (Z.length+4)⟩ 0 (Z++[.dict (shE (Z.length+1) (Z.length+2) (Z.length+3))]++[.dict [],.list [],.list []]++[.list []]++[.dict []]++[.list []]):=by
 let Z1:=Z++[O.dict (shE (Z.length+1) (Z.length+2) (Z.length+3))]++[.dict [],.list [],.list []];have l1:Z1.length=Z.length+4:=aFd ..;let Z2:=Z1++[O.list []];let Z3:=Z2++[O.dict []];let Z4:=Z3++[O.list []];have l2:Z2.length=Z.length+5:=(bH _ _).trans (Uf (·+1) l1);have l3:Z3.length=Z.length+6:=(bH _ _).trans (Uf (·+1) l2);have hpl:p<Z.length:=(zc.mp hp).1;have g1:Gr Z1 Z4:=(Gr.app Z1 _).tr ((Gr.app Z2 _).tr (Gr.app Z3 _));have np:∀i,Z.length+i≠p:=λi=>wq (zj hpl (zt _ _));have I:Inv nof s0 (P0 Z.length) Z1:=⟨λc l=>by
  cases c with
  | b j=>exact ⟨below (motive:=λj=>(Z++[O.dict (shE (Z.length+1) (Z.length+2) (Z.length+3))]++[.dict [],.list [],.list []])[Z.length+j]?=some (oY shK s0 (P0 Z.length) j)) (show j<4 from l) ⟨⟨⟨⟨trivial,tF Z _ _⟩,iY Z _ _ 0⟩,iY Z _ _ 1⟩,iY Z _ _ 2⟩,Uf Cell.b (xe Z.length j)⟩
  | d j k=>exact Ue l.2 (xi _)
  | h x=>exact Ue l yl,λz z e=>by cases e⟩
 have JJ:Lv xs nof s0 (Q0 p (Z.length+4)) Z4:=⟨λc l=>by
  cases c with
  | b j=>
   refine below (motive:=λj=>Z4[(Q0 p (Z.length+4)).A (.b j)]?=some (oY (lwK xs) s0 (Q0 p (Z.length+4)) j)/\(Q0 p (Z.length+4)).ow ((Q0 p (Z.length+4)).A (.b j))=.b j) (show j<4 from l) ⟨⟨⟨⟨trivial,?_,Ua rfl⟩,?_,?_⟩,?_,?_⟩,?_,?_⟩
   ·exact (((Gr.app Z _).tr (Gr.app _ _)).tr g1).at hp
   ·show Z4[Z.length+4+1]?=some (O.dict []);exact gw (show Z.length+4+1=Z2.length from l2.symm) ((Gr.app Z3 _).at (aE Z2 _))
   ·show (if Z.length+4+1=p then _ else if Z.length+4+1=Z.length+4 then _ else if Z.length+4+1=Z.length+4+1 then _ else _)=_;exact gw (Ub (np 5) ..) (gw (Ub (uo _) ..) (gw (Ua rfl ..) rfl))
   ·show Z4[Z.length+4]?=some (O.list []);exact bw l1 (((Gr.app Z2 _).tr (Gr.app Z3 _)).at (aE Z1 _))
   ·show (if Z.length+4=p then _ else if Z.length+4=Z.length+4 then _ else _)=_;exact gw (Ub (np 4) ..) (gw (Ua rfl ..) rfl)
   ·show Z4[Z.length+4+2]?=some (O.list []);exact gw (show Z.length+4+2=Z3.length from l3.symm) (aE Z3 _)
   ·show (if Z.length+4+2=p then _ else if Z.length+4+2=Z.length+4 then _ else if Z.length+4+2=Z.length+4+1 then _ else _)=_;exact gw (Ub (np 6) ..) (gw (Ub (wq (jb (by decide))) ..) (gw (Ub (uo _) ..) rfl))
  | d j k=>exact Ue l.2 (xi _)
  | h x=>exact Ue l yl,λz z e=>by cases e⟩
 refine ⟨⟨I.gr g1,JJ,λc c' l l'=>?_⟩,⟨λz z=>rfl,λz h=>Ue h yl,um,zf _,λz=>zf _,um,λz h=>Ue h yl,λz h=>Ue h (xi _),zf _,λz h=>Ue h (xi _)⟩,⟨rfl,rfl,rfl,rfl,λz h=>Ue h (xi _)⟩,λz h=>Ue h (xi _),rfl,λz=>rfl⟩;cases c with
 | b j=>
  cases c' with
  | b j'=>
   have hj:j<4:=l;have hl:Z.length+j<Z.length+4:=gd hj _;refine below (motive:=λj'=>Z.length+j≠(Q0 p (Z.length+4)).A (.b j')) (show j'<4 from l') ⟨⟨⟨⟨trivial,np j⟩,yq (xk hl)⟩,yq hl⟩,yq (xk (xk hl))⟩
  | d j k=>exact Ue l'.2 (xi _)
  | h x=>exact Ue l' yl
 | d j k=>exact Ue l.2 (xi _)
 | h x=>exact Ue l yl
theorem a4v(i n:Nat):aS (.range i n) Z=some (((zs n)[i]?).map λk:Nat=>(.int k,.range (i+1) n)):=by
 show some (if i<n then some (V.int i,It.range (i+1) n) else .none)=_;by_cases h:i<n
 ·refine gw (Ua h ..) (gw (zad h ..) ?_);rfl
 ·rw [Ub h,vc (by rw [we];exact yf.mp h)];rfl
theorem a9i(h:Ok xs A W T Z)(hT:T<=20000){r0 r1 r2 r4 r5 r6 r7:Option V}:
  ∃Z' o,forLoop (dH 8) (λJ Z=>aH ns C J Z [.x (.g .ne (.J (.of (.i (.v 8) (.k (V.str Nv)))) (.v 9) (.g .ne (.i (.v 9) (.k (V.int 0))) (.i (.v 9) (.k (V.int 1))))) (.list [])) [.dead] []]) ((zs W.S.n).map λk=>ld W.Q k).length (.list (A.q 2) 0) [r0,r1,r2,rF (A.q 2),r4,r5,r6,r7,.none] Z=.ok .next [r0,r1,r2,rF (A.q 2),r4,r5,r6,r7,o] Z'/\Gr Z Z':=by
 have dl:∀{Z'},Gr Z Z'->Z'[A.q 2]?=some (.list ((zs W.S.n).map λk=>ld W.Q k)):=λg=>bw (h.aq 2 ..) (bw (h.lk.n ..) ((h.gr g).tw.l.b 2 (by decide)));obtain ⟨J',Z',hF,⟨o,rfl⟩,g⟩:=bR (tgt:=dH 8) (body:=λJ Z=>aH ns C J Z [.x (.g .ne (.J (.of (.i (.v 8) (.k (V.str Nv)))) (.v 9) (.g .ne (.i (.v 9) (.k (V.int 0))) (.i (.v 9) (.k (V.int 1))))) (.list [])) [.dead] []]) (it:=λi=>.list (A.q 2) i)
  (λi J Z'=>(∃o,J=[r0,r1,r2,rF (A.q 2),r4,r5,r6,r7,o])/\Gr Z Z') ((zs W.S.n).map λk=>ld W.Q k).length (λJ Z' p=>bY (dl p.2))
  (λi J Z' hi p=>by
   obtain ⟨⟨o,rfl⟩,g⟩:=p;replace hi:=(we ..)▸(zb ..)▸hi;have h1:=h.gr g;have hkL:=h.lk.lt hi;have hs:=lY h1.tw.l hkL;have kE:=h.sl i hi;obtain ⟨Z'',hg,rfl⟩:=cG (f:=fIf ns C [r0,r1,r2,rF (A.q 2),r4,r5,r6,r7,some (ld W.Q i)] (.v 9) (.g .ne (.i (.v 9) (.k (V.int 0))) (.i (.v 9) (.k (V.int 1))))) (it:=λj=>.list (W.Q.A (.d 2 i)) j) (·=Z') (W.L.d i).said (λv=>v) (λz=>.none) (lm (b2 kE.1.said hT)) rfl (λj Z'' e=>dQ (φ:=λv:V=>v) (gw (List.map_id' ..) (e▸hs)) j) λv hv Z'' e=>by
    refine ex3 (kE.2 v hv) λa b ys q_h=>?_;refine an5 q_h λq_3 ha hb hf z=>?_;obtain rfl:=q_3;subst e;exact ⟨_,mC (aM (aK rfl rfl rfl) (aK rfl rfl rfl) (eqL (neg:=true) (h1.tw.s.fz a _ ha).1 (h1.tw.s.fz b _ hb).1 (oW hf))),rfl⟩
   replace hg:=(show (W.L.d i).said.filterMap (λz=>(.none:Option V))=[] from List.filterMap_eq_nil_iff.mpr λz z=>rfl)▸hg;refine ⟨ld W.Q i,_,_,_,bE (dl g) (by rw [yk,zad hi];rfl),rfl,aL (mI (eP (bN (aK rfl rfl (xB h1.tw.l hkL)) hs) hg) (aE _ _)) aI,⟨_,rfl⟩,g.tr ((Gr.app _ _).tr (Gr.app _ _))⟩)
  ((zs W.S.n).map λk=>ld W.Q k).length 0 [r0,r1,r2,rF (A.q 2),r4,r5,r6,r7,.none] Z (zp _) ⟨⟨_,rfl⟩,Gr.rfl⟩
 exact ⟨Z',o,hF,g⟩
theorem aCs(hm:C.U=aJ T0)(h12:aBa C)(h13:∀(x:Int) (Z:H),∃y:Int,C.call 13 [.int x] Z=.ok (.int y) Z)(h16:aFg C)(hnew:∀Z:H,C.new 1 [] Z=.ok (.inst 1 Z.length) (Z++[.dict (shE (Z.length+1) (Z.length+2) (Z.length+3))]++[.dict [],.list [],.list []]))(h31:wX (C.call 31))(h40:a5i (C.call 40))(h61:∀{G:Fz}{S:St}{P:Pl}{Z:H}{k:Nat},Inv G S P Z->k<S.n->C.call 61 [sh P,.int k] Z=.ok (.str (iL (S.d k).st)) Z)(hl:ns.length<=63):
  ∃Z,evF ns C iX [.scr] []=.ok (.bool true) Z:=by
 refine cps λG' K=>?_;obtain ⟨y0,ey0⟩:=h12 0 [] (by decide);obtain ⟨y1,ey1⟩:=h12 1 [] (by decide);refine ex3 (h16 y0 y1 []) λp xv Z1 q_h=>?_;refine an6 q_h λe16 g1 hp hne hz hN=>?_;obtain ⟨xs,rfl,hn⟩:=a3m hN;have N:Nd xs:=⟨sT xs▸hz,hn,λq=>hne (gw q rfl)⟩;have o0:=ok0 hp;let Z2:=Z1++[O.dict (shE (Z1.length+1) (Z1.length+2) (Z1.length+3))]++[.dict [],.list [],.list []];have l2:Z2.length=Z1.length+4:=aFd ..;have l3:(Z2++[O.list []]).length=Z1.length+4+1:=(bH _ _).trans (Uf (·+1) l2);have l4:(Z2++[O.list []]++[O.dict []]).length=Z1.length+4+2:=(bH _ _).trans (Uf (·+1) l3);generalize hA:(⟨Z1.length,(Q0 p (Z1.length+4)).A ∘ .b⟩:Ad)=A at o0;have q0:A.q 0=p:=bw hA rfl;have q1:A.q 1=Z1.length+4+1:=bw hA rfl;have q2:A.q 2=Z1.length+4:=bw hA rfl;have q3:A.q 3=Z1.length+4+2:=bw hA rfl;have hs:A.sh=.inst 1 Z1.length:=bw hA rfl;have A1:∀{R:RS},aH ns C [some .scr,rF (A.q 0),some A.sh,rF (A.q 2),rF (A.q 1),rF (A.q 3),.none,.none,.none] (Z2++[.list []]++[.dict []]++[.list []]) (iX.body.drop 5)=R->aH ns C [some .scr,.none,.none,.none,.none,.none,.none,.none,.none] [] iX.body=R:=λq=>by
  replace q:=l2▸l4▸l3▸hs▸q3▸q2▸q1▸q0▸q;exact aA (aG (bW (aG rfl ey0) (aG rfl ey1)) e16) rfl (aA (aBm rfl (hnew Z1)) rfl (aA (bV rfl (yj _)) rfl (aA rfl rfl (aA (bV rfl (yj _)) rfl q))))
 generalize Z2++[.list []]++[.dict []]++[.list []]=Z3 at o0 A1;let J1:Env:=[some .scr,rF (A.q 0),some A.sh,rF (A.q 2),rF (A.q 1),rF (A.q 3),.none,.none,.none];obtain ⟨y2,ey2⟩:=h12 0 Z3 (by decide);have f1:∃W1 Z4,Ok xs A W1 200 Z4/\∀{R:RS},aH ns C J1 Z4 (iX.body.drop 6)=R->aH ns C J1 Z3 (iX.body.drop 5)=R:=by
  have cq:Ev ns C J1 (.g .eq (.o .mod (.call 12 [(.v 0),(.k (V.int 0))]) (.k (V.int 2))) (.k (V.int 0))) Z3 (.bool (decide (y2.fmod 2=0))) Z3:=aM (bB (aG rfl ey2) rfl rfl) rfl (eqI _ _);by_cases q:y2.fmod 2=0
  ·refine ex2 (h31 o0 N.z N.n rfl) λW1 Z4 q_h=>?_;refine an3 q_h λe o w=>?_;exact ⟨W1,Z4,o,λr=>aL (hU (cq.trans (gw (Uc q ..) rfl)) (jR (cE (aG rfl e) rfl))) r⟩
  ·exact ⟨_,Z3,o0.mono (by decide),λr=>aL (jU (cq.trans (gw (Ud q ..) rfl))) r⟩
 refine ex2 (f1) λW1 Z4 q_h=>?_;obtain ⟨o1,A2⟩:=q_h;let cs:=cut ns (some 2) (some 92);have cl:cs.length<=63:=za (lO _ _ _) hl;let Z5:=Z4++[O.list (cs.map V.int)];have o5:=(o1.gr (Gr.app Z4 [O.list (cs.map V.int)])).fz (o1.tw.s.fr (zf _)) (o1.tw.l.fr (zf _)) (aE Z4 _);let W5:Wl:={ W1 with F:=upd W1.F Z4.length (.list (cs.map V.int)) };have fz:∀{W':Wl}{T Z},Ok xs A W' T Z->W5.Le W'->Z[Z4.length]?=some (.list (cs.map V.int)):=λo l=>(o.tw.s.fz _ _ (l _ _ (lG ..))).1;have es:cX ns C J1 (.enum (.slice (.v 0) (.k (V.int 2)) (.k (V.int 92)))) Z4=.ok (.enum Z4.length 0,(cs.map V.int).length) Z5:=uR (cJ rfl rfl rfl (show gV ns .scr (.int 2) (.int 92) Z4=.ok (.ref Z4.length) Z5 by show fY (cs.map V.int) Z4=_;exact eU (gw (zb ..) (za cl (by decide))))) (aE Z4 _);obtain ⟨J',Z6,hF,⟨o6,o7,rfl⟩,W6,ok6,-⟩:=bR (tgt:=m8 6 7) (body:=λJ Z=>aH ns C J Z [.x (.not (.call 40 [(.v 2),(.v 3),(.v 4),(.v 5),(.v 1),(.list [(.call 13 [(.o .add (.v 7) (.o .mul (.k (V.int 131)) (.v 6)))]),(.v 7),(.v 6)])])) [.dead] []]) (it:=λi=>.enum Z4.length i)
  (λi J Z'=>(∃o6 o7,J=[some .scr,rF (A.q 0),some A.sh,rF (A.q 2),rF (A.q 1),rF (A.q 3),o6,o7,.none])/\∃W',Ok xs A W' (200+203*i) Z'/\W5.Le W') (cs.map V.int).length
  (λJ Z p=>by obtain ⟨_,W',o,l⟩:=p;exact rE (fz o l))
  (λi J Z' hi p=>by
   obtain ⟨⟨o6,o7,rfl⟩,W',o,l⟩:=p;replace hi:=(zb ..)▸hi;have hi':i<=63:=yd (zj hi cl);obtain ⟨y,ey⟩:=h13 (cs[i]+131*i) Z';refine ex2 (h40 (o.gr (Gr.app Z' [O.list [.int y,.int cs[i],.int i]])) (za (yg (gb 203 hi') 200) (by decide)) N (aE Z' _)) λW2 Z2 q_h=>?_;refine an3 q_h λe2 o2 l2=>?_;refine ⟨_,_,_,Z2,qY (fz o l) (by refine gw (yk ..) (gw (zg hi ..) ?_);rfl),rfl,aL (cE (aG (aQ rfl (aQ rfl (aQ rfl (b7 rfl rfl (bV (b7 (aG (a9 (bB rfl (bB rfl rfl (aIj 131 i (by decide))) rfl)) ey) rfl rfl) (by show 3<=lim;decide)))))) e2) rfl) aI,⟨_,_,rfl⟩,W2,o2,l.tr l2⟩)
  (cs.map V.int).length 0 J1 Z5 (zp _) ⟨⟨_,_,rfl⟩,W5,o5,.refl⟩
 replace ok6:=(zb ..)▸ok6;have hT6:200+203*cs.length<=20000:=za (yg (gb 203 cl) 200) (by decide);refine ex2 (a9i (ns:=ns) (C:=C) ok6 hT6 (r0:=some .scr) (r1:=rF (A.q 0)) (r2:=some A.sh) (r4:=rF (A.q 1)) (r5:=rF (A.q 3)) (r6:=o6) (r7:=o7)) λZ7 o8 q_h=>?_;obtain ⟨hH,g7⟩:=q_h;have o7':=ok6.gr g7;let J7:Env:=[some .scr,rF (A.q 0),some A.sh,rF (A.q 2),rF (A.q 1),rF (A.q 3),o6,o7,o8];have dl:∀{Z'},Gr Z6 Z'->Z'[A.q 2]?=some (.list ((zs W6.S.n).map λk=>ld W6.Q k)):=λg=>bw (ok6.aq 2 ..) (bw (ok6.lk.n ..) ((ok6.gr g).tw.l.b 2 (by decide)));have nl:W6.S.n<=50000:=b2 ok6.sf.nl hT6;let ms:List V:=(zs W6.S.n).map λk=>.str (iL (W6.S.d k).st);obtain ⟨Z8,hg1,e8⟩:=cG (f:=vN ns C J7 (.u (.v 2) NO [(.v 9)])) (it:=λi=>.range i W6.S.n) (·=Z7) (zs W6.S.n) (λk:Nat=>.int k) (λk=>rS (iL (W6.S.d k).st)) (by rw [we];exact lm nl) rfl (λi Z' w=>a4v i _) λk hk Z' e=>by
  subst e;have e61:=h61 o7'.tw.s (xw.mp hk);rw [show sh W6.P=A.sh by show V.inst 1 _=_;rw [o7'.a0]] at e61;exact ⟨_,kO (aV rfl (aFf hm o7' rfl λw w w=>rfl) rfl e61),rfl⟩
 obtain rfl:Z7=Z8:=e8.symm;replace hg1:=(we ..)▸(show (zs W6.S.n).filterMap (λk=>rS (iL (W6.S.d k).st))=ms from congrFun uu _)▸hg1;let Z9:=Z7++[O.list ms];have o9:=o7'.gr (Gr.app Z7 [O.list ms]);have d9:=dl (g7.tr (Gr.app Z7 [O.list ms]));obtain ⟨Z10,hg2,e10⟩:=cG (Z:=Z9) (f:=vN ns C J7 (.i (.v 9) (.k (V.str Ni)))) (it:=λi=>.list (A.q 2) i) (·=Z9) (zs W6.S.n) (λk=>ld W6.Q k) (λk=>rS (iL (W6.S.d k).st)) (gw (we ..) (lm nl)) rfl (λi Z' e=>dQ (e▸d9) i) λk hk Z' e=>by
  subst e;have hk:=xw.mp hk;have em:=pD (ns:=ns) o9.tw.l (ok6.lk.lt hk);replace em:=((ok6.lk.d k hk).st ..)▸em;exact ⟨_,kO (aK rfl rfl em),rfl⟩
 obtain rfl:Z9=Z10:=e10.symm;replace hg2:=(show (zs W6.S.n).length=((zs W6.S.n).map λk=>ld W6.Q k).length from (zb ..).symm)▸(show (zs W6.S.n).filterMap (λk=>rS (iL (W6.S.d k).st))=ms from congrFun uu _)▸hg2;have hsr:=cO (ns:=ns) (C:=C) (J:=J7) (Z:=Z7) (e:=.bi .len (.v 3)) (k:=W6.S.n) (bD rfl o7'.deals) (nz _) (ns_ (za nl (by decide)));replace hsr:=(xa ..)▸hsr;have fm:ms.all nQ=true:=wt.mpr λv hv=>by obtain ⟨_,_,rfl⟩:=vu.mp hv;rfl
 exact K ⟨_,aN (fn:=iX) rfl (A1 (A2 (lK es (aB hF (bT (bN rfl (dl Gr.rfl)) (aB hH (aP (aM (mL hsr hg1) (mL (bN rfl d9) hg2) (eqL (neg:=false) ((Gr.app Z9 _).at (aE Z7 _)) (aE Z9 _) (oW fm))))))))))⟩
end
noncomputable abbrev Cs(ns:List Int)(n:Nat):Calls:=callsOf ns T0 n
section
variable{ns:List Int}
theorem hm_(n:Nat):(Cs ns n).U=aJ T0:=by cases n <;> rfl
theorem a2i(n:Nat):(Cs ns n).sub=a6g:=by cases n <;> rfl
theorem c1(n:Nat)(i:Int)(Z:H):(Cs ns (n+1)).call 1 [.int i] Z=.ok (.bool true) Z:=show evF ns (Cs ns n) nM [.int i] Z=_ from rfl
theorem c11(n:Nat)(i:Int)(Z:H):(Cs ns (n+1)).call 11 [.int i] Z=.ok (.bool true) Z:=show evF ns (Cs ns n) q9 [.int i] Z=_ from rfl
theorem c2(n:Nat):aDm (Cs ns (n+1)):=λx Z hx=>a9p (ns:=ns) (C:=Cs ns n) x hx
theorem c3(n:Nat)(x:List Nat)(Z:H)(hx:x.length<=12):∃Z',(Cs ns (n+2)).call 3 [.str x] Z=.ok (.bool ((x.all λc=>cQ.contains c)&&decide (0<x.length))) Z'/\Gr Z Z':=a6x (ns:=ns) (C:=Cs ns (n+1)) (c2 n) x hx
theorem c46(n:Nat):oE (Cs ns (n+3)):=λs {_} Z hx=>tC (ns:=ns) (C:=Cs ns (n+2)) (c3 n) s hx
theorem c4(n:Nat){t:Option Int}{Z:H}(ht:inR t):(Cs ns (n+2)).call 4 [val t] Z=.ok (.bool true) Z:=a3h (ns:=ns) (C:=Cs ns (n+1)) (c1 n) ht
theorem c5(n:Nat):IsU (Cs ns (n+1)):=λx y Z=>a3y (ns:=ns) (C:=Cs ns n) x y
theorem c6(n:Nat):xA (Cs ns (n+1)):=λhl hz m=>a1m (ns:=ns) (C:=Cs ns n) hl hz m
theorem c7(n:Nat):sY (Cs ns (n+1)):=λhl hz=>a0q (ns:=ns) (C:=Cs ns n) hl hz
theorem c8(n:Nat):qW (Cs ns (n+2)):=λI hk hz m=>oO (ns:=ns) (C:=Cs ns (n+1)) (c6 n) I hk hz m
theorem c9(n:Nat):wL (Cs ns (n+2)):=λI hk hz m=>qH (ns:=ns) (C:=Cs ns (n+1)) (c5 n) I hk hz m
theorem c10(n:Nat):rY (Cs ns (n+1)):=λhr ha hb hz hs hd=>u6 (ns:=ns) (C:=Cs ns n) hr ha hb hz hs hd
theorem c44(n:Nat):a6q (Cs ns (n+2)):=λI hk=>nU (ns:=ns) (C:=Cs ns (n+1)) (c1 n) I hk
theorem c45(n:Nat):dG (Cs ns (n+3)):=λI hk=>⟨tJ (ns:=ns) (C:=Cs ns (n+2)) (hm_ _) (c44 n) I hk,sJ (ns:=ns) (C:=Cs ns (n+2)) (hm_ _) (c44 n) I hk⟩
theorem c47(n:Nat):AtM (Cs ns (n+1)):=λ{_ _ _ _} I hh {_ _}=>tM (ns:=ns) (C:=Cs ns n) I hh
theorem c48(n:Nat):mT (Cs ns (n+2)):=λI hh hk hz m=>vU (ns:=ns) (C:=Cs ns (n+1)) (hm_ _) (c6 n) (c47 n) I hh hk hz m
theorem c56(n:Nat):a5q (Cs ns (n+3)):=λI hj hk hz hh=>qG (ns:=ns) (C:=Cs ns (n+2)) (c7 (n+1)) (c9 n) I hj hk hz hh
theorem c55(n:Nat):yU (Cs ns (n+4)):=λ{_ _ _ _} I {_ _ _} hj hk hz h1 h2 {_} hl=>a3r (ns:=ns) (C:=Cs ns (n+3)) (hm_ _) (c8 (n+1)) (c9 (n+1)) (c56 n) I hj hk hz h1 h2 hl
theorem c49(n:Nat):a4b ((Cs ns (n+2)).call 49):=λI hz=>a2h (ns:=ns) (C:=Cs ns (n+1)) (λr Z=>by show (evF ns (Cs ns n) cC [.inst 0 Z.length,.int r]).bnd (oU 0 Z.length) (Z++[.dict []])=_;exact gw (gA (sD (ns:=ns) (C:=Cs ns n) r) ..) rfl) I hz
theorem c50(n:Nat):yW ((Cs ns (n+4)).call 50):=aBq (ns:=ns) (C:=Cs ns (n+3)) (hm_ _) (c45 n) (c46 n) (c48 (n+1)) (c8 (n+1))
theorem c51(n:Nat):sX ((Cs ns (n+4)).call 51):=a6z (ns:=ns) (C:=Cs ns (n+3)) (hm_ _) (c45 n) (c2 (n+2)) (c5 (n+2)) (c48 (n+1))
theorem c52(n:Nat):vX ((Cs ns (n+4)).call 52):=a9k (ns:=ns) (C:=Cs ns (n+3)) (hm_ _) (c45 n) (c46 n) (λht=>c4 (n+1) ht) (c8 (n+1))
theorem c54(n:Nat):zL ((Cs ns (n+4)).call 54):=aEi (ns:=ns) (C:=Cs ns (n+3)) (hm_ _) (c45 n) (c1 (n+2))
theorem c57(n:Nat):a3j ((Cs ns (n+5)).call 57):=aBr (ns:=ns) (C:=Cs ns (n+4)) (hm_ _) (c45 (n+1)) (c7 (n+3)) (c10 (n+3)) (c55 n) (c56 (n+1))
theorem c58(n:Nat):yH ((Cs ns (n+4)).call 58):=aDf (ns:=ns) (C:=Cs ns (n+3)) (hm_ _) (c45 n)
theorem c65(n:Nat):sC ((Cs ns (n+1)).call 65):=a8f (ns:=ns) (C:=Cs ns n)
theorem aCl(n:Nat):aBp (Cs ns (n+4)):=λI hk ho a b=>⟨a0s (ns:=ns) (C:=Cs ns (n+3)) (hm_ _) (c45 n) I hk ho,v3 (ns:=ns) (C:=Cs ns (n+3)) (hm_ _) (c45 n) I hk ho,wS (ns:=ns) (C:=Cs ns (n+3)) (hm_ _) (c45 n) I hk ho,zO (ns:=ns) (C:=Cs ns (n+3)) (hm_ _) (c45 n) I hk ho,a0i (ns:=ns) (C:=Cs ns (n+3)) (hm_ _) (c45 n) I hk ho,a0j (ns:=ns) (C:=Cs ns (n+3)) (hm_ _) (c45 n) I hk ho⟩
theorem c26(n:Nat):aAw (Cs ns (n+5)):=λI hk h m w=>a7w (ns:=ns) (C:=Cs ns (n+4)) (hm_ _) (a2i _) (aCl n) I hk h m w
theorem c17(n:Nat):aDh ((Cs ns (n+1)).call 17):=λx=>a3s (ns:=ns) (C:=Cs ns n) x
theorem c18(n:Nat):wA (Cs ns (n+2)):=λs t Z=>a8r (ns:=ns) (C:=Cs ns (n+1)) (c11 n) s t
theorem c19(n:Nat):vT (Cs ns (n+3)):=λha hb hz=>a4z (ns:=ns) (C:=Cs ns (n+2)) (c18 n) ha hb hz
theorem c20(n:Nat):nF (Cs ns (n+1)):=λhl hz=>a7q (ns:=ns) (C:=Cs ns n) hl hz
theorem c21(n:Nat):a2c (Cs ns (n+1)):=λhd hj hz hn hv hk h=>qE (ns:=ns) (C:=Cs ns n) hd hj hz hn hv hk h
theorem c22(n:Nat):wN (Cs ns (n+1)):=λha hz=>a0n (ns:=ns) (C:=Cs ns n) ha hz
theorem c23(n:Nat):aBc (Cs ns (n+2)):=λJJ hk hn hz hs=>a9h (ns:=ns) (C:=Cs ns (n+1)) (c20 n) (c22 n) JJ hk hn hz hs
theorem c24(n:Nat):yP (Cs ns (n+1)):=λ{_ _ _ _ _ _} JJ hk hz {_} hn=>z9 (ns:=ns) (C:=Cs ns n) JJ hk hz hn
theorem c25(n:Nat):a5v ((Cs ns (n+2)).call 25):=λJJ hk hr hz hd=>zW (ns:=ns) (C:=Cs ns (n+1)) (c20 n) (c24 n) JJ hk hr hz hd
theorem c27(n:Nat):mB ((Cs ns (n+5)).call 27):=xF (ns:=ns) (C:=Cs ns (n+4)) (hm_ _) (a2i _) (c20 (n+3)) (c52 n)
theorem c28(n:Nat):vE ((Cs ns (n+6)).call 28):=a7k (ns:=ns) (C:=Cs ns (n+5)) (hm_ _) (a2i _) (c11 (n+4)) (c20 (n+4)) (c25 (n+3)) (c57 n)
theorem c29(n:Nat):qR ((Cs ns (n+7)).call 29):=a7j (ns:=ns) (C:=Cs ns (n+6)) (hm_ _) (c17 (n+5)) (c18 (n+4)) (c19 (n+3)) (c20 (n+5)) (c21 (n+5)) (c23 (n+4)) (c26 (n+1)) (c27 (n+1)) (c28 n) (c50 (n+2)) (c51 (n+2)) (c54 (n+2)) (c58 (n+2))
theorem c30(n:Nat):lD ((Cs ns (n+3)).call 30):=a3w (ns:=ns) (C:=Cs ns (n+2)) (hm_ _) (c11 (n+1)) (c49 n)
theorem c31(n:Nat):wX ((Cs ns (n+7)).call 31):=a3f (ns:=ns) (C:=Cs ns (n+6)) (c17 (n+5)) (c27 (n+1)) (c28 n) (c30 (n+3))
theorem c33(n:Nat):gC ((Cs ns (n+2)).call 33) λA k=>[A.sh,.ref (A.q 2),.ref (A.q 3),.int k]:=p9 (ns:=ns) (C:=Cs ns (n+1)) (hm_ _) (λI hz=>a2e (ns:=ns) (C:=Cs ns n) I hz) (λI=>a0p (ns:=ns) (C:=Cs ns n) I)
theorem c61(n:Nat){G:Fz}{S:St}{P:Pl}{Z:H}{k:Nat}(I:Inv G S P Z)(hk:k<S.n):(Cs ns (n+3)).call 61 [sh P,.int k] Z=.ok (.str (iL (S.d k).st)) Z:=a5b (ns:=ns) (C:=Cs ns (n+2)) (hm_ _) (c44 n) I hk
theorem c34(n:Nat):gC ((Cs ns (n+5)).call 34) λA k=>[A.sh,.ref (A.q 2),.int k]:=pT (ns:=ns) (C:=Cs ns (n+4)) (hm_ _) (c11 (n+3)) (λI hk=>c61 (n+1) I hk) (λI hk ho=>a8c (ns:=ns) (C:=Cs ns (n+3)) (hm_ _) (c45 n) I hk ho)
theorem c63(n:Nat):a4s (Cs ns (n+4)):=λ{_ _ _ _} I hh {_} hx=>zY (ns:=ns) (C:=Cs ns (n+3)) (hm_ _) (c46 n) (c47 (n+2)) I hh hx
theorem c64(n:Nat):aBh (Cs ns (n+4)):=λ{_ _ _ _} I hh {_} hx hz=>uE (ns:=ns) (C:=Cs ns (n+3)) (hm_ _) (c46 n) I hh hx hz
theorem c35(n:Nat){x:List Nat}(hx:Nm x):gC ((Cs ns (n+5)).call 35) λA k=>[A.sh,.ref (A.q 2),.ref (A.q 1),.ref (A.q 3),.int k,.str x]:=pA (ns:=ns) (C:=Cs ns (n+4)) (hm_ _) (c18 (n+2)) (c22 (n+3)) (λha hb hz=>a6v (ns:=ns) (C:=Cs ns (n+3)) (c11 (n+2)) (c18 (n+1)) ha hb hz) (c63 n) (c64 n) hx
theorem c36(n:Nat):sQ ((Cs ns (n+6)).call 36):=a1d (ns:=ns) (C:=Cs ns (n+5)) (c33 (n+3)) (c34 n) (λhx=>c35 n hx)
theorem a8h(n:Nat):(Cs ns (n+1)).call 37=evF ns (Cs ns n) kM:=rfl
theorem a3a(n:Nat):(Cs ns (n+1)).call 39=evF ns (Cs ns n) g6:=rfl
theorem c37(n:Nat):nA ((Cs ns (n+8)).call 37) 40 200:=by exact gw (a8h (n+7) ..) (a4k (ns:=ns) (C:=Cs ns (n+7)) (c28 (n+1)) (c29 n) (c30 (n+4)))
theorem c39(n:Nat):nA ((Cs ns (n+8)).call 39) 120 200:=by exact gw (a3a (n+7) ..) (wI (ns:=ns) (C:=Cs ns (n+7)) (c29 n) (c30 (n+4)))
theorem c38(n:Nat):w0 ((Cs ns (n+1)).call 38):=λJJ hn hs hz hl m=>a5p (ns:=ns) (C:=Cs ns n) JJ hn hs hz hl m
theorem c40(n:Nat):a5i ((Cs ns (n+9)).call 40):=a7g (ns:=ns) (C:=Cs ns (n+8)) (hm_ _) (c11 (n+7)) (c29 (n+1)) (c30 (n+5)) (c36 (n+2)) (c37 n) (c38 (n+7)) (c39 n) (c65 (n+7))
theorem c13(n:Nat)(x:Int)(Z:H):∃y:Int,(Cs ns (n+1)).call 13 [.int x] Z=.ok (.int y) Z:=⟨_,a4q (ns:=ns) (C:=Cs ns n) x⟩
theorem c12(n:Nat):aBa (Cs ns (n+1)):=λk Z hk=>by obtain ⟨i,rfl⟩:=vi hk;exact ⟨_,aAl (ns:=ns) (C:=Cs ns n) i⟩
theorem aIe(n:Nat)(Z:H):(Cs ns (n+1)).new 1 [] Z=.ok (.inst 1 Z.length) (Z++[.dict (shE (Z.length+1) (Z.length+2) (Z.length+3))]++[.dict [],.list [],.list []]):=by show (evF ns (Cs ns n) cZ [.inst 1 Z.length]).bnd (oU 1 Z.length) (Z++[.dict []])=_;exact gw (gA (qC (ns:=ns) (C:=Cs ns n)) ..) rfl
theorem pure(ns:List Int)(h:ns.length<=63):∃Z,(callsOf ns T0 12).call 41 [.scr] []=.ok (.bool true) Z:=
 aCs (ns:=ns) (C:=Cs ns 11) (hm_ _) (c12 10) (c13 10)
  (λa b Z=>aAb (ns:=ns) (C:=Cs ns 10) (λc Z=>a6p (ns:=ns) (C:=Cs ns 9) (c13 8) c) (λx c Z h=>a9v (ns:=ns) (C:=Cs ns 9) h c) a b) (aIe 10) (c31 4) (c40 2) (λI hk=>c61 8 I hk) h
end
end Mine.Internal.L11
namespace Mine.Internal
open PySem
structure Ok(P:Prop) where
 b:Bool
 h:b=true->P
section
variable{P Q R:Prop}{α:Type}
noncomputable def Ok.no:Ok P:=⟨false,λh=>by cases h⟩
noncomputable def Ok.map(a:Ok P)(f:P->Q):Ok Q:=⟨a.b,λh=>f (a.h h)⟩
theorem a6b{a b:Bool}(h:(a&&b)=true):a=true/\b=true:=(gz _ _).mp h
noncomputable def Ok.and(a:Ok P)(b:Ok Q)(f:P->Q->R):Ok R:=⟨a.b&&b.b,λh=>f (a.h (a6b h).1) (b.h (a6b h).2)⟩
noncomputable def Ok.iff(p:Prop)[Decidable p](f:p->Ok P):Ok P:=if h:p then f h else .no
noncomputable def Ok.dec(p:Prop)[Decidable p](f:p->P):Ok P:=⟨decide p,λh=>f (of_decide_eq_true h)⟩
noncomputable def Ok.on(o:Option α)(f:α->Ok P):Ok P:=match o with
 | some a=>f a
 | .none=>.no
end
noncomputable def aBe(v w:V):Ok (v=w):=match v with
 | .none=>match w with | .none=>⟨true,λz=>rfl⟩ | _=>.no
 | .bool b=>match w with | .bool c=>.dec (b=c) (Uf V.bool) | _=>.no
 | .int i=>match w with | .int j=>.dec (i=j) (Uf V.int) | _=>.no
 | .str x=>match w with | .str y=>.dec (x=y) (Uf V.str) | _=>.no
 | _=>.no
noncomputable def aGf(k:Const)(v:V):Ok (u8 k=some v):=match u8 k with
 | some w=>(aBe w v).map (Uf some)
 | .none=>.no
noncomputable def aAx(x:Str)(v:V):(l:List (Str×V))->Ok ((x,v)∈l)
 | []=>.no
 | (y,w)::r=>if h:x=y then (aBe v w).map λq=>by refine gw h (gw q ?_);exact zm else (aAx x v r).map λq=>zr _ q
noncomputable abbrev NMt(e:Pg):Type:={ q:Str×Pos // e=.Name q.1 q.2 }
noncomputable def nm(e:Pg):Option (NMt e):=if h:e.ctorIdx=23 then Expr.Name.elim (motive_1:=λe=>Option (NMt e)) e h λa0 a1=>some ⟨(a0,a1),rfl⟩ else .none
noncomputable abbrev CLt(e:Pg):Type:={ q:Pg×List Pg×List Keyword×Pos // e=.Call q.1 q.2.1 q.2.2.1 q.2.2.2 }
noncomputable def cl(e:Pg):Option (CLt e):=if h:e.ctorIdx=16 then Expr.Call.elim (motive_1:=λe=>Option (CLt e)) e h λa0 a1 a2 a3=>some ⟨(a0,a1,a2,a3),rfl⟩ else .none
noncomputable abbrev aEy(e:Pg):Type:={ q:Pg×Str×Pos // e=.Attribute q.1 q.2.1 q.2.2 }
noncomputable def at1(e:Pg):Option (aEy e):=if h:e.ctorIdx=20 then Expr.Attribute.elim (motive_1:=λe=>Option (aEy e)) e h λa0 a1 a2=>some ⟨(a0,a1,a2),rfl⟩ else .none
noncomputable abbrev UNt(e:Pg):Type:={ q:UnaryOp×Pg×Pos // e=.UnaryOp q.1 q.2.1 q.2.2 }
noncomputable def un(e:Pg):Option (UNt e):=if h:e.ctorIdx=3 then Expr.UnaryOp.elim (motive_1:=λe=>Option (UNt e)) e h λa0 a1 a2=>some ⟨(a0,a1,a2),rfl⟩ else .none
noncomputable abbrev BOt(e:Pg):Type:={ q:BoolOp×List Pg×Pos // e=.BoolOp q.1 q.2.1 q.2.2 }
noncomputable def bo(e:Pg):Option (BOt e):=if h:e.ctorIdx=0 then Expr.BoolOp.elim (motive_1:=λe=>Option (BOt e)) e h λa0 a1 a2=>some ⟨(a0,a1,a2),rfl⟩ else .none
noncomputable abbrev CMt(e:Pg):Type:={ q:Pg×List CmpOp×List Pg×Pos // e=.Compare q.1 q.2.1 q.2.2.1 q.2.2.2 }
noncomputable def cm(e:Pg):Option (CMt e):=if h:e.ctorIdx=15 then Expr.Compare.elim (motive_1:=λe=>Option (CMt e)) e h λa0 a1 a2 a3=>some ⟨(a0,a1,a2,a3),rfl⟩ else .none
noncomputable abbrev DTt(e:Pg):Type:={ q:List (Option Pg)×List Pg×Pos // e=.Dict q.1 q.2.1 q.2.2 }
noncomputable def dt(e:Pg):Option (DTt e):=if h:e.ctorIdx=6 then Expr.Dict.elim (motive_1:=λe=>Option (DTt e)) e h λa0 a1 a2=>some ⟨(a0,a1,a2),rfl⟩ else .none
noncomputable abbrev aEw(e:Pg):Type:={ q:Pg×Pg×Pos // e=.Subscript q.1 q.2.1 q.2.2 }
noncomputable def sbs(e:Pg):Option (aEw e):=if h:e.ctorIdx=21 then Expr.Subscript.elim (motive_1:=λe=>Option (aEw e)) e h λa0 a1 a2=>some ⟨(a0,a1,a2),rfl⟩ else .none
noncomputable abbrev aGb(e:Pg):Type:={ q:Option Pg×Option Pg×Option Pg×Pos // e=.Slice q.1 q.2.1 q.2.2.1 q.2.2.2 }
noncomputable def sl3(e:Pg):Option (aGb e):=if h:e.ctorIdx=26 then Expr.Slice.elim (motive_1:=λe=>Option (aGb e)) e h λa0 a1 a2 a3=>some ⟨(a0,a1,a2,a3),rfl⟩ else .none
noncomputable abbrev aFp(e:Pg):Type:={ q:Pg×List Comprehension×Scope×Pos // e=.ListComp q.1 q.2.1 q.2.2.1 q.2.2.2 }
noncomputable def lc0(e:Pg):Option (aFp e):=if h:e.ctorIdx=8 then Expr.ListComp.elim (motive_1:=λe=>Option (aFp e)) e h λa0 a1 a2 a3=>some ⟨(a0,a1,a2,a3),rfl⟩ else .none
noncomputable abbrev TUt(e:Pg):Type:={ q:List Pg×Nat×Pos // e=.Tuple q.1 q.2.1 q.2.2 }
noncomputable def tu(e:Pg):Option (TUt e):=if h:e.ctorIdx=25 then Expr.Tuple.elim (motive_1:=λe=>Option (TUt e)) e h λa0 a1 a2=>some ⟨(a0,a1,a2),rfl⟩ else .none
noncomputable abbrev LIt(e:Pg):Type:={ q:List Pg×Pos // e=.List q.1 q.2 }
noncomputable def li(e:Pg):Option (LIt e):=if h:e.ctorIdx=24 then Expr.List.elim (motive_1:=λe=>Option (LIt e)) e h λa0 a1=>some ⟨(a0,a1),rfl⟩ else .none
noncomputable abbrev CTt(e:Pg):Type:={ q:Const×Nat×Pos // e=.Constant q.1 q.2.1 q.2.2 }
noncomputable def ct(e:Pg):Option (CTt e):=if h:e.ctorIdx=19 then Expr.Constant.elim (motive_1:=λe=>Option (CTt e)) e h λa0 a1 a2=>some ⟨(a0,a1,a2),rfl⟩ else .none
noncomputable abbrev BNt(e:Pg):Type:={ q:Pg×Operator×Pg×Pos // e=.BinOp q.1 q.2.1 q.2.2.1 q.2.2.2 }
noncomputable def bn(e:Pg):Option (BNt e):=if h:e.ctorIdx=2 then Expr.BinOp.elim (motive_1:=λe=>Option (BNt e)) e h λa0 a1 a2 a3=>some ⟨(a0,a1,a2,a3),rfl⟩ else .none
noncomputable def mO{α:Type}(l:List α):Option { x:α // l=[x] }:=match l with | [x]=>some ⟨x,rfl⟩ | _=>.none
noncomputable def a2y{α:Type}(l:List α):Option { x:α×α // l=[x.1,x.2] }:=match l with | [x,y]=>some ⟨(x,y),rfl⟩ | _=>.none
noncomputable def em0{α:Type}(l:List α):Option { _u:Unit // l=[] }:=match l with | []=>some ⟨(),rfl⟩ | _=>.none
noncomputable def emo{α:Type}(o:Option α):Option { _u:Unit // o=none }:=match o with | .none=>some ⟨(),rfl⟩ | _=>.none
theorem c4{f f':Pg}{xs xs':List Pg}{ks ks':List Keyword}{p:Pos}(h1:f=f')(h2:xs=xs')(h3:ks=ks'):Expr.Call f xs ks p=.Call f' xs' ks' p:=by cases h1;cases h2;cases h3;rfl
noncomputable def smo{α:Type}(o:Option α):Option { x:α // o=some x }:=match o with | some x=>some ⟨x,rfl⟩ | _=>.none
noncomputable abbrev NC(e:Pg):Type:={ q:Str×Pos×List Pg×Pos // e=.Call (.Name q.1 q.2.1) q.2.2.1 [] q.2.2.2 }
noncomputable def nc(e:Pg):Option (NC e):=(cl e).bind λq=>(nm q.1.1).bind λn=>(em0 q.1.2.2.1).map λk=>⟨(n.1.1,n.1.2,q.1.2.1,q.1.2.2.2),q.2.trans (c4 n.2 rfl k.2)⟩
theorem aFy(k:Keyword):k=⟨k.arg,k.value,k.pos⟩:=by cases k;rfl
noncomputable abbrev KC(e:Pg):Type:={ q:Str×Pos×Pg×Option Str×Pg×Pos×Pos // e=.Call (.Name q.1 q.2.1) [q.2.2.1] [⟨q.2.2.2.1,q.2.2.2.2.1,q.2.2.2.2.2.1⟩] q.2.2.2.2.2.2 }
noncomputable def kc(e:Pg):Option (KC e):=(cl e).bind λq=>(nm q.1.1).bind λn=>(mO q.1.2.1).bind λx=>(mO q.1.2.2.1).map λk=>⟨(n.1.1,n.1.2,x.1,k.1.arg,k.1.value,k.1.pos,q.1.2.2.2),q.2.trans (c4 n.2 x.2 (k.2.trans (Uf (λz=>[z]) (aFy k.1))))⟩
noncomputable abbrev AC(e:Pg):Type:={ q:Pg×Str×Pos×List Pg×Pos // e=.Call (.Attribute q.1 q.2.1 q.2.2.1) q.2.2.2.1 [] q.2.2.2.2 }
noncomputable def ac(e:Pg):Option (AC e):=(cl e).bind λq=>(at1 q.1.1).bind λn=>(em0 q.1.2.2.1).map λk=>⟨(n.1.1,n.1.2.1,n.1.2.2,q.1.2.1,q.1.2.2.2),q.2.trans (c4 n.2 rfl k.2)⟩
noncomputable abbrev LC(e:Pg):Type:={ q:Pg×Str×Pos×Pg×List Pg×Scope×Pos // e=.ListComp q.1 [⟨.Name q.2.1 q.2.2.1,q.2.2.2.1,q.2.2.2.2.1,0⟩] q.2.2.2.2.2.1 q.2.2.2.2.2.2 }
theorem aFh{g:Comprehension}{x:Str}{p:Pos}(h:g.target=.Name x p)(h0:g.is_async=0):g=⟨.Name x p,g.iter,g.ifs,0⟩:=by cases g;cases h;cases h0;rfl
noncomputable def lc(e:Pg):Option (LC e):=(lc0 e).bind λq=>(mO q.1.2.1).bind λg=>(nm g.1.target).bind λn=>if h:g.1.is_async=0 then some ⟨(q.1.1,n.1.1,n.1.2,g.1.iter,g.1.ifs,q.1.2.2.1,q.1.2.2.2),aFh n.2 h▸g.2▸q.2⟩ else .none
noncomputable def sli(e:Pg):Option { q:Option Pg×Option Pg×Pos // e=.Slice q.1 q.2.1 none q.2.2 }:=(sl3 e).bind λq=>(emo q.1.2.2.1).map λk=>⟨(q.1.1,q.1.2.1,q.1.2.2.2),q.2.trans (Uf (λz=>Expr.Slice q.1.1 q.1.2.1 z q.1.2.2.2) k.2)⟩
noncomputable def tp2(e:Pg):Option { q:Str×Pos×Str×Pos×Nat×Pos // e=.Tuple [.Name q.1 q.2.1,.Name q.2.2.1 q.2.2.2.1] q.2.2.2.2.1 q.2.2.2.2.2 }:=(tu e).bind λq=>(a2y q.1.1).bind λz=>(nm z.1.1).bind λx=>(nm z.1.2).map λy=>⟨(x.1.1,x.1.2,y.1.1,y.1.2,q.1.2.1,q.1.2.2),y.2▸x.2▸z.2▸q.2⟩
noncomputable def isN{α:Type}(l:List α):Ok (l=[]):=match l with
 | []=>⟨true,λz=>rfl⟩
 | _=>.no
noncomputable def aIc(G:GT)(cx:Cx)(xs:List Pg):Ok (Ts G [] cx xs):=isN xs
noncomputable def aGw{G:GT}{t:E}{ts:List E}(f:∀cx e,Ok (T G t cx e))(g:∀cx xs,Ok (Ts G ts cx xs))(cx:Cx)(xs:List Pg):Ok (Ts G (t::ts) cx xs):=match xs with
 | x::r=>(f cx x).and (g cx r) λh1 h2=>⟨x,r,rfl,h1,h2⟩
 | []=>.no
noncomputable def kOf{G:GT}{t:E}(f:∀cx e,Ok (T G t cx e))(cx:Cx)(e:Pg):Ok (pE G (.of t) cx e):=(f cx e).map id
noncomputable def a7i{G:GT}{t:E}(n:Str)(f:∀cx e,Ok (T G t cx e))(cx:Cx)(e:Pg):Ok (∃q x p,e=.Call (.Name n q) [x] [] p/\cx.glob n=true/\T G t cx x):=.on (nc e) λq=>.iff (q.1.1=n/\cx.glob n=true) λh=>.on (mO q.1.2.2.1) λr=>(f cx r.1).map λg=>⟨_,_,_,r.2▸h.1▸q.2,h.2,g⟩
noncomputable def aGo{G:GT}{t u:E}(n:Str)(f:∀cx e,Ok (T G t cx e))(g:∀cx e,Ok (T G u cx e))(cx:Cx)(e:Pg):Ok (∃q x y p,e=.Call (.Name n q) [x,y] [] p/\cx.glob n=true/\T G t cx x/\T G u cx y):=.on (nc e) λq=>.iff (q.1.1=n/\cx.glob n=true) λh=>.on (a2y q.1.2.2.1) λr=>(f cx r.1.1).and (g cx r.1.2) λh1 h2=>⟨_,_,_,_,r.2▸h.1▸q.2,h.2,h1,h2⟩
noncomputable def sct(e:Pg):Option { q:Str×Nat×Pos // e=.Constant (.str q.1) q.2.1 q.2.2 }:=(ct e).bind λq=>match h:q.1.1 with
 | .str m=>some ⟨(m,q.1.2),h▸q.2⟩
 | _=>.none
noncomputable def aAv:(ks:List (List Nat))->(xs:List (Option Pg))->Ok (a5h ks xs)
 | [],xs=>isN xs
 | k::ks,xs=>match xs with
  | []=>.no
  | x::r=>.on (smo x) λy=>.on (sct y.1) λq=>.iff (aC q.1.1=k/\q.1.1.length<=4096) λh=>(aAv ks r).map λg=>⟨q.1.1,_,_,r,Uf (·::r) (y.2.trans (Uf some q.2)),h.1,h.2,g⟩
noncomputable def aAz(G:GT)(lo:E)(f:∀cx e,Ok (T G lo cx e))(cx:Cx)(l:Option Pg):Ok ((l=none/\vB lo=true)∨∃x,l=some x/\T G lo cx x):=match l with
 | .none=>Ok.dec (vB lo=true) λh=>.inl ⟨rfl,h⟩
 | some x=>(f cx x).map λh=>.inr ⟨x,rfl,h⟩
noncomputable def kE(G:GT)(t:E):∀(cx:Cx) (e:Pg),Ok (T G t cx e):=
 E.rec (motive_1:=λt=>∀(cx:Cx) (e:Pg),Ok (T G t cx e)) (motive_2:=λt=>∀(cx:Cx) (e:Pg),Ok (pE G t cx e)) (motive_3:=λt=>∀(cx:Cx) (e:List Pg),Ok (Ts G t cx e))
  (λv w e=>.on (ct e) λq=>(aGf q.1.1 v).map λh=>⟨_,_,_,q.2,h⟩)
  (λv cx e=>.on (nm e) λq=>.iff (cx.glob q.1.1=true) λh=>(aAx q.1.1 v G.con).map λg=>⟨_,_,q.2,h,g⟩)
  (λk cx e=>.on (nm e) λq=>.dec (cx.slot q.1.1=some k/\(q.1.1 == ("__debug__":Str))=false) λh=>⟨_,_,q.2,h⟩)
  (λop w w f g cx e=>.on (bn e) λq=>.iff (q.1.2.1=aCf op) λh=>(f cx q.1.1).and (g cx q.1.2.2.1) λh1 h2=>⟨_,_,_,h▸q.2,h1,h2⟩)
  (λw f cx e=>.on (un e) λq=>.iff (q.1.1=.Not) λh=>(f cx q.1.2.1).map λg=>⟨_,_,h▸q.2,g⟩)
  (λw f cx e=>.on (un e) λq=>.iff (q.1.1=.USub) λh=>(f cx q.1.2.1).map λg=>⟨_,_,h▸q.2,g⟩)
  (λw f cx e=>.on (bo e) λq=>.iff (q.1.1=.And) λh=>(f cx q.1.2.1).map λg=>⟨_,_,h▸q.2,g⟩)
  (λw f cx e=>.on (bo e) λq=>.iff (q.1.1=.Or) λh=>(f cx q.1.2.1).map λg=>⟨_,_,h▸q.2,g⟩)
  (λop w w f g cx e=>.on (cm e) λq=>.iff (q.1.2.1=[sF op]) λh=>.on (mO q.1.2.2.1) λr=>(f cx q.1.1).and (g cx r.1) λh1 h2=>⟨_,_,_,r.2▸h▸q.2,h1,h2⟩)
  (λop op' w w w f g k cx e=>.on (cm e) λq=>.iff (q.1.2.1=[sF op,sF op']) λh=>.on (a2y q.1.2.2.1) λr=>(f cx q.1.1).and ((g cx r.1.1).and (k cx r.1.2) And.intro) λh1 h2=>⟨_,_,_,_,r.2▸h▸q.2,h1,h2⟩)
  (λn w f cx e=>.on (nc e) λq=>.iff (cx.glob q.1.1=true/\G.fns[n]?=some q.1.1) λh=>(f cx q.1.2.2.1).map λg=>⟨_,_,_,_,q.2,h.1,h.2,g⟩)
  (λn w f cx e=>.on (nc e) λq=>.iff (cx.glob q.1.1=true/\G.own[n]?=some q.1.1) λh=>(f cx q.1.2.2.1).map λg=>⟨_,_,_,_,q.2,h.1,h.2,g⟩)
  (λw m w f g cx e=>.on (ac e) λq=>.iff (aC q.1.2.1=m/\eK q.1.1=true/\q.1.2.2.1.endLine=q.1.2.2.2.2.line/\q.1.2.2.2.1.length<29) λh=>(f cx q.1.1).and (g cx q.1.2.2.2.1) λh1 h2=>⟨_,_,_,_,_,q.2,h.1,h.2.1,h.2.2.1,h.2.2.2,h1,h2⟩)
  (λb w f cx e=>.on (nc e) λq=>.iff (q.1.1=rW b/\cx.glob (rW b)=true) λh=>.on (mO q.1.2.2.1) λr=>(f cx r.1).map λg=>⟨_,_,_,r.2▸h.1▸q.2,h.2,g⟩)
  (λk w w f g cx e=>match k with
   | .ml u=>.on (kc e) λq=>.iff (q.1.1="min"/\q.1.2.2.2.1=some "default"/\cx.glob "min"=true) λh=>(f cx q.1.2.2.1).and (g cx q.1.2.2.2.2.1) λh1 h2=>⟨_,_,_,_,_,h.2.1▸h.1▸q.2,h.2.2,h1,h2⟩
   | .mn=>(aGo "min" f g cx e).map λq_0=>by obtain ⟨q,x,y,p,h⟩:=q_0;exact ⟨q,x,y,q,p,h⟩
   | .mx=>(aGo "max" f g cx e).map λq_0=>by obtain ⟨q,x,y,p,h⟩:=q_0;exact ⟨q,x,y,q,p,h⟩)
  (λw t f cx e=>.on (nc e) λq=>.iff (q.1.1="isinstance"/\cx.glob "isinstance"=true) λh=>.on (a2y q.1.2.2.1) λr=>.on (nm r.1.2) λy=>.iff (y.1.1=m9 t/\cx.glob (m9 t)=true) λh'=>(f cx r.1.1).map λg=>⟨_,_,_,_,h'.1▸y.2▸r.2▸h.1▸q.2,h.2,h'.2,g⟩)
  (λw m w f g cx e=>.on (ac e) λq=>.iff (q.1.2.1=i4 m/\eK q.1.1=true/\q.1.2.2.1.endLine=q.1.2.2.2.2.line/\q.1.2.2.2.1.length<29) λh=>(f cx q.1.1).and (g cx q.1.2.2.2.1) λh1 h2=>⟨_,_,_,_,h.1▸q.2,h.2.1,h.2.2.1,h.2.2.2,h1,h2⟩)
  (λw x f cx e=>.on (at1 e) λq=>.iff (aC q.1.2.1=x/\q.1.2.1∈G.att/\eK q.1.1=true) λh=>(f cx q.1.1).map λg=>⟨_,_,_,q.2,h.1,h.2.1,h.2.2,g⟩)
  (λw w f g cx e=>.on (sbs e) λq=>(f cx q.1.1).and (g cx q.1.2.1) λh1 h2=>⟨_,_,_,q.2,h1,h2⟩)
  (λw lo hi f g k cx e=>.on (sbs e) λq=>.on (sli q.1.2.1) λz=>(f cx q.1.1).and ((aAz G lo g cx z.1.1).and (aAz G hi k cx z.1.2.1) And.intro) λh1 h2=>⟨_,_,_,_,_,z.2▸q.2,h1,h2⟩)
  (λw w=>.no)
  (λw f cx e=>.on (li e) λq=>(f cx q.1.1).map λg=>⟨_,_,q.2,g⟩)
  (λw f cx e=>.on (tu e) λq=>(f cx q.1.1).map λg=>⟨_,_,_,q.2,g⟩)
  (λw e=>.on (dt e) λq=>(isN q.1.1).and (isN q.1.2.1) λh1 h2=>⟨_,h1▸h2▸q.2⟩)
  (λks es f cx e=>.on (dt e) λq=>.iff (ks.Nodup/\ks≠[]/\ks.length<=15/\ks.length=es.length) λh=>(aAv ks q.1.1).and (f cx q.1.2.1) λh1 h2=>⟨_,_,_,q.2,h1,h.1,h.2.1,h.2.2.1,h.2.2.2,h2⟩)
  (λsrc elt f g cx e=>.on (lc e) λq=>.iff (q.1.2.2.2.2.1=[]/\eX src=true) λh=>match hc:cx.inComp q.1.2.1 q.1.2.2.2.2.2.1 with
   | some cx'=>(f cx q.1.2.2.2.1).and (g cx' q.1.1) λh1 h2=>⟨_,_,_,_,_,_,cx',h.1▸q.2,hc,h.2,h1,h2⟩
   | .none=>.no)
  (λsrc elt c f g k cx e=>.on (lc e) λq=>.on (mO q.1.2.2.2.2.1) λr=>.iff (eX src=true) λh=>match hc:cx.inComp q.1.2.1 q.1.2.2.2.2.2.1 with
   | some cx'=>(f cx q.1.2.2.2.1).and ((g cx' q.1.1).and (k cx' r.1) And.intro) λh1 h2=>⟨_,_,_,_,_,_,_,cx',r.2▸q.2,hc,h,h1,h2⟩
   | .none=>.no)
  (λw=>kOf) (λw=>a7i "range") (λw=>a7i "enumerate") (λw f=>f) (aIc G) (λw w=>aGw) t
noncomputable def aFk(G:GT)(t:Src):∀(cx:Cx) (e:Pg),Ok (pE G t cx e):=match t with
 | .of t=>kOf (kE G t)
 | .range t=>a7i "range" (kE G t)
 | .enum t=>a7i "enumerate" (kE G t)
 | .keys t=>kE G t
noncomputable abbrev aFb(e:Ph):Type:={ q:List Pg×Pg×Pos // e=.Assign q.1 q.2.1 q.2.2 }
noncomputable def as0(e:Ph):Option (aFb e):=if h:e.ctorIdx=5 then Stmt.Assign.elim (motive_2:=λe=>Option (aFb e)) e h λa0 a1 a2=>some ⟨(a0,a1,a2),rfl⟩ else .none
noncomputable abbrev aFr(e:Ph):Type:={ q:Pg×Pg×List Ph×List Ph×Pos // e=.For q.1 q.2.1 q.2.2.1 q.2.2.2.1 q.2.2.2.2 }
noncomputable def fr0(e:Ph):Option (aFr e):=if h:e.ctorIdx=9 then Stmt.For.elim (motive_2:=λe=>Option (aFr e)) e h λa0 a1 a2 a3 a4=>some ⟨(a0,a1,a2,a3,a4),rfl⟩ else .none
noncomputable abbrev aGa(e:Ph):Type:={ q:Pg×Pos // e=.Expr q.1 q.2 }
noncomputable def ex0(e:Ph):Option (aGa e):=if h:e.ctorIdx=24 then Stmt.Expr.elim (motive_2:=λe=>Option (aGa e)) e h λa0 a1=>some ⟨(a0,a1),rfl⟩ else .none
noncomputable abbrev aHc(e:Ph):Type:={ q:Option Pg×Pos // e=.Return q.1 q.2 }
noncomputable def rt0(e:Ph):Option (aHc e):=if h:e.ctorIdx=3 then Stmt.Return.elim (motive_2:=λe=>Option (aHc e)) e h λa0 a1=>some ⟨(a0,a1),rfl⟩ else .none
noncomputable abbrev aHi(e:Ph):Type:={ q:Pg×List Ph×List Ph×Pos // e=.If q.1 q.2.1 q.2.2.1 q.2.2.2 }
noncomputable def if0(e:Ph):Option (aHi e):=if h:e.ctorIdx=12 then Stmt.If.elim (motive_2:=λe=>Option (aHi e)) e h λa0 a1 a2 a3=>some ⟨(a0,a1,a2,a3),rfl⟩ else .none
noncomputable abbrev aGi(e:Ph):Type:={ q:Option Pg×Option Pg×Pos // e=.Raise q.1 q.2.1 q.2.2 }
noncomputable def ra0(e:Ph):Option (aGi e):=if h:e.ctorIdx=16 then Stmt.Raise.elim (motive_2:=λe=>Option (aGi e)) e h λa0 a1 a2=>some ⟨(a0,a1,a2),rfl⟩ else .none
noncomputable abbrev aFe(e:Ph):Type:={ q:List Ph×List ExceptHandler×List Ph×List Ph×Pos // e=.Try q.1 q.2.1 q.2.2.1 q.2.2.2.1 q.2.2.2.2 }
noncomputable def ty0(e:Ph):Option (aFe e):=if h:e.ctorIdx=17 then Stmt.Try.elim (motive_2:=λe=>Option (aFe e)) e h λa0 a1 a2 a3 a4=>some ⟨(a0,a1,a2,a3,a4),rfl⟩ else .none
noncomputable def asg(s:Ph):Option { q:Pg×Pg×Pos // s=.Assign [q.1] q.2.1 q.2.2 }:=(as0 s).bind λq=>(mO q.1.1).map λx=>⟨(x.1,q.1.2.1,q.1.2.2),x.2▸q.2⟩
noncomputable def frs(s:Ph):Option { q:Pg×Pg×List Ph×Pos // s=.For q.1 q.2.1 q.2.2.1 [] q.2.2.2 }:=(fr0 s).bind λq=>(em0 q.1.2.2.2.1).map λk=>⟨(q.1.1,q.1.2.1,q.1.2.2.1,q.1.2.2.2.2),q.2.trans (Uf (λz=>Stmt.For q.1.1 q.1.2.1 q.1.2.2.1 z q.1.2.2.2.2) k.2)⟩
noncomputable def rts(s:Ph):Option { q:Pg×Pos // s=.Return (some q.1) q.2 }:=(rt0 s).bind λq=>(smo q.1.1).map λx=>⟨(x.1,q.1.2),x.2▸q.2⟩
noncomputable def rai(s:Ph):Option { q:Str×Pos×Str×Nat×Pos×Pos×Pos // s=.Raise (some (.Call (.Name q.1 q.2.1) [.Constant (.str q.2.2.1) q.2.2.2.1 q.2.2.2.2.1] [] q.2.2.2.2.2.1)) none q.2.2.2.2.2.2 }:=
 (ra0 s).bind λq=>(smo q.1.1).bind λx=>(emo q.1.2.1).bind λk=>(nc x.1).bind λc=>(mO c.1.2.2.1).bind λa=>(sct a.1).map λm=>⟨(c.1.1,c.1.2.1,m.1.1,m.1.2.1,m.1.2.2,c.1.2.2.2,q.1.2.2),m.2▸a.2▸c.2▸k.2▸x.2▸q.2⟩
theorem eh{t t':Option Pg}{n n':Option Str}{b b':List Ph}{p:Pos}(h1:t=t')(h2:n=n')(h3:b=b'):ExceptHandler.ExceptHandler t n b p=.ExceptHandler t' n' b' p:=by cases h1;cases h2;cases h3;rfl
theorem ty4{b:List Ph}{hs hs':List ExceptHandler}{o o' f f':List Ph}{p:Pos}(h1:hs=hs')(h2:o=o')(h3:f=f'):Stmt.Try b hs o f p=.Try b hs' o' f' p:=by cases h1;cases h2;cases h3;rfl
noncomputable def trs(s:Ph):Option { q:List Ph×ExceptHandler×List ExceptHandler×Pos // s=.Try q.1 (q.2.1::q.2.2.1) [] [] q.2.2.2 }:=
 (ty0 s).bind λq=>match h:q.1.2.1 with
  | []=>.none
  | x::r=>(em0 q.1.2.2.1).bind λk=>(em0 q.1.2.2.2.1).map λk'=>⟨(q.1.1,x,r,q.1.2.2.2.2),q.2.trans (ty4 h k.2 k'.2)⟩
noncomputable def isc(y:Str)(e:Pg):Option { q:Pos×Pos×Str×Pos×Pos // e=.Call (.Name "isinstance" q.1) [.Name y q.2.1,.Name q.2.2.1 q.2.2.2.1] [] q.2.2.2.2 }:=
 (nc e).bind λq=>if h:q.1.1="isinstance" then (a2y q.1.2.2.1).bind λr=>(nm r.1.1).bind λa=>if h':a.1.1=y then (nm r.1.2).map λb=>⟨(q.1.2.1,a.1.2,b.1.1,b.1.2,q.1.2.2.2),b.2▸h'▸a.2▸r.2▸h▸q.2⟩ else .none else .none
noncomputable def kIs(G:GT)(cx:Cx)(y:Str)(k:Nat)(e:Pg):Ok (IsT G cx y k e):=.on (isc y e) λq=>.dec (cx.glob "isinstance"=true/\cx.glob q.1.2.2.1=true/\G.cls[k]?=some q.1.2.2.1) λh=>⟨_,_,_,_,_,q.2,h⟩
noncomputable def aHm(G:GT)(cx:Cx)(y:Str):(ks:List Nat)->(es:List Pg)->Ok (a6s G cx y ks es)
 | [],es=>isN es
 | k::ks,es=>match es with
  | []=>.no
  | e::r=>(kIs G cx y k e).and (aHm G cx y ks r) λh1 h2=>⟨e,r,rfl,h1,h2⟩
noncomputable def kLs(G:GT)(cx:Cx)(y:Str)(ks:List Nat)(e:Pg):Ok (LsT G cx y ks e):=.on (li e) λq=>(aHm G cx y ks q.1.1).map λh=>⟨_,_,q.2,h⟩
noncomputable def aBo(x:Str)(e:Pg):Ok (∃q,e=.Name x q):=.on (nm e) λq=>.dec (q.1.1=x) λh=>⟨_,h▸q.2⟩
noncomputable def aGq(G:GT)(cx:Cx)(x y:Str)(e:Pg):Ok (aHh G cx x y e):=.on (bn e) λq=>.iff (q.1.2.1=.Add) λh=>(aBo x q.1.1).and (kLs G cx y _ q.1.2.2.1) λh1 h2=>⟨_,_,_,h▸q.2,h1,h2⟩
noncomputable def aGd(cx:Cx)(y:Str)(e:Pg):Ok (aDu cx y e):=.on (isc y e) λq=>.dec (q.1.2.2.1="ValueError"/\cx.glob "isinstance"=true/\cx.glob "ValueError"=true) λh=>⟨_,_,_,_,h.1▸q.2,h.2⟩
noncomputable def aGu(e:Pg):Ok (∃i p,e=.Constant (.bool true) i p):=.on (ct e) λq=>match h:q.1.1 with
 | .bool true=>⟨true,λy=>⟨_,_,q.2.trans (Uf (λz=>Expr.Constant z q.1.2.1 q.1.2.2) h)⟩⟩
 | _=>.no
noncomputable def aGt(x:Str)(e:Pg):Ok (aGr x e):=.on (ac e) λq=>.iff (q.1.2.1="count"/\q.1.2.2.1.endLine=q.1.2.2.2.2.line) λh=>.on (mO q.1.2.2.2.1) λr=>(aBo x q.1.1).and (aGu r.1) λq_0 q_1=>by obtain ⟨a,ha⟩:=q_0;obtain ⟨i,p,hi⟩:=q_1;exact ⟨a,q.1.2.2.1,i,p,q.1.2.2.2.2,hi▸ha▸r.2▸h.1▸q.2,h.2⟩
noncomputable def aFi(G:GT)(cx:Cx)(x:Str)(e:Pg):Ok (aBt G cx x e):=.on (cm e) λq=>.iff (q.1.2.1=[.Eq]) λh=>.on (mO q.1.2.2.1) λr=>(aGt x q.1.1).and (kE G (.k (.int 0)) cx r.1) λh1 h2=>⟨_,_,_,r.2▸h▸q.2,h1,h2⟩
noncomputable def aGz{α:Type}(l:List α):Option { x:α×α×α×α // l=[x.1,x.2.1,x.2.2.1,x.2.2.2] }:=match l with | [x,y,z,w]=>some ⟨(x,y,z,w),rfl⟩ | _=>.none
noncomputable def aCp{α:Type}(l:List α):Option { x:α×α×α // l=[x.1,x.2.1,x.2.2] }:=match l with | [x,y,z]=>some ⟨(x,y,z),rfl⟩ | _=>.none
noncomputable def aHo(G:GT)(cx:Cx)(x y:Str)(k:Nat)(e:Pg):Ok (aDe G cx x y k e):=.on (bo e) λq=>.iff (q.1.1=.And) λh=>.on (aGz q.1.2.1) λr=>((kE G (.g .is (.v k) (.k .none)) cx r.1.1).and (kIs G cx y 8 r.1.2.1) And.intro).and ((aGd cx y r.1.2.2.1).and (aFi G cx x r.1.2.2.2) And.intro) λh1 h2=>⟨_,_,_,_,_,r.2▸h▸q.2,h1.1,h1.2,h2⟩
noncomputable def nas(s:Ph):Option { q:Str×Pos×Pg×Pos // s=.Assign [.Name q.1 q.2.1] q.2.2.1 q.2.2.2 }:=(asg s).bind λq=>(nm q.1.1).map λx=>⟨(x.1.1,x.1.2,q.1.2.1,q.1.2.2),x.2▸q.2⟩
theorem b3{a a' b b' c c':Ph}(h1:a=a')(h2:b=b')(h3:c=c'):[a,b,c]=[a',b',c']:=by cases h1;cases h2;cases h3;rfl
noncomputable def aIf(G:GT)(cx:Cx)(y:Str)(k t:Nat)(b:List Ph):Ok (aAh G cx y k t b):=.on (aCp b) λr=>.on (nas r.1.1) λa=>.on (nas r.1.2.1) λc=>.on (rts r.1.2.2) λw=>.iff (c.1.1=a.1.1/\cx.slot a.1.1=some t/\cx.kinds.lookup a.1.1=some .local/\a.1.1≠y/\a.1.1≠"__debug__"/\y≠"__debug__") λh=>
 (kLs G cx y [1,2,3,4] a.1.2.2.1).and ((aGq G cx a.1.1 y c.1.2.2.1).and (aHo G cx a.1.1 y k w.1.1) And.intro) λh1 h2=>⟨_,_,_,_,_,_,_,_,_,r.2.trans (b3 a.2 (c.2.trans (Uf (λz=>Stmt.Assign [.Name z c.1.2.1] c.1.2.2.1 c.1.2.2.2) h.1)) w.2),h.2.1,h.2.2.1,h.2.2.2.1,h.2.2.2.2.1,h.2.2.2.2.2,h1,h2⟩
noncomputable def kH(G:GT)(cx:Cx)(h:Hd)(n:Option Str)(b:List Ph):Ok (TH G cx h n b):=match h with
 | .ret v=>.on (emo n) λk=>.on (mO b) λr=>.on (rts r.1) λq=>(kE G (.k v) cx q.1.1).map λg=>⟨k.2,_,_,q.2▸r.2,g⟩
 | .set j v=>.on (emo n) λk=>.on (mO b) λr=>.on (nas r.1) λq=>.iff (cx.slot q.1.1=some j) λh=>(kE G (.k v) cx q.1.2.2.1).map λg=>⟨k.2,_,_,_,_,q.2▸r.2,h,g⟩
 | .chk k t u=>.on (smo n) λy=>.iff (cx.slot y.1=some u/\cx.kinds.lookup y.1=some .local) λh=>(aIf G cx y.1 k t b).map λg=>⟨_,y.2,h.1,h.2,g⟩
noncomputable def kHs(G:GT)(cx:Cx):(l:List (Nat×Hd))->(hs:List ExceptHandler)->Ok (THs G cx l hs)
 | [],hs=>isN hs
 | h::l,hs=>match hs with
  | []=>.no
  | .ExceptHandler t n b p::r=>.on (smo t) λt=>.on (nm t.1) λx=>.iff (cx.glob x.1.1=true/\G.cls[h.1]?=some x.1.1) λq=>(kH G cx h.2 n b).and (kHs G cx l r) λh1 h2=>⟨_,_,n,b,p,r,Uf (·::r) (eh (t.2.trans (Uf some x.2)) rfl rfl),q.1,q.2,h1,h2⟩
noncomputable def aAn(G:GT)(cx:Cx)(xs:List Ph):Ok (TSs G [] cx xs):=isN xs
noncomputable def a1u{G:GT}{t:S}{ts:List S}(f:∀cx s,Ok (TS G t cx s))(g:∀cx xs,Ok (TSs G ts cx xs))(cx:Cx)(xs:List Ph):Ok (TSs G (t::ts) cx xs):=match xs with
 | x::r=>(f cx x).and (g cx r) λh1 h2=>⟨x,r,rfl,h1,h2⟩
 | []=>.no
noncomputable def kS(G:GT)(t:S):∀(cx:Cx) (s:Ph),Ok (TS G t cx s):=
 S.rec (motive_1:=λt=>∀(cx:Cx) (s:Ph),Ok (TS G t cx s)) (motive_2:=λt=>∀(cx:Cx) (s:List Ph),Ok (TSs G t cx s))
  (λk t cx st=>.on (asg st) λq=>.on (nm q.1.1) λx=>.iff (cx.slot x.1.1=some k) λh=>(kE G t cx q.1.2.1).map λg=>⟨_,_,_,_,x.2▸q.2,h,g⟩)
  (λa x t cx st=>.on (asg st) λq=>.on (at1 q.1.1) λz=>.iff (aC z.1.2.1=x/\z.1.2.1∈G.att/\z.1.2.1.length<=4096/\jF t=false) λh=>(kE G a cx z.1.1).and (kE G t cx q.1.2.1) λh1 h2=>⟨_,_,_,_,_,z.2▸q.2,h.1,h.2.1,h.2.2.1,h1,h2,h.2.2.2⟩)
  (λa i t cx st=>.on (asg st) λq=>.on (sbs q.1.1) λz=>.iff (jF t=false) λh=>(kE G a cx z.1.1).and ((kE G i cx z.1.2.1).and (kE G t cx q.1.2.1) And.intro) λh1 h2=>⟨_,_,_,_,_,z.2▸q.2,h1,h2.1,h2.2,h⟩)
  (λt cx st=>.on (ex0 st) λq=>.iff (a4o t=true) λh=>(kE G t cx q.1.1).map λg=>⟨_,_,q.2,h,g⟩)
  (λt cx st=>.on (rts st) λq=>(kE G t cx q.1.1).map λg=>⟨_,_,q.2,g⟩)
  (λc y y f g cx st=>.on (if0 st) λq=>(kE G c cx q.1.1).and ((f cx q.1.2.1).and (g cx q.1.2.2.1) And.intro) λh1 h2=>⟨_,_,_,_,q.2,h1,h2⟩)
  (λk src y f cx st=>.on (frs st) λq=>.on (nm q.1.1) λx=>.iff (cx.slot x.1.1=some k/\eX src=true) λh=>(aFk G src cx q.1.2.1).and (f cx q.1.2.2.1) λh1 h2=>⟨_,_,_,_,_,x.2▸q.2,h.1,h.2,h1,h2⟩)
  (λk k' src y f cx st=>.on (frs st) λq=>.on (tp2 q.1.1) λx=>.iff (cx.slot x.1.1=some k/\cx.slot x.1.2.2.1=some k') λh=>(aFk G src cx q.1.2.1).and (f cx q.1.2.2.1) λh1 h2=>⟨_,_,_,_,_,_,_,_,_,x.2▸q.2,h.1,h.2,h1,h2⟩)
  (λc cx st=>.on (rai st) λq=>.dec (cx.glob q.1.1=true/\G.cls[c]?=some q.1.1/\(aC q.1.2.2.1).length<=4096) λh=>⟨_,_,_,_,_,_,_,q.2,h⟩)
  (λy hs f cx st=>.on (trs st) λq=>(f cx q.1.1).and (kHs G cx hs (q.1.2.1::q.1.2.2.1)) λh1 h2=>⟨_,_,_,_,q.2,h1,h2⟩)
  (λy y=>⟨true,λy=>trivial⟩)
  (aAn G) (λy y=>a1u) t
noncomputable def kSs(G:GT)(ts:List S):∀(cx:Cx) (xs:List Ph),Ok (TSs G ts cx xs):=
 List.rec (motive:=λt=>∀(cx:Cx) (s:List Ph),Ok (TSs G t cx s)) (aAn G) (λt z f=>a1u (kS G t) f) ts
noncomputable def kFn(G:GT)(fn:Fn)(a:Arguments)(body:List Ph)(sc:Scope):Ok (TFn G fn a body sc):=
 .iff (((aT sc.names 0).map (·.1)).take a.args.length=a.args.map (·.arg)/\(sc.names.map (·.1)).Nodup/\sc.kind=.function/\sc.isGenerator=false/\sc.isCoroutine=false/\fn.nargs=a.args.length/\fn.n=(aT sc.names 0).length) λh=>
  (kSs G fn.body ⟨sc.names,aT sc.names 0,(aT sc.names 0).length⟩ body).map λg=>⟨h.1,h.2.1,h.2.2.1,h.2.2.2.1,h.2.2.2.2.1,g,h.2.2.2.2.2⟩
structure W where
 prog:Program
 w:World
 h₀:Pe
 scr:Pd
 ns:List Int
 ca:Nat->Pd
 co:Nat->Pd
 fa:Nat->Pd
 K:PySem.W.Frag
 fz:Pd->Option (List (Str×Pa)×Nat)
noncomputable def IsX(cls:Pa)(o:Obj):Prop:=o.cls=cls/\o.dict=none
variable(X:W)
mutual
inductive VR (h:Pe) (Y:List Pd):V->Pa->Prop
 | none:VR h Y .none .none
 | bool (b:Bool):VR h Y (.bool b) (.bool b)
 | int (i:Int) (t:Tok):VR h Y (.int i) (.int i t)
 | str (x:Str) (t:Tok):x.length<=lim->VR h Y (.str (aC x)) (.str x t)
 | ref {i:Nat}{a:Pd}:Y[i]?=some a->VR h Y (.ref i) (.ref a)
 | tup {vs:List V}{a:Pd}{l:List Pa}{n:Nat}:h.get? a=some { cls:=.type "tuple",data:=.seq l.toArray n }->l.length<=lim->VRs h Y vs l->VR h Y (.tup vs) (.ref a)
 | inst {c d:Nat}{a δ:Pd}{sl:Array (Option Pa)}:h.get? a=some ⟨.ref (X.co c),some δ,.plain,sl⟩->Y[d]?=some δ->VR h Y (.inst c d) (.ref a)
 | scr:VR h Y .scr (.ref X.scr)
inductive VRs (h:Pe) (Y:List Pd):List V->List Pa->Prop
 | nil:VRs h Y [] []
 | cons {v:V}{vs:List V}{u:Pa}{us:List Pa}:VR h Y v u->VRs h Y vs us->VRs h Y (v::vs) (u::us)
end
structure ERs(h:Pe)(Y:List Pd)(kvs:List (List Nat×V))(l:List (Str×Pa)):Prop where
 keys:kvs.map (·.1)=l.map λp=>aC p.1
 lim:∀p∈l,p.1.length<=lim
 vals:VRs X h Y (kvs.map (·.2)) (l.map (·.2))
inductive OR (h:Pe) (Y:List Pd) (a:Pd):O->Prop
 | list {xs:List V}{l:List Pa}{n:Nat}:h.get? a=some { cls:=.type "list",data:=.seq l.toArray n }->l.length<=lim->VRs X h Y xs l->OR h Y a (.list xs)
 | dict {kvs:List (List Nat×V)}{l:List (Str×Pa)}:h.DictOf (strKind X.prog X.w) a l->l.length<=lim->ERs X h Y kvs l->OR h Y a (.dict kvs)
 | fro {kvs:List (List Nat×V)}{l:List (Str×Pa)}:h.DictOf (strKind X.prog X.w) a l->l.length<=lim->ERs X h Y kvs l->(∀p,X.fz a=some p->h.DictAt (strKind X.prog X.w) a p.1 p.2)->OR h Y a (.fro kvs)
structure HR(Y:List Pd)(Z:H)(h:Pe):Prop where
 len:Y.length=Z.length
 nodup:Y.Nodup
 fresh:∀a∈Y,X.h₀.objs.size<=a
 obj:∀(i:Nat) (o:O) (a:Pd),Z[i]?=some o->Y[i]?=some a->OR X h Y a o
 fro:∀(i:Nat) (a:Pd),Y[i]?=some a->X.fz a≠none->∃kvs,Z[i]?=some (.fro kvs)
noncomputable def iO(o:Obj):Prop:=(o.cls=.type "tuple"∨∃c,o.cls=.ref c)/\(∀es n,o.data≠.dict es n)/\(∀u,o.data≠.cell u)
theorem iO.offList{o:Obj}(h:iO o)(hc:o.cls=.type "list"∨o.cls=.type "dict"):False:=by rcases h.1 with h | ⟨c,h⟩ <;> rcases hc with q | q <;> rw [h] at q <;> simp at q
noncomputable def lB(Y:List Pd)(h h':Pe):Prop:=
 ∀b o,b∉Y->h.get? b=some o->∃sl,h'.get? b=some { o with slots:=sl }/\((∀es n,o.data≠.dict es n)->sl=o.slots)
structure Base(h:Pe):Prop where
 keep:∀b o,X.h₀.get? b=some o->h.get? b=some o
 size:X.h₀.objs.size<=h.objs.size
 low:sysModules<X.h₀.objs.size
inductive FE (h:Pe) (Y:List Pd) (env:zq):Prop
 | mk {L:Pd}{o:Obj}{es}{n:Nat} (k:env.scope.kind≠.module) (e1:env.frame=some L) (e2:X.h₀.get? L=none) (e3:L∉Y) (e4:h.get? L=some o) (e5:o.data=.dict es n):FE h Y env
noncomputable def FF(h:Pe)(Y:List Pd)(l:List zq):Prop:=∀e∈l,FE X h Y e
structure Step(s:Pb)(Y:List Pd)(s':Pb)(Y':List Pd)(Z':H):Prop where
 hr:HR X Y' Z' s'.heap
 keep:lB Y s.heap s'.heap
 base:Base X s'.heap
 size:s.heap.objs.size<=s'.heap.objs.size
 ext:∃ν,Y'=Y++ν/\∀a∈ν,s.heap.objs.size<=a
 gens:s'.gens=s.gens
 os:s'.os=s.os
section
variable{X}
theorem HR.cls{Y:List Pd}{Z:H}{h:Pe}(R:HR X Y Z h){a:Pd}(ha:a∈Y):∃o,h.get? a=some o/\(o.cls=.type "list"∨o.cls=.type "dict"):=by
 obtain ⟨i,hi,e⟩:=List.getElem_of_mem ha;have h1:Y[i]?=some a:=gw (zg hi ..) (gw e rfl);have hi':i<Z.length:=R.len▸hi;have h2:Z[i]?=some Z[i]:=zg hi';cases hO:Z[i] with
 | list xs=>
  replace h2:=hO▸h2;cases R.obj i _ a h2 h1 with
  | list e _ _=>exact ⟨_,e,.inl rfl⟩
 | dict kvs=>
  replace h2:=hO▸h2;cases R.obj i _ a h2 h1 with
  | dict e _ _=>obtain ⟨o,_,_,e,c,_⟩:=e;exact ⟨o,e,.inr c.1⟩
 | fro kvs=>
  replace h2:=hO▸h2;cases R.obj i _ a h2 h1 with
  | fro e _ _ _=>obtain ⟨o,_,_,e,c,_⟩:=e;exact ⟨o,e,.inr c.1⟩
theorem HR.lt{Y:List Pd}{Z:H}{h:Pe}(R:HR X Y Z h){a:Pd}(ha:a∈Y):a<h.objs.size:=by obtain ⟨_,e,_⟩:=R.cls ha;exact yc e
noncomputable def oP(o o':Obj):Prop:=o'=o∨∃fs fs',o.data=.fields fs/\o'.data=.fields fs'/\o'.cls=o.cls/\o'.dict=o.dict
theorem oP.trans{a b c:Obj}(x:oP a b)(y:oP b c):oP a c:=by
 rcases x with rfl | ⟨f,f',h1,h2,h3⟩
 ·exact y
 ·rcases y with rfl | ⟨g,g',k1,k2,k3⟩
  ·exact .inr ⟨f,f',h1,h2,h3⟩
  ·exact .inr ⟨f,g',h1,k2,k3.1.trans h3.1,k3.2.trans h3.2⟩
theorem VR.like{h h':Pe}{Y Y':List Pd}(hk:∀a o,h.get? a=some o->iO o->∃o',h'.get? a=some o'/\oP o o')(hμ:∀(i:Nat) (a:Pd),Y[i]?=some a->Y'[i]?=some a){v:V}{u:Pa}(r:VR X h Y v u):VR X h' Y' v u:=
 VR.rec (motive_1:=λv u w=>VR X h' Y' v u) (motive_2:=λv u w=>VRs X h' Y' v u) .none .bool .int .str (λe=>.ref (hμ _ _ e)) (λe z w r=>by
   obtain ⟨o',e',l⟩:=hk _ _ e ⟨.inl rfl,(λw w q=>by cases q),(λw q=>by cases q)⟩;rcases l with rfl | ⟨_,_,q,_⟩
   ·exact .tup e' z r
   ·cases q) (λe m=>by
   obtain ⟨o',e',l⟩:=hk _ _ e ⟨.inr ⟨_,rfl⟩,(λw w q=>by cases q),(λw q=>by cases q)⟩;rcases l with rfl | ⟨_,_,q,_⟩
   ·exact .inst e' (hμ _ _ m)
   ·cases q) .scr .nil (λw w x y=>.cons x y) r
theorem VRs.each{X':W}{h h':Pe}{Y Y':List Pd}(f:∀{v:V}{u:Pa},VR X h Y v u->VR X' h' Y' v u){v:List V}{u:List Pa}(r:VRs X h Y v u):VRs X' h' Y' v u:=
 VRs.rec (motive_1:=λz z z=>True) (motive_2:=λv u z=>VRs X' h' Y' v u) trivial (λz=>trivial) (λz z=>trivial) (λz z z=>trivial) (λz=>trivial) (λz z z z=>trivial) (λz z=>trivial) trivial .nil (λx z z y=>.cons (f x) y) r
theorem VR.mono{h h':Pe}{Y Y':List Pd}(hk:∀a o,h.get? a=some o->iO o->h'.get? a=some o)(hμ:∀(i:Nat) (a:Pd),Y[i]?=some a->Y'[i]?=some a){v:V}{u:Pa}(r:VR X h Y v u):VR X h' Y' v u:=
 r.like (λa o e s=>⟨o,hk a o e s,.inl rfl⟩) hμ
theorem VRs.mono{h h':Pe}{Y Y':List Pd}(hk:∀a o,h.get? a=some o->iO o->h'.get? a=some o)(hμ:∀(i:Nat) (a:Pd),Y[i]?=some a->Y'[i]?=some a){v:List V}{u:List Pa}(r:VRs X h Y v u):VRs X h' Y' v u:=
 r.each λx=>x.mono hk hμ
theorem ERs.like{X':W}{h h':Pe}{Y Y':List Pd}{v:List (List Nat×V)}{u:List (Str×Pa)}(r:ERs X h Y v u)(hv:∀{v:List V}{u:List Pa},VRs X h Y v u->VRs X' h' Y' v u):ERs X' h' Y' v u:=⟨r.keys,r.lim,hv r.vals⟩
theorem OR.mono{h h':Pe}{Y Y':List Pd}(hk:∀a o,h.get? a=some o->iO o->h'.get? a=some o)(hμ:∀(i:Nat) (a:Pd),Y[i]?=some a->Y'[i]?=some a){a:Pd}{o:O}(ha:∀x,h.get? a=some x->h'.get? a=some x)(r:OR X h Y a o):OR X h' Y' a o:=by
 cases r with
 | list e z r=>exact .list (ha _ e) z (r.mono hk hμ)
 | dict e z r=>obtain ⟨o,es,ep,e,q⟩:=e;exact .dict ⟨o,es,ep,ha _ e,q⟩ z (r.like λx=>x.mono hk hμ)
 | fro e z r f=>obtain ⟨o,es,ep,e,q⟩:=e;exact .fro ⟨o,es,ep,ha _ e,q⟩ z (r.like λx=>x.mono hk hμ) λp hp=>by obtain ⟨o,es,e,q⟩:=f p hp;exact ⟨o,es,ha _ e,q⟩
theorem fV{Y ν:List Pd}:∀(i:Nat) (a:Pd),Y[i]?=some a->(Y++ν)[i]?=some a:=λi a e=>by have:=(zc.mp e).1;refine gw (xn this ..) ?_;exact e
theorem lB.of_all{Y:List Pd}{h h':Pe}(k:∀b o,b∉Y->h.get? b=some o->h'.get? b=some o):lB Y h h':=λb o hb e=>⟨o.slots,k b o hb e,λz=>rfl⟩
theorem lB.refl(Y:List Pd)(h:Pe):lB Y h h:=.of_all λz z z e=>e
theorem lB.trans{Y Y':List Pd}{h₁ h₂ h₃:Pe}(x:lB Y h₁ h₂)(y:lB Y' h₂ h₃)(hm:∀b o,h₁.get? b=some o->b∉Y->b∉Y'):lB Y h₁ h₃:=λb o hb e=>by obtain ⟨sl,e1,q1⟩:=x b o hb e;obtain ⟨sl',e2,q2⟩:=y b _ (hm b o e hb) e1;exact ⟨sl',e2,λhd=>(q2 hd).trans (q1 hd)⟩
theorem lB.at{Y:List Pd}{h h':Pe}(x:lB Y h h'){b:Pd}{o:Obj}(hb:b∉Y)(e:h.get? b=some o)(hd:∀es n,o.data≠.dict es n):h'.get? b=some o:=by obtain ⟨sl,e1,q⟩:=x b o hb e;replace e1:=(q hd ..)▸e1;exact e1
theorem lB.ns{Y:List Pd}{h h':Pe}(x:lB Y h h'){b:Pd}{m:Str->Option Pa}(hb:b∉Y)(n:h.Ns b m):h'.Ns b m:=by refine ex3 (n) λo es ep q_h=>?_;refine an3 q_h λe hd r=>?_;obtain ⟨sl,e1,_⟩:=x b o hb e;exact ⟨_,es,ep,e1,hd,r⟩
theorem lB.cell{Y:List Pd}{h h':Pe}(x:lB Y h h'){b:Pd}{u:Option Pa}(hb:b∉Y)(n:h.IsCell b u):h'.IsCell b u:=by obtain ⟨o,e,hd⟩:=n;exact ⟨o,x.at hb e (by refine gw hd ?_;intro _ _ q;cases q),hd⟩
theorem Step.refl{s:Pb}{Y:List Pd}{Z:H}(R:HR X Y Z s.heap)(B:Base X s.heap):Step X s Y s Y Z:=
 ⟨R,.refl _ _,B,zf _,⟨[],by simp,λz h=>by cases h⟩,rfl,rfl⟩
theorem Step.toks{s s':Pb}{Y Y':List Pd}{Z':H}(S:Step X s Y s' Y' Z')(t:Nat):Step X s Y { s' with toks:=t } Y' Z':=⟨S.hr,S.keep,S.base,S.size,S.ext,S.gens,S.os⟩
theorem Step.trans{s s' s'':Pb}{Y Y' Y'':List Pd}{Z' Z'':H}(S:Step X s Y s' Y' Z')(S':Step X s' Y' s'' Y'' Z''):Step X s Y s'' Y'' Z'':=by
 obtain ⟨ν,rfl,hν⟩:=S.ext;obtain ⟨ν',rfl,hν'⟩:=S'.ext;refine ⟨S'.hr,S.keep.trans S'.keep λb o e hb hm=>?_,S'.base,za S.size S'.size,⟨ν++ν',gw (zh ..) rfl,λa ha=>?_⟩,S'.gens.trans S.gens,S'.os.trans S.os⟩
 ·rcases yh.mp hm with h1 | h1
  ·exact hb h1
  ·exact Ue (yc e) (yf.mpr (hν b h1))
 ·rcases yh.mp ha with h1 | h1
  ·exact hν a h1
  ·exact za S.size (hν' a h1)
theorem Step.pers{s s':Pb}{Y Y':List Pd}{Z':H}(S:Step X s Y s' Y' Z'):∀b,s'.heap.get? b=none->s.heap.get? b=none:=λb hb=>by
 cases e:s.heap.get? b with
 | none=>rfl
 | some o=>
  by_cases hm:b∈Y
  ·obtain ⟨ν,rfl,_⟩:=S.ext;obtain ⟨o',e',_⟩:=S.hr.cls (jv _ hm);replace e':=hb▸e';cases e'
  ·obtain ⟨sl,e',_⟩:=S.keep b o hm e;replace e':=hb▸e';cases e'
theorem Step.notIn{s s':Pb}{Y Y':List Pd}{Z':H}(S:Step X s Y s' Y' Z'){b:Pd}(hb:b∉Y)(hl:b<s.heap.objs.size):b∉Y':=by
 obtain ⟨ν,rfl,hν⟩:=S.ext;intro hm;rcases yh.mp hm with h1 | h1
 ·exact hb h1
 ·exact Ue hl (yf.mpr (hν b h1))
theorem HR.offC{Y:List Pd}{Z:H}{h:Pe}(R:HR X Y Z h){a:Pd}{o:Obj}(e:h.get? a=some o)(h1:o.cls≠.type "list")(h2:o.cls≠.type "dict"):a∉Y:=λhm=>by
 obtain ⟨o',e',hc⟩:=R.cls hm;replace e':=e▸e';cases e';rcases hc with hc | hc
 ·exact h1 hc
 ·exact h2 hc
theorem Step.keepC{s s':Pb}{Y Y':List Pd}{Z Z':H}(S:Step X s Y s' Y' Z')(R:HR X Y Z s.heap):
  ∀a o,s.heap.get? a=some o->iO o->s'.heap.get? a=some o:=λa o e hS=>S.keep.at (λhm=>by
   obtain ⟨o',e',hc⟩:=R.cls hm;replace e':=e▸e';cases e';exact hS.offList hc) e hS.2.1
theorem FF.fun{h:Pe}{Y:List Pd}{l:List zq}(f:FF X h Y l):h.FunFrames X.h₀ l:=by
 induction l with
 | nil=>trivial
 | cons e l ih=>
  obtain ⟨f,r⟩:=ui.mp f;cases f with
  | mk k e1 e2 _ e4 e5=>exact ⟨k,⟨_,_,e1,e2,e4,by refine gw e5 ?_;intro _ q;cases q⟩,ih r⟩
theorem Step.ff{s s':Pb}{Y Y':List Pd}{Z':H}(S:Step X s Y s' Y' Z'){l:List zq}(f:FF X s.heap Y l):FF X s'.heap Y' l:=λe he=>by
 cases f e he with
 | mk k e1 e2 e3 e4 e5=>
  obtain ⟨sl,q,_⟩:=S.keep _ _ e3 e4;exact ⟨k,e1,e2,S.notIn e3 (yc e4),q,e5⟩
theorem Step.get{s s':Pb}{Y Y':List Pd}{Z':H}(S:Step X s Y s' Y' Z'):∀(i:Nat) (a:Pd),Y[i]?=some a->Y'[i]?=some a:=by obtain ⟨ν,rfl,_⟩:=S.ext;exact fV
theorem Step.vr{s s':Pb}{Y Y':List Pd}{Z Z':H}(S:Step X s Y s' Y' Z')(R:HR X Y Z s.heap){v:V}{u:Pa}(r:VR X s.heap Y v u):VR X s'.heap Y' v u:=r.mono (S.keepC R) S.get
theorem Step.vrs{s s':Pb}{Y Y':List Pd}{Z Z':H}(S:Step X s Y s' Y' Z')(R:HR X Y Z s.heap){v:List V}{u:List Pa}(r:VRs X s.heap Y v u):VRs X s'.heap Y' v u:=r.mono (S.keepC R) S.get
theorem HR.push{Y:List Pd}{Z:H}{h:Pe}(R:HR X Y Z h)(o:Obj):HR X Y Z (h.push o):=
 ⟨R.len,R.nodup,R.fresh,λi x a e1 e2=>(R.obj i x a e1 e2).mono (λz z e z=>zo _ e) (λz z e=>e) λz e=>zo _ e,R.fro⟩
theorem HR.keeps{Y:List Pd}{Z:H}{h h':Pe}(R:HR X Y Z h)(k:∀b o,h.get? b=some o->h'.get? b=some o):HR X Y Z h':=
 ⟨R.len,R.nodup,R.fresh,λi x a e1 e2=>(R.obj i x a e1 e2).mono (λz z e z=>k _ _ e) (λz z e=>e) λz e=>k _ _ e,R.fro⟩
theorem HR.alloc{Y:List Pd}{Z:H}{h:Pe}(R:HR X Y Z h){a:Pd}{o:O}(ha:a∉Y)(hn:X.fz a=none)(hf:X.h₀.objs.size<=a)(r:OR X h (Y++[a]) a o):HR X (Y++[a]) (Z++[o]) h where
 len:=gw (zd ..) (gw (zd ..) (gw (R.len ..) rfl))
 nodup:=wv.mpr ⟨R.nodup,by simp,λx hx y hy e=>ha (by replace e:=(ze.mp hy ..)▸e;exact e▸hx)⟩
 fresh:=λb hb=>by
  rcases yh.mp hb with h1 | h1
  ·exact R.fresh b h1
  ·exact gw (ze.mp h1 ..) hf
 obj:=λi x b e1 e2=>by
  by_cases hi:i<Z.length
  ·replace e1:=(xn hi ..)▸e1;replace e2:=(xn (R.len▸hi) ..)▸e2;exact (R.obj i x b e1 e2).mono (λz z e z=>e) fV λz e=>e
  ·have hi':Z.length<=i:=ur hi;replace e1:=(zv hi' ..)▸e1;replace e2:=(R.len ..)▸(zv (R.len▸hi') ..)▸e2;cases hk:i-Z.length with
   | zero=>
    rw [hk] at e1 e2;cases e1;cases e2;exact r
   | succ k=>replace e1:=hk▸e1;cases e1
 fro:=λi b e hb=>by
  by_cases hi:i<Z.length
  ·obtain ⟨kvs,q⟩:=R.fro i b (by replace e:=(xn (R.len▸hi) ..)▸e;exact e) hb;exact ⟨kvs,by refine gw (xn hi ..) ?_;exact q⟩
  ·replace e:=zv (R.len▸ur hi)▸e;exact Ue ((ze.mp (ym e)).symm▸hn) hb
theorem getElem?_nodup{Y:List Pd}(hn:Y.Nodup){i j:Nat}{a:Pd}(h1:Y[i]?=some a)(h2:Y[j]?=some a):i=j:=by
 obtain ⟨hi,e1⟩:=zc.mp h1;obtain ⟨hj,e2⟩:=zc.mp h2;have hp:=gj.mp hn;rcases Nat.lt_trichotomy i j with q | q | q
 ·exact Ue (e1.trans e2.symm) (hp i j hi hj q)
 ·exact q
 ·exact Ue (e2.trans e1.symm) (hp j i hj hi q)
theorem HR.put{Y:List Pd}{Z:H}{h h':Pe}(R:HR X Y Z h){i:Nat}{a:Pd}{o:O}(hi:Y[i]?=some a)(hx:∀kvs,Z[i]?≠some (.fro kvs))(hs:Heap.SameBut a h h')(r:OR X h' Y a o):HR X Y (Z.set i o) h' where
 len:=gw (jg ..) (gw (R.len ..) rfl)
 nodup:=R.nodup
 fresh:=R.fresh
 obj:=λj x b e1 e2=>by
  by_cases hj:i=j
  ·subst hj;replace e2:=hi▸e2;cases e2;have hl:i<Z.length:=R.len▸(zc.mp hi).1;replace e1:=(ud hl ..)▸e1;cases e1;exact r
  ·replace e1:=(wo hj ..)▸e1;have hb:b≠a:=λe=>hj (getElem?_nodup R.nodup hi (e▸e2));obtain ⟨o',e',hc⟩:=R.cls (ym hi);refine (R.obj j x b e1 e2).mono (λc y e hS=>?_) (λz z e=>e) λy e=>(hs.2 b hb).trans e;refine (hs.2 c λq=>?_).trans e;subst q;replace e':=e▸e';cases e';exact (hS.offList hc).elim
 fro:=λj b e hb=>by
  obtain ⟨kvs,q⟩:=R.fro j b e hb;exact ⟨kvs,(wo (λh=>hx kvs (by refine gw h ?_;exact q))).trans q⟩
end
open PyProof.Rows
theorem jZ(o:Obj)(f:Array Pa->Array Pa):(o.mapFields f).dict=o.dict:=by obtain ⟨c,d,data,sl⟩:=o;cases data <;> rfl
theorem IsX.map{cls:Pa}{o:Obj}(h:IsX cls o)(f:Array Pa->Array Pa):IsX cls (o.mapFields f):=⟨(Obj.cls_mapFields _ _).trans h.1,(jZ _ _).trans h.2⟩
structure Eff(g:Pe)(fr:List Pd)(h h':Pe):Prop where
 size:h.objs.size<=h'.objs.size
 old:∀b o x,g.get? b=some x->b∉fr->h.get? b=some o->h'.get? b=some o
 like:∀b o,b∉fr->h.get? b=some o->∃o',h'.get? b=some o'/\oP o o'
 fram:∀b o,b∈fr->h.get? b=some o->∃sl,h'.get? b=some { o with slots:=sl }
theorem Eff.refl(g:Pe)(fr:List Pd)(h:Pe):Eff g fr h h:=⟨zf _,λz z z z z e=>e,λz o z e=>⟨o,e,.inl rfl⟩,λz o z e=>⟨o.slots,e⟩⟩
theorem Eff.trans{g:Pe}{fr:List Pd}{h₁ h₂ h₃:Pe}(x:Eff g fr h₁ h₂)(y:Eff g fr h₂ h₃):Eff g fr h₁ h₃ where
 size:=za x.size y.size
 old:=λb o x' hb hf e=>y.old b o x' hb hf (x.old b o x' hb hf e)
 like:=λb o hf e=>by
  obtain ⟨o',e1,l1⟩:=x.like b o hf e;obtain ⟨o'',e2,l2⟩:=y.like b o' hf e1;exact ⟨o'',e2,l1.trans l2⟩
 fram:=λb o hf e=>by
  obtain ⟨sl,e1⟩:=x.fram b o hf e;obtain ⟨sl',e2⟩:=y.fram b _ hf e1;exact ⟨sl',e2⟩
theorem Eff.field{g:Pe}{fr:List Pd}{h:Pe}{a:Pd}{o:Obj}{vs:Array Pa}(e:h.get? a=some o)(hd:o.data=.fields vs)(ha:g.get? a=none)(hf:a∉fr)(f:Array Pa->Array Pa):Eff g fr h (h.update a (Obj.mapFields f)) where
 size:=by rw [Heap.size_after_update];exact zf _
 old:=λb x y hb z eb=>by rw [xh _ _ (λ(q:a=b)=>by rw [←q,ha] at hb;cases hb)];exact eb
 like:=λb x z eb=>by
  by_cases hba:a=b
  ·subst hba;replace eb:=e▸eb;cases eb;exact ⟨_,vo _ e (Obj.isFreed_of_fields (Obj.data_mapFields hd f)),.inr ⟨vs,_,hd,Obj.data_mapFields hd f,Obj.cls_mapFields _ _,jZ _ _⟩⟩
  ·exact ⟨x,by refine gw (xh _ _ hba ..) ?_;exact eb,.inl rfl⟩
 fram:=λb x hb eb=>⟨x.slots,by rw [xh _ _ (λ(q:a=b)=>hf (by rw [q];exact hb))];exact eb⟩
theorem Eff.push{g:Pe}{fr:List Pd}{h:Pe}(o:Obj):Eff g fr h (h.push o):=
 ⟨gw (wk ..) (yi _),λz z z z z e=>zo _ e,λz x z e=>⟨x,zo _ e,.inl rfl⟩,λz x z e=>⟨x.slots,zo _ e⟩⟩
theorem Eff.slots{g:Pe}{fr:List Pd}{h h':Pe}(x:Heap.SlotsOnly fr h h'):Eff g fr h h':=
 ⟨zu x.1.symm,λb o z z hf e=>(x.2.1 b hf).trans e,λb o hf e=>⟨o,(x.2.1 b hf).trans e,.inl rfl⟩,λb o z e=>x.2.2 b o e⟩
structure Fly(g:Pe)(cls:Pa)(e:Pd)(fl:Option Pa)(h:Pe):Prop where
 new:g.get? e=none
 obj:∃oe vs a0,h.get? e=some oe/\IsX cls oe/\oe.data=.fields vs/\vs[0]?=some a0/\match fl with
  | none=>vs[1]?=some Value.none
  | some v=>∃T oT ts,vs[1]?=some (.ref T)/\g.get? T=none/\T≠e/\h.get? T=some oT/\oT.data=.fields ts/\ts[3]?=some v
theorem Fly.le{g g':Pe}{cls:Pa}{e:Pd}{fl:Option Pa}{h:Pe}(x:Fly g cls e fl h)(l:∀b,g.get? b=none->g'.get? b=none):Fly g' cls e fl h:=by
 obtain ⟨a,oe,vs,a0,h1,h2,h3,h4,h5⟩:=x;refine ⟨l _ a,oe,vs,a0,h1,h2,h3,h4,?_⟩;cases fl with
 | none=>exact h5
 | some v=>
  refine ex3 (h5) λT oT ts q_h=>?_;refine an3 q_h λk1 k2 r=>?_;exact ⟨T,oT,ts,k1,l _ k2,r⟩
section
variable{M:Model}{A:Pf}{E:Pa->Pb->Prop}{s:Pb}{base:Pe}{env:zq}{outer:List zq}{L e:Pd}{g:Pe}{cls:Pa}{Q:Unit->Pb->Prop}
theorem FunFrames.off{h:Pe}{l:List zq}(hl:h.FunFrames base l){a:Pd}{o:Obj}{vs:Array Pa}(ha:h.get? a=some o)(hd:o.data=.fields vs):a∉l.filterMap (·.frame):=λhm=>by obtain ⟨_,o',ho,hnf⟩:=hl.mem hm;replace ho:=ha▸ho;cases ho;exact hnf vs hd
theorem rA{oe:Obj}{vs:Array Pa}{head a0:Pa}{hadNext:Bool}(hfr:A.frames=some (env::outer))(hl:s.heap.FunFrames base (env::outer))(hf:env.frame=some L)(he:s.heap.get? e=some oe)(hn:g.get? e=none)(hns:g.objs.size<=s.heap.objs.size)(hc:IsX cls oe)(hd:oe.data=.fields vs)(hsz:1<vs.size)(h0:vs[0]?=some a0)(h:∀h',Eff g ((env::outer).filterMap (·.frame)) s.heap h'->Fly g cls e (some (rawInt L)) h'->Q () { s with heap:=h' }):
  Un M A (do let a ←frameOf env;let pl ←entryPlaceOf L hadNext;let b ←EntryCells.newEntry head a .none (rawInt L) .none pl;setField (.ref e) 1 b) Q E s:=by
 have hene:=FunFrames.off hl he hd;refine Ug (wpAny_frameOf_fun hfr hl hf λh₁ hs1=>?_);refine Ug (wpAny_entryPlaceOf λpl hpl=>?_);unfold EntryCells.newEntry newFields;refine Ug (wpAny_newObj_type ?_ (hpl.sizeOk5 _ _ _ _ _));have he1:h₁.get? e=some oe:=(hs1.2.1 e hene).trans he;generalize hob:({ cls:=.type "traceback",dict:=none,data:=.fields ([head,.ref L,.none,rawInt L,.none]++(if pl.isEmpty then wf 6 Value.none else pl)).toArray }:Obj)=tb;have he2:=zo (h:=h₁) tb he1;refine wpAny_setField he2 hd hsz (h _ ?_ ?_)
 ·exact ((Eff.slots hs1).trans (Eff.push tb)).trans (Eff.field he2 hd hn hene _)
 ·have hTe:h₁.objs.size≠e:=wq (yc he1);have hd3:=Obj.data_mapFields hd (·.setIfInBounds 1 (Value.ref h₁.objs.size));have hfb:tb.isFreed=false:=bw hob rfl;refine ⟨hn,_,_,a0,vo _ he2 (Obj.isFreed_of_fields hd3),hc.map _,hd3,by refine gw (Array.getElem?_setIfInBounds_ne (by decide) ..) ?_;exact h0,
   h₁.objs.size,tb,_,by simp [hsz],zaa (gw (hs1.1 ..) hns),hTe,?_,(bw hob rfl),?_⟩
  ·refine gw (xh _ _ (Ne.symm hTe) ..) ?_;exact yn h₁ hfb
  ·first | (simp;done) | (rcases hpl with rfl | ⟨_,_,_,_,_,_,_,rfl⟩ <;> simp)
theorem a3t{fl:Option Pa}(hfr:A.frames=some (env::outer))(hl:s.heap.FunFrames base (env::outer))(hf:env.frame=some L)(hns:g.objs.size<=s.heap.objs.size)(x:Fly g cls e fl s.heap)(hfl:fl=none∨fl=some .none∨fl=some (rawInt L))(h:∀h',Eff g ((env::outer).filterMap (·.frame)) s.heap h'->Fly g cls e (some (rawInt L)) h'->Q () { s with heap:=h' }):Un M A (noteFrame (.ref e) env) Q E s:=by
 obtain ⟨hn,oe,vs,a0,he,hc,hd,h0,hx⟩:=x;unfold noteFrame;simp only [hf];rcases hfl with rfl | rfl | rfl
 ·refine Ug (wpAny_field he hd hx ?_);rw [Ub (by decide)];exact rA hfr hl hf he hn hns hc hd (kh.mp hx).1 h0 h
 ·refine ex3 (hx) λT oT ts q_h=>?_;refine an6 q_h λh1 hT hTe eT dT h3=>?_;refine Ug (wpAny_field he hd h1 ?_);refine gw (Ua (show (Value.ref T != Value.none)=true from by simp)) ?_;refine Ug (wpAny_field eT dT h3 ?_);refine gw (Ub (show ¬((Value.none == rawInt L)=true) from by simp [rawInt])) ?_;have hTf:=FunFrames.off hl eT dT;have ef:=Eff.field (g:=g) (fr:=(env::outer).filterMap (·.frame)) eT dT hT hTf (·.setIfInBounds 3 Value.none);refine Ug (wpAny_setField eT dT (kh.mp h3).1 ?_);have he':(s.heap.update T (Obj.mapFields (·.setIfInBounds 3 Value.none))).get? e=some oe:=by refine gw (xh _ _ hTe ..) ?_;exact he
  refine rA (s:={ s with heap:=s.heap.update T (Obj.mapFields (·.setIfInBounds 3 Value.none)) }) hfr (hl.of_keeps λb o hb hnf=>?_) hf he' hn (za hns ef.size) hc hd (kh.mp h1).1 h0 λh' e' f'=>h h' (ef.trans e') f';refine ⟨o,?_,rfl⟩;refine gw (xh _ _ (λq=>by subst q;rw [eT] at hb;cases hb;exact hnf ts dT)) ?_;exact hb
 ·refine ex3 (hx) λT oT ts q_h=>?_;refine an6 q_h λh1 hT hTe eT dT h3=>?_;refine Ug (wpAny_field he hd h1 ?_);refine gw (Ua (show (Value.ref T != Value.none)=true from by simp)) ?_;exact Ug (wpAny_field eT dT h3 (gw (Ua (show (rawInt L == rawInt L)=true from by simp)) (Uh (h s.heap (Eff.refl ..) ⟨hn,oe,vs,a0,he,hc,hd,h0,T,oT,ts,h1,hT,hTe,eT,dT,h3⟩))))
theorem a8b{v:Pa}(x:Fly g cls e (some v) s.heap)(f:Option Pd)(hl:s.heap.FunFrames base (env::outer))(h:∀h',Eff g ((env::outer).filterMap (·.frame)) s.heap h'->Fly g cls e (some (f.elim Value.none λa=>rawInt a)) h'->Q () { s with heap:=h' }):Un M A (setFlight (.ref e) f) Q E s:=by
 obtain ⟨hn,oe,vs,a0,he,hc,hd,h0,T,oT,ts,h1,hT,hTe,eT,dT,h3⟩:=x;have hsz:=(kh.mp h3).1;unfold setFlight;refine Ug (wpAny_field he hd h1 ?_);refine gw (Ua (show (Value.ref T != Value.none)=true from by simp)) ?_;refine wpAny_setField eT dT hsz (h _ (Eff.field eT dT hT (FunFrames.off hl eT dT) _) ⟨hn,oe,vs,a0,?_,hc,hd,h0,T,_,_,h1,hT,hTe,vo _ eT (Obj.isFreed_of_fields (Obj.data_mapFields dT _)),Obj.data_mapFields dT _,by simp [hsz]⟩);refine gw (xh _ _ hTe ..) ?_;exact he
end
noncomputable abbrev Mo(X:W):Model:=model X.prog X.w
structure Rm(A:Pf)(d:Nat)(hn:Bool):Prop where
 depth:A.depth+4*d+4<recursionLimit
 units:A.units+40*d+40<cLine
 handled:hn=true->A.handled=none
 nb:A.handled≠some byPass
structure Cn(X:W)(A:Pf)(d:Nat)(hn:Bool)(s:Pb)(Y:List Pd)(Z:H):Prop where
 rm:Rm A d hn
 hr:HR X Y Z s.heap
 base:Base X s.heap
 fs:∃fs,A.frames=some fs/\FF X s.heap Y fs
 scr:∃vs:List Pa,X.h₀.IsList X.scr vs.toArray/\IntsAre vs X.ns/\vs.length<=lim
 fz:∀a,X.fz a≠none->a<s.heap.objs.size
structure FR(X:W)(env:zq)(cx:Cx)(J:Env)(h:Pe)(Y:List Pd):Prop where
 kind:env.scope.kind=.function
 globals:env.globals=Uj
 builtins:env.builtins=builtinsNs
 names:env.scope.names=cx.kinds
 ns:∃m,h.Ns env.locals m/\∀(x:Str) (k:Nat) (v:V),cx.kinds.lookup x=some .local->cx.slots.lookup x=some k->J[k]?=some (some v)->∃u,m x=some u/\VR X h Y v u
 cell:∀(x:Str) (k:Nat),cx.kinds.lookup x=some .cell->cx.slots.lookup x=some k->∃c u,env.cells.lookup x=some c/\h.IsCell c u/\∀v,J[k]?=some (some v)->∃y,u=some y/\VR X h Y v y
 cells:∀(x:Str),cx.kinds.lookup x=some .cell->(env.cells.lookup x).isSome=true
 apart:∀x y c,env.cells.lookup x=some c->env.cells.lookup y=some c->x=y
 offL:env.locals∉Y
 offC:∀x c,env.cells.lookup x=some c->c∉Y/\c≠env.locals/\c<h.objs.size
 slots:∀(x y:Str) (k:Nat),cx.slots.lookup x=some k->cx.slots.lookup y=some k->x=y
 bound:∀(x:Str) (k:Nat),cx.slots.lookup x=some k->k<cx.n
 len:J.length=cx.n
section
variable{X:W}
theorem Cn.step{A:Pf}{d:Nat}{hn:Bool}{s s':Pb}{Y Y':List Pd}{Z Z':H}(c:Cn X A d hn s Y Z)(S:Step X s Y s' Y' Z'):Cn X A d hn s' Y' Z':=
 ⟨c.rm,S.hr,S.base,(by obtain ⟨fs,e,f⟩:=c.fs;exact ⟨fs,e,S.ff f⟩),c.scr,λa h=>zj (c.fz a h) S.size⟩
theorem Cn.good{A:Pf}{d:Nat}{hn:Bool}{s:Pb}{Y:List Pd}{Z:H}(c:Cn X A d hn s Y Z):X.fz s.heap.objs.size=none:=Classical.byContradiction λq=>xg _ (c.fz _ q)
theorem FR.step{env:zq}{cx:Cx}{J:Env}{s s':Pb}{Y Y':List Pd}{Z Z':H}(F:FR X env cx J s.heap Y)(R:HR X Y Z s.heap)(S:Step X s Y s' Y' Z'):FR X env cx J s'.heap Y' where
 kind:=F.kind
 globals:=F.globals
 builtins:=F.builtins
 names:=F.names
 ns:=by
  obtain ⟨m,n,h⟩:=F.ns;exact ⟨m,S.keep.ns F.offL n,λx k v h1 h2 h3=>by obtain ⟨u,a,b⟩:=h x k v h1 h2 h3;exact ⟨u,a,S.vr R b⟩⟩
 cell:=λx k h1 h2=>by
  refine ex2 (F.cell x k h1 h2) λc u q_h=>?_;refine an3 q_h λa b d=>?_;exact ⟨c,u,a,S.keep.cell (F.offC x c a).1 b,λv hv=>by obtain ⟨y,p,q⟩:=d v hv;exact ⟨y,p,S.vr R q⟩⟩
 cells:=F.cells
 apart:=F.apart
 offL:=by
  obtain ⟨m,n,_⟩:=F.ns;exact S.notIn F.offL n.lt
 offC:=λx c h=>⟨S.notIn (F.offC x c h).1 (F.offC x c h).2.2,(F.offC x c h).2.1,zj (F.offC x c h).2.2 S.size⟩
 slots:=F.slots
 bound:=F.bound
 len:=F.len
noncomputable def XR(X:W)(g:Pe)(c:Nat)(e:Pa)(h:Pe):Prop:=∃a,e=.ref a/\Fly g (.ref (X.ca c)) a (some .none) h
theorem XR.le{g g':Pe}{c:Nat}{e:Pa}{h:Pe}(x:XR X g c e h)(l:∀b,g.get? b=none->g'.get? b=none):XR X g' c e h:=by obtain ⟨a,h1,h2⟩:=x;exact ⟨a,h1,h2.le l⟩
noncomputable abbrev PT(β:Type):=(β->Pb->Prop)->(Pa->Pb->Prop)->Pb->Prop
noncomputable def Sm(X:W){α β:Type}(P:PT β)(r:R α)(rel:Pe->List Pd->α->β->Prop)(s:Pb)(Y:List Pd):Prop:=
 r≠.stuck->∀Q E,(∀a Z' b s' Y',r=.ok a Z'->Step X s Y s' Y' Z'->rel s'.heap Y' a b->Q b s') ->
  (∀c Z' e s' Y',r=.exc c Z'->Step X s Y s' Y' Z'->XR X s.heap c e s'.heap->E e s')->P Q E s
theorem Sm.imp{α β:Type}{P P':PT β}{r:R α}{rel:Pe->List Pd->α->β->Prop}{s:Pb}{Y:List Pd}(h:Sm X P r rel s Y)(hp:∀Q E,P Q E s->P' Q E s):Sm X P' r rel s Y:=
 λhne Q E hQ hE=>hp Q E (h hne Q E hQ hE)
theorem gA{α β:Type}{m:M α}{k:α->M β}{Z Z':H}{a:α}(e:m Z=.ok a Z'):m.bnd k Z=k a Z':=by unfold M.bnd;exact gw e rfl
theorem nZ{α β:Type}{m:M α}{k:α->M β}{Z Z':H}{c:Nat}(e:m Z=.exc c Z'):m.bnd k Z=.exc c Z':=by unfold M.bnd;exact gw e rfl
theorem eJ{α β:Type}{m:M α}{k:α->M β}{Z:H}(e:m Z=.stuck):m.bnd k Z=.stuck:=by unfold M.bnd;exact gw e rfl
theorem Sm.bind{α β γ δ:Type}{P:PT β}{P2:β->PT δ}{m:M α}{k:α->M γ}{Z:H}{rel:Pe->List Pd->α->β->Prop}{rel2:Pe->List Pd->γ->δ->Prop}{s:Pb}{Y:List Pd}(h1:Sm X P (m Z) rel s Y)(h2:∀a Z1 b s1 Y1,m Z=.ok a Z1->Step X s Y s1 Y1 Z1->rel s1.heap Y1 a b->Sm X (P2 b) (k a Z1) rel2 s1 Y1):
  Sm X (λQ E s=>P (λb s1=>P2 b Q E s1) E s) (m.bnd k Z) rel2 s Y:=by
 intro hne Q E hQ hE;refine h1 (λe=>hne (eJ e)) _ _ (λa Z1 b s1 Y1 e1 S1 r1=>?_) λc Z1 e s1 Y1 e1 S1 x1=>hE c Z1 e s1 Y1 (nZ e1) S1 x1;have e:m.bnd k Z=k a Z1:=gA e1;exact h2 a Z1 b s1 Y1 e1 S1 r1 (e▸hne) Q E (λc Z2 d s2 Y2 e2 S2 r2=>hQ c Z2 d s2 Y2 (e.trans e2) (S1.trans S2) r2)
  λc Z2 x s2 Y2 e2 S2 x2=>hE c Z2 x s2 Y2 (e.trans e2) (S1.trans S2) (x2.le S1.pers)
noncomputable abbrev Rl(X:W):Pe->List Pd->V->Pa->Prop:=λh Y v u=>VR X h Y v u
noncomputable abbrev Rls(X:W):Pe->List Pd->List V->List Pa->Prop:=λh Y v u=>VRs X h Y v u
noncomputable abbrev Wp(X:W)(A:Pf){β:Type}(t:Sem β):PT β:=λQ E s=>Un (Mo X) A t Q E s
theorem Sm.ok{α β:Type}{P:PT β}{a:α}{Z:H}{rel:Pe->List Pd->α->β->Prop}{s:Pb}{Y:List Pd}(h:∀Q E,(∀b s' Y',Step X s Y s' Y' Z->rel s'.heap Y' a b->Q b s')->P Q E s):Sm X P (.ok a Z) rel s Y:=
 λz Q E hQ z=>h Q E λb s' Y' S r=>hQ a Z b s' Y' rfl S r
theorem Sm.after{α β:Type}{P P':PT β}{r:R α}{rel:Pe->List Pd->α->β->Prop}{s s1:Pb}{Y Y1:List Pd}{Z1:H}(S1:Step X s Y s1 Y1 Z1)(h:Sm X P' r rel s1 Y1)(hp:∀Q E,P' Q E s1->P Q E s):Sm X P r rel s Y:=
 λhne Q E hQ hE=>hp Q E (h hne Q E (λa Z' b s' Y' e S r=>hQ a Z' b s' Y' e (S1.trans S) r) λc Z' e s' Y' q S x=>hE c Z' e s' Y' q (S1.trans S) (x.le S1.pers))
theorem Sm.stuck{α β:Type}{P:PT β}{rel:Pe->List Pd->α->β->Prop}{s:Pb}{Y:List Pd}:Sm X P (.stuck:R α) rel s Y:=λh=>Ue rfl h
end
section
variable{X:W}{A:Pf}{d:Nat}{hn:Bool}{s:Pb}{Y:List Pd}{Z:H}
theorem Cn.same(c:Cn X A d hn s Y Z)(t:Nat):Step X s Y { s with toks:=t } Y Z:=(Step.refl c.hr c.base).toks t
theorem aHt:lim=sizeLine:=rfl
theorem Base.push{h:Pe}(B:Base X h)(o:Obj):Base X (h.push o):=⟨λb x e=>zo _ (B.keep b x e),gw (wk ..) (zn B.size),B.low⟩
theorem Step.push(c:Cn X A d hn s Y Z)(o:Obj)(t:Nat):Step X s Y { s with heap:=s.heap.push o,toks:=t } Y Z:=
 ⟨c.hr.push o,.of_all λz z z e=>zo _ e,c.base.push o,by show _<=(s.heap.push o).objs.size;exact gw (wk ..) (yi _),
  ⟨[],by simp,λz h=>by cases h⟩,rfl,rfl⟩
theorem Step.grow(c:Cn X A d hn s Y Z){s':Pb}(k:∀b o,s.heap.get? b=some o->s'.heap.get? b=some o)(z:s.heap.objs.size<=s'.heap.objs.size)(hg:s'.gens=s.gens)(ho:s'.os=s.os):Step X s Y s' Y Z:=
 ⟨c.hr.keeps k,.of_all λb o y e=>k b o e,⟨λb o e=>k _ _ (c.base.keep b o e),za c.base.size z,c.base.low⟩,z,⟨[],by simp,λy h=>by cases h⟩,hg,ho⟩
theorem Step.alloc(c:Cn X A d hn s Y Z){o:Obj}{x:O}(t:Nat)(r:OR X (s.heap.push o) (Y++[s.heap.objs.size]) s.heap.objs.size x):Step X s Y { s with heap:=s.heap.push o,toks:=t } (Y++[s.heap.objs.size]) (Z++[x]):=by
 have hno:s.heap.objs.size∉Y:=λhm=>xg _ (c.hr.lt hm);refine ⟨(c.hr.push o).alloc hno c.good c.base.size r,.of_all λz z z e=>zo _ e,c.base.push o,?_,⟨[s.heap.objs.size],rfl,λa ha=>?_⟩,rfl,rfl⟩
 ·show _<=(s.heap.push o).objs.size;exact gw (wk ..) (yi _)
 ·exact gw (ze.mp ha ..) (zf _)
theorem Step.put(c:Cn X A d hn s Y Z){i:Nat}{a:Pd}{o:O}{s':Pb}(hi:Y[i]?=some a)(hx:∀kvs,Z[i]?≠some (.fro kvs))(hs:Heap.SameBut a s.heap s'.heap)(hg:s'.gens=s.gens)(ho:s'.os=s.os)(r:OR X s'.heap Y a o):Step X s Y s' Y (Z.set i o):=by
 have hm:=ym hi;refine ⟨c.hr.put hi hx hs r,.of_all λb x hb e=>(hs.2 b λq=>hb (q▸hm)).trans e,⟨λb x e=>(hs.2 b λq=>?_).trans (c.base.keep b x e),hs.1▸c.base.size,c.base.low⟩,zu hs.1.symm,⟨[],by simp,λz h=>by cases h⟩,hg,ho⟩;subst q;exact Ue (yc e) (yf.mpr (c.hr.fresh _ hm))
theorem lN(x y:Str):aC (x++y)=aC x++aC y:=by show (x++y).cps.toList=_;refine gw (Str.cps_append ..) ?_;simp [aC]
theorem bC(x:Str):(aC x).length=x.length:=by simp [aC,Str.length]
theorem gO{x y:Str}(h:aC x=aC y):x=y:=by obtain ⟨a⟩:=x;obtain ⟨b⟩:=y;simp only [aC] at h;exact Uf Str.mk (Array.ext' h)
theorem a5z(l:List Nat):aC ⟨l.toArray⟩=l:=by simp [aC]
theorem Cn.list(c:Cn X A d hn s Y Z){i:Nat}{a:Pd}{xs:List V}(h:Z[i]?=some (.list xs))(hi:Y[i]?=some a):
  ∃l n,IsL s.heap a (jq l) n/\VRs X s.heap Y xs l/\l.length<=lim:=by
 cases c.hr.obj i _ a h hi with
 | list e z r=>exact ⟨_,_,e,r,z⟩
theorem gN{i:Nat}{xs:List V}(h:fA Z i=some xs):Z[i]?=some (.list xs):=by
 unfold fA at h;generalize Z[i]?=o at h ⊢;cases o with
 | none=>cases h
 | some o=>cases o with
  | list=>cases h;rfl
  | _=>cases h
theorem a0e{i:Nat}{kvs:List (List Nat×V)}(h:dictAt Z i=some kvs):Z[i]?=some (.dict kvs)∨Z[i]?=some (.fro kvs):=by
 unfold dictAt at h;generalize Z[i]?=o at h ⊢;cases o with
 | none=>cases h
 | some o=>cases o with
  | list=>cases h
  | dict=>cases h;exact .inl rfl
  | fro=>cases h;exact .inr rfl
theorem oC{i:Nat}{kvs:List (List Nat×V)}(h:oZ Z i=some kvs):Z[i]?=some (.dict kvs):=by
 unfold oZ at h;generalize Z[i]?=o at h ⊢;cases o with
 | none=>cases h
 | some o=>cases o with
  | dict=>cases h;rfl
  | _=>cases h
theorem Cn.dict(c:Cn X A d hn s Y Z){i:Nat}{a:Pd}{kvs:List (List Nat×V)}(h:Z[i]?=some (.dict kvs))(hi:Y[i]?=some a):
  ∃l,s.heap.DictOf (strKind X.prog X.w) a l/\ERs X s.heap Y kvs l/\l.length<=lim:=by
 cases c.hr.obj i _ a h hi with
 | dict e z r=>exact ⟨_,e,r,z⟩
theorem gE{α β:Type}(c:Cn X A d hn s Y Z){i:Nat}{a:Pd}(hi:Y[i]?=some a){P:PT β}{f:List V->M α}{rel:Pe->List Pd->α->β->Prop}(h:∀xs l n,Z[i]?=some (.list xs)->s.heap.get? a=some { cls:=.type "list",data:=.seq (jq l) n }->VRs X s.heap Y xs l->l.length<=lim->Sm X P (f xs Z) rel s Y):Sm X P (onL i f Z) rel s Y:=by
 unfold onL;cases hl:fA Z i with
 | none=>exact Sm.stuck
 | some xs=>
  refine ex2 (c.list (gN hl) hi) λl n q_h=>?_;refine an3 q_h λe r z=>?_;exact h xs l n (gN hl) e r z
theorem sV{α β:Type}(c:Cn X A d hn s Y Z){i:Nat}{a:Pd}(hi:Y[i]?=some a){P:PT β}{f:List (List Nat×V)->M α}{rel:Pe->List Pd->α->β->Prop}(h:∀kvs l,s.heap.DictOf (strKind X.prog X.w) a l->ERs X s.heap Y kvs l->l.length<=lim->Sm X P (f kvs Z) rel s Y):Sm X P (onD i f Z) rel s Y:=by
 unfold onD;cases hl:dictAt Z i with
 | none=>exact Sm.stuck
 | some kvs=>
  rcases a0e hl with ho | ho
  ·obtain ⟨l,q_h⟩:=(c.dict ho hi);refine an3 q_h λe r z=>?_;exact h kvs l e r z
  ·cases c.hr.obj i _ a ho hi with
   | fro e z r _=>exact h kvs _ e r z
theorem tE{α β:Type}(c:Cn X A d hn s Y Z){i:Nat}{a:Pd}(hi:Y[i]?=some a){P:PT β}{f:List (List Nat×V)->M α}{rel:Pe->List Pd->α->β->Prop}(h:∀kvs l,Z[i]?=some (.dict kvs)->s.heap.DictOf (strKind X.prog X.w) a l->ERs X s.heap Y kvs l->l.length<=lim->Sm X P (f kvs Z) rel s Y):Sm X P (onW i f Z) rel s Y:=by
 unfold onW;cases hl:oZ Z i with
 | none=>exact Sm.stuck
 | some kvs=>
  obtain ⟨l,q_h⟩:=(c.dict (oC hl) hi);refine an3 q_h λe r z=>?_;exact h kvs l (oC hl) e r z
theorem cM{α β:Type}{P:PT β}{rel:Pe->List Pd->α->β->Prop}{o:Option α}(h:∀v,o=some v->Sm X P (.ok v Z) rel s Y):Sm X P (bF o Z) rel s Y:=by
 cases o with
 | none=>exact Sm.stuck
 | some v=>exact h v rfl
theorem Cn.noSys(c:Cn X A d hn s Y Z){i:Nat}{a:Pd}(hi:Y[i]?=some a):(a == sysModules)=false:=by exact beq_eq_false_iff_ne.mpr (wq (zj c.base.low (c.hr.fresh a (ym hi))))
theorem VRs.length{h:Pe}{xs:List V}{l:List Pa}(r:VRs X h Y xs l):xs.length=l.length:=by
 induction xs generalizing l with
 | nil=>cases r;rfl
 | cons x xs ih=>cases r with | cons _ b=>simp [ih b]
theorem VRs.append{h:Pe}{xs ys:List V}{l m:List Pa}(r:VRs X h Y xs l)(q:VRs X h Y ys m):VRs X h Y (xs++ys) (l++m):=by
 induction xs generalizing l with
 | nil=>cases r;exact q
 | cons x xs ih=>cases r with | cons a b=>exact .cons a (ih b)
theorem VRs.get{h:Pe}{xs:List V}{l:List Pa}(r:VRs X h Y xs l){i:Nat}{x:V}(e:xs[i]?=some x):∃u,l[i]?=some u/\VR X h Y x u:=by
 induction xs generalizing l i with
 | nil=>cases e
 | cons y ys ih=>
  cases r with
  | cons a b=>
   cases i with
   | zero=>simp at e;subst e;exact ⟨_,rfl,a⟩
   | succ j=>simp at e;obtain ⟨u,e1,e2⟩:=ih b e;exact ⟨u,by simpa using e1,e2⟩
theorem VRs.take{h:Pe}{xs:List V}{l:List Pa}(r:VRs X h Y xs l)(n:Nat):VRs X h Y (xs.take n) (l.take n):=by
 induction xs generalizing l n with
 | nil=>cases r;simp;exact .nil
 | cons y ys ih=>
  cases r with
  | cons a b=>
   cases n with
   | zero=>exact .nil
   | succ j=>exact .cons a (ih b j)
theorem VRs.drop{h:Pe}{xs:List V}{l:List Pa}(r:VRs X h Y xs l)(n:Nat):VRs X h Y (xs.drop n) (l.drop n):=by
 induction xs generalizing l n with
 | nil=>cases r;simp;exact .nil
 | cons y ys ih=>
  cases r with
  | cons a b=>
   cases n with
   | zero=>exact .cons a b
   | succ j=>exact ih b j
theorem ERs.length{h:Pe}{kvs:List (List Nat×V)}{l:List (Str×Pa)}(r:ERs X h Y kvs l):kvs.length=l.length:=by have:=Uf List.length r.keys;simpa using this
theorem a8v(c:Cn X A d hn s Y Z){xs:List V}{l:List Pa}(r:VRs X s.heap Y xs l):Sm X (Wp X A (newList l)) (fY xs Z) (Rl X) s Y:=by
 unfold fY;refine ic ite_ (λhz=>?_) λz=>?_
 ·refine Sm.ok λQ E hQ=>?_;refine wpAny_newObj_type ?_ (by show l.toArray.size<=sizeLine;rw [yp,←r.length];exact hz);refine hQ _ _ _ (Step.alloc c s.toks ?_) (.ref (by rw [zv (by rw [c.hr.len];exact zf _),c.hr.len];simp));exact .list (yn _ rfl) (r.length▸hz) (r.mono (λz z e z=>zo _ e) fV)
 ·exact Sm.stuck
theorem m4(c:Cn X A d hn s Y Z){P:PT Pa}{xs:List V}{l:List Pa}(r:VRs X s.heap Y xs l)(h:l.length<=sizeLine->∀Q E,Q (.ref s.heap.objs.size) { s with heap:=s.heap.push { cls:=.type "list",data:=.seq l.toArray } }->P Q E s):Sm X P (fY xs Z) (Rl X) s Y:=by
 unfold fY;refine ic ite_ (λhz=>?_) λz=>?_
 ·refine Sm.ok λQ E hQ=>h (r.length▸hz) Q E ?_;refine hQ _ _ _ (Step.alloc c s.toks ?_) (.ref (by rw [zv (by rw [c.hr.len];exact zf _),c.hr.len];simp));exact .list (yn _ rfl) (r.length▸hz) (r.mono (λz z e z=>zo _ e) fV)
 ·exact Sm.stuck
section
variable{β:Type}{P:PT β}{rel:Pe->List Pd->V->β->Prop}{v:V}{u:Pa}{vs:List V}{us:List Pa}
theorem mP{f:Nat->M V}(r:VR X s.heap Y v u)(h:∀i a,u=.ref a->Y[i]?=some a->Sm X P (f i Z) rel s Y):Sm X P (asR v f Z) rel s Y:=by
 cases r with
 | ref e=>exact h _ _ rfl e
 | _=>exact Sm.stuck
theorem mF{f:List Nat->M V}(r:VR X s.heap Y v u)(h:∀x t,u=.str x t->x.length<=lim->Sm X P (f (aC x) Z) rel s Y):Sm X P (asS v f Z) rel s Y:=by
 cases r with
 | str x t z=>exact h x t rfl z
 | _=>exact Sm.stuck
theorem aEr{f:Int->M V}(r:VR X s.heap Y v u)(h:∀i t,u=.int i t->Sm X P (f i Z) rel s Y):Sm X P (asI v f Z) rel s Y:=by
 cases r with
 | int i t=>exact h i t rfl
 | _=>exact Sm.stuck
theorem lM{f:V->M V}(r:VRs X s.heap Y vs us)(h:∀v u,us=[u]->VR X s.heap Y v u->Sm X P (f v Z) rel s Y):Sm X P (a0c vs f Z) rel s Y:=by
 cases r with
 | nil=>exact Sm.stuck
 | cons r rs=>
  cases rs with
  | nil=>exact h _ _ rfl r
  | cons=>exact Sm.stuck
theorem tD{f:V->V->M V}(r:VRs X s.heap Y vs us)(h:∀v w u z,us=[u,z]->VR X s.heap Y v u->VR X s.heap Y w z->Sm X P (f v w Z) rel s Y):Sm X P (a6d vs f Z) rel s Y:=by
 cases r with
 | nil=>exact Sm.stuck
 | cons r rs=>
  cases rs with
  | nil=>exact Sm.stuck
  | cons r2 rs=>
   cases rs with
   | nil=>exact h _ _ _ _ rfl r r2
   | cons=>exact Sm.stuck
end
theorem rP{x:Int}(h:small x=true):Builtin.Int.intBits x<=64:=by have h':=of_decide_eq_true h;exact intBits_le_64 (by (first | lia | omega)) (by (first | lia | omega))
theorem jW{P:PT Pa}{f:Int->Int->M V}{x y:V}{u v:Pa}(hx:VR X s.heap Y x u)(hy:VR X s.heap Y y v)(h:∀i t j t',u=.int i t->v=.int j t'->Sm X P (f i j Z) (Rl X) s Y):Sm X P (i2 x y f Z) (Rl X) s Y:=by
 cases hx with
 | int i t=>
  cases hy with
  | int j t'=>exact h i t j t' rfl rfl
  | _=>exact Sm.stuck
 | _=>exact Sm.stuck
theorem a7s(c:Cn X A d hn s Y Z){x y:V}{u v:Pa}(hx:VR X s.heap Y x u)(hy:VR X s.heap Y y v):Sm X (Wp X A (binaryOp .Add u v)) (aFm x y Z) (Rl X) s Y:=by
 cases hx with
 | int i t=>
  cases hy with
  | int j t'=>exact Sm.ok λQ E hQ=>AutoIntOps.add_0 (hQ _ _ _ (c.same _) (.int _ _))
  | _=>exact Sm.stuck
 | str x t hx=>
  cases hy with
  | str y t' hy=>
   show Sm X _ ((if _ then M.ret _ else stuck) Z) _ _ _;refine ic ite_ (λhz=>?_) λz=>?_
   ·refine Sm.ok λQ E hQ=>PyProof.Rows.add_str (λt' tk=>hQ _ _ _ (c.same _) (lN x y▸.str _ _ (bw (bC ..) (gw (lN ..) hz)))) ?_;replace hz:=(bC ..)▸(bC ..)▸(zd ..)▸hz;exact hz
   ·exact Sm.stuck
  | _=>exact Sm.stuck
 | @ref i a hi=>
  cases hy with
  | @ref j b hj=>
   refine gE c hi λxs l n ho e r z=>gE c hj λys l' n' ho' e' r' z=>?_;refine m4 c (r.append r') λhz Q E hQ=>P.add_list e e' ?_ (by simpa using hz);rw [List.append_toArray] at *;exact hQ
  | _=>exact Sm.stuck
 | _=>exact Sm.stuck
theorem aCq(c:Cn X A d hn s Y Z)(o:Bin){x y:V}{u v:Pa}(hx:VR X s.heap Y x u)(hy:VR X s.heap Y y v):
  Sm X (Wp X A (binaryOp (aCf o) u v)) (oX o x y Z) (Rl X) s Y:=by
 cases o
 ·exact a7s c hx hy
 ·refine jW hx hy λx t y t' e1 e2=>?_;subst e1 e2;exact Sm.ok λQ E hQ=>sub_int' (hQ _ _ _ (c.same _) (.int _ _))
 ·refine jW hx hy λx t y t' e1 e2=>?_;subst e1 e2;refine ic ite_ (λhz=>?_) λz=>?_
  ·refine Sm.ok λQ E hQ=>PyProof.Rows.mul_int (hQ _ _ _ (c.same _) (.int _ _)) ?_;rcases Bool.or_eq_true_iff.mp hz with q | q
   ·exact IntMulOk.of_left (rP q)
   ·exact IntMulOk.of_right (rP q)
  ·exact Sm.stuck
 ·refine jW hx hy λx t y t' e1 e2=>?_;subst e1 e2;refine ic ite_ (λhz=>?_) λz=>?_
  ·exact Sm.ok λQ E hQ=>floordiv_int (by (first | lia | omega)) (hQ _ _ _ (c.same _) (.int _ _)) (.inl (PyProof.noPylong_small (by (first | lia | omega))))
  ·exact Sm.stuck
 ·refine jW hx hy λx t y t' e1 e2=>?_;subst e1 e2;refine ic ite_ (λz=>?_) λhz=>?_
  ·exact Sm.stuck
  ·exact Sm.ok λQ E hQ=>mod_int' hz (hQ _ _ _ (c.same _) (.int _ _))
 ·refine jW hx hy λx t y t' e1 e2=>?_;subst e1 e2;refine ic ite_ (λhz=>?_) λz=>?_
  ·obtain ⟨rfl,rfl | rfl⟩:=hz
   ·exact Sm.ok λQ E hQ=>AutoIntOps.pow_4 (by decide) (by decide) (by decide) (by decide) (by decide +kernel) (hQ _ _ _ (c.same _) (.int _ _))
   ·exact Sm.ok λQ E hQ=>AutoIntOps.pow_4 (by decide) (by decide) (by decide) (by decide) (by decide +kernel) (hQ _ _ _ (c.same _) (.int _ _))
  ·exact Sm.stuck
end
open PySem.SeqAt
section
variable{X:W}{A:Pf}{d:Nat}{hn:Bool}{s:Pb}{Y:List Pd}{Z:H}
theorem a0l(x y:Str):(x == y)=decide (aC x=aC y):=by
 by_cases h:x=y
 ·subst h;simp
 ·have:aC x≠aC y:=λq=>h (gO q);simp [h,this]
theorem ERs.get{h:Pe}{kvs:List (List Nat×V)}{l:List (Str×Pa)}(r:ERs X h Y kvs l)(x:Str):
  (aW kvs (aC x)=none/\valueAt l x=none)∨∃v u,aW kvs (aC x)=some v/\valueAt l x=some u/\VR X h Y v u:=by
 obtain ⟨hk,hlm,hv⟩:=r
 induction kvs generalizing l with
 | nil=>cases l with
  | nil=>exact .inl ⟨rfl,rfl⟩
  | cons _ _=>cases hk
 | cons p ps ih=>
  cases l with
  | nil=>cases hk
  | cons e es=>
   obtain ⟨k,v⟩:=p;obtain ⟨y,u⟩:=e;rw [wx,wx] at hk hv;injection hk with hk hks
   cases hv with
   | cons hv hvs=>
    by_cases hxy:y=x
    ·subst hxy;refine .inr ⟨v,u,?_,?_,hv⟩
     ·exact Ua hk
     ·simp [valueAt]
    ·have hne:k≠aC x:=λq=>hxy (gO (hk.symm.trans q));have e1:aW ((k,v)::ps) (aC x)=aW ps (aC x):=Ub hne;have e2:valueAt ((y,u)::es) x=valueAt es x:=by simp [valueAt,hxy]
     exact gw e1 (gw e2 (ih hks (λp hp=>hlm p (zr _ hp)) hvs))
noncomputable def ceq:Pa->Pa->Bool
 | .bool x,.bool y=>x == y
 | .int x _,.int y _=>x == y
 | .str x _,.str y _=>x == y
 | _,_=>false
theorem VR.int_inv{h:Pe}{i:Int}{u:Pa}(r:VR X h Y (.int i) u):∃t,u=.int i t:=by cases r;exact ⟨_,rfl⟩
theorem VR.str_inv{h:Pe}{x:List Nat}{u:Pa}(r:VR X h Y (.str x) u):∃z t,x=aC z/\u=.str z t:=by cases r;exact ⟨_,_,rfl,rfl⟩
theorem rV{x y:V}{u v:Pa}{b:Bool}(e:feq x y=some b){h:Pe}(hx:VR X h Y x u)(hy:VR X h Y y v)(A:Pf)(s:Pb):b=ceq u v/\EqAt A s u v (ceq u v)/\RcAt A s u v (ceq u v)/\RcNeAt A s u v (!ceq u v):=by
 cases x with
 | int i=>
  cases y with
  | int j=>
   obtain ⟨t,rfl⟩:=hx.int_inv;obtain ⟨t',rfl⟩:=hy.int_inv;cases e;exact ⟨(za7 _ _).symm,EqAt.int_int _ _ _ _,RcAt.int_int _ _ _ _,RcNeAt.int_int _ _ _ _⟩
  | _=>cases e
 | str x=>
  cases y with
  | str y=>
   obtain ⟨z,t,rfl,rfl⟩:=hx.str_inv;obtain ⟨z',t',rfl,rfl⟩:=hy.str_inv;cases e;exact ⟨(a0l _ _).symm,EqAt.str_str _ _ _ _,RcAt.str_str _ _ _ _,RcNeAt.str_str _ _ _ _⟩
  | _=>cases e
 | _=>cases e
set_option tactic.hygienic true in
theorem wK{a x:V}{xs:List V}{b:Bool}(e:dL a (x::xs)=some b):∃p q,feq x a=some p/\dL a xs=some q/\b=(p || q):=by
 have e:(match feq x a,dL a xs with | some p,some q=>some (p || q) | _,_=>.none)=some b:=e;generalize feq x a=o at e ⊢;generalize dL a xs=o' at e ⊢;cases o with
 | none=>cases e
 | some p=>cases o' with
  | none=>cases e
  | some q=>cases e;exact ⟨p,q,rfl,rfl,rfl⟩
theorem u5{h:Pe}{a:V}{u:Pa}(ha:VR X h Y a u):∀{xs:List V}{l:List Pa}{b:Bool},dL a xs=some b->VRs X h Y xs l ->
  (∀y∈l,∀A s,EqAt A s y u (ceq y u))/\l.any (λy=>ceq y u)=b:=by
 intro xs
 induction xs with
 | nil=>
  intro l b e r;cases r;cases e;exact ⟨λz h=>(by cases h),rfl⟩
 | cons x xs ih=>
  intro l b e r;cases r with
  | cons hx r=>
    refine ex2 (wK e) λp q q_h=>?_;refine an3 q_h λh1 h2 q_4=>?_;obtain rfl:=q_4;obtain ⟨hf,hq⟩:=ih h2 r;refine ⟨λy hy A s=>?_,?_⟩
    ·rcases ye.mp hy with rfl | hy
     ·exact (rV h1 hx ha A s).2.1
     ·exact hf y hy A s
    ·exact gw (jc ..) (gw hq (gw ((rV (s:=⟨{},#[],{},0,default⟩) h1 hx ha {}).1 ..) rfl))
theorem VR.none_iff{h:Pe}{x:V}{u:Pa}(r:VR X h Y x u):(u == Value.none)=dX x:=by cases r <;> rfl
theorem sO{P:Bool->PT Pa}(c:Cn X A d hn s Y Z)(neg:Bool)(r:Bool)(t:Nat)(h:∀neg Q E,Q (.bool (cond neg (!r) r)) { s with toks:=t }->P neg Q E s):Sm X (P neg) (.ok (yes neg r) Z) (Rl X) s Y:=
 Sm.ok λQ E hQ=>h neg Q E (hQ _ _ _ (c.same t) (.bool _))
noncomputable def aAk(neg:Bool):CmpOp:=if neg then .NotIn else .In
set_option tactic.hygienic true in
theorem aAo(c:Cn X A d hn s Y Z)(neg:Bool){x y:V}{u v:Pa}(hx:VR X s.heap Y x u)(hy:VR X s.heap Y y v):Sm X (Wp X A (compareOp (aAk neg) u v)) (inM x y neg Z) (Rl X) s Y:=by
 cases hy with
 | @ref i a hi=>
  show Sm X _ (match Z[i]? with | some (.list xs)=>bF ((dL x xs).map (yes neg)) Z | some (.dict kvs)=>onS x (λx=>.ret (yes neg (aW kvs x).isSome)) Z | _=>.stuck) _ _ _;rcases ho:Z[i]? with _ | ⟨xs⟩ | ⟨kvs⟩ | ⟨kvs⟩
  ·exact Sm.stuck
  ·refine cM λw he=>?_;obtain ⟨r,hr,rfl⟩:=zk.mp he;refine ex2 (c.list ho hi) λl n q_h=>?_;refine an3 q_h λe rr q=>?_;obtain ⟨h1,h2⟩:=u5 hx hr rr;have L:s.heap.IsList a l.toArray:=⟨_,e,rfl,_,rfl⟩;refine sO (P:=λneg=>Wp X A (compareOp (aAk neg) u (.ref a))) c neg r s.toks λneg Q E hq=>?_;cases neg with
   | false=>exact in_listAt (λy=>ceq y u) L (λy hy=>h1 y (by simpa using hy) _ _) (gw (List.any_toArray ..) (gw h2 hq))
   | true=>exact notIn_listAt (λy=>ceq y u) L (λy hy=>h1 y (by simpa using hy) _ _) (gw (List.any_toArray ..) (gw h2 hq))
  ·cases hx <;> first | exact Sm.stuck | skip
   rename_i z t hz;obtain ⟨l,q_h⟩:=(c.dict ho hi);refine an3 q_h λhd rr q=>?_;refine sO (P:=λneg=>Wp X A (compareOp (aAk neg) (.str z t) (.ref a))) c neg _ (s.toks+1) λneg Q E hq=>?_;have hk:(aW kvs (aC z)).isSome=(valueAt l z).isSome:=by
    rcases rr.get z with ⟨e1,e2⟩ | ⟨v,w,e1,e2,_⟩ <;> rw [e1,e2] <;> rfl
   replace hq:=hk▸hq;cases neg with
   | false=>exact wpAny_in_of (strKind_is X.prog X.w z t) (c.noSys hi) hd.mapOf hq
   | true=>exact wpAny_notIn_of (strKind_is X.prog X.w z t) (c.noSys hi) hd.mapOf hq
  ·exact Sm.stuck
 | str w t hw=>
  cases hx <;> first | exact Sm.stuck | skip
  rename_i z t' hz';show Sm X _ (one (aC z) (λk=>.ret (yes neg ((aC w).contains k))) Z) _ _ _;rcases hz:aC z with _ | ⟨k,_ | ⟨_,_⟩⟩
  ·exact Sm.stuck
  ·have hzz:z=⟨#[k]⟩:=gO (gw hz rfl);subst hzz;have key:(!(Builtin.Str.occurrences w ⟨#[k]⟩ 0 w.length 1).isEmpty)=(aC w).contains k:=by
    refine gw (StrLaws.found_one ..) ?_;show decide (k∈aC w)=_;rw [uh,decide_eq_true_eq,za5]
   refine sO (P:=λneg=>Wp X A (compareOp (aAk neg) (.str ⟨#[k]⟩ t') (.str w t))) c neg _ s.toks λneg Q E hq=>?_;cases neg with
   | false=>exact in_str (gw key hq)
   | true=>exact notIn_str (gw key hq)
  ·exact Sm.stuck
 | _=>exact Sm.stuck
theorem nX{h:Pe}{v:V}{u w:Pa}(hv:aCa v=true)(h1:VR X h Y v u)(h2:VR X h Y v w)(A:Pf)(s:Pb):EqAt A s u w true:=by
 cases v with
 | none=>cases h1;cases h2;exact EqAt.same _
 | int i=>
  obtain ⟨t,rfl⟩:=h1.int_inv;obtain ⟨t',rfl⟩:=h2.int_inv;exact (beq_self_eq_true i)▸EqAt.int_int _ _ _ _
 | str x=>
  obtain ⟨z,t,rfl,rfl⟩:=h1.str_inv;obtain ⟨z',t',e,rfl⟩:=h2.str_inv;cases gO e;exact (beq_self_eq_true z)▸EqAt.str_str _ _ _ _
 | _=>cases hv
theorem VR.ref_inv{h:Pe}{i:Nat}{u:Pa}(r:VR X h Y (.ref i) u):∃a,u=.ref a/\Y[i]?=some a:=by cases r;exact ⟨_,rfl,‹_›⟩
theorem VR.tup_inv{h:Pe}{vs:List V}{u:Pa}(r:VR X h Y (.tup vs) u):∃a l,u=.ref a/\h.IsTuple a (jq l)/\VRs X h Y vs l:=by cases r with | tup e _ r=>exact ⟨_,_,rfl,⟨_,e,rfl,_,rfl⟩,r⟩
theorem tP{p:V->Bool}{h:Pe}{xs:List V}{l m:List Pa}{A:Pf}(ha:xs.all p=true)(h1:VRs X h Y xs l)(h2:VRs X h Y xs m)(hp:∀v u w,p v=true->VR X h Y v u->VR X h Y v w->EqAt A s u w true):
  ∀j (h1:j<l.toArray.size) (h2:j<m.toArray.size),EqAt A s l.toArray[j] m.toArray[j] true:=by
 intro j j1 j2;have k1:j<xs.length:=h1.length▸j1;obtain ⟨u,f1,r1⟩:=h1.get (zg k1);obtain ⟨w,f2,r2⟩:=h2.get (zg k1);replace f1:=(zg j1 ..)▸f1;replace f2:=(zg j2 ..)▸f2;exact gw (zbh ..) (gw (zbh ..) (gw (Option.some.inj f1 ..) (gw (Option.some.inj f2 ..) (hp _ _ _ (wt.mp ha _ (xj k1)) r1 r2))))
theorem pP(n:Nat):(zs n).all (λz=>true)=true:=wt.mpr λz z=>rfl
theorem a7a{v:V}{u w:Pa}(hv:nQ v=true)(h1:VR X s.heap Y v u)(h2:VR X s.heap Y v w){A:Pf}(hu:A.units<cLine):EqAt A s u w true:=by
 cases v with
 | tup vs=>
  refine ex2 h1.tup_inv λa l q=>?_;refine an3 q λq1 L1 r1=>?_;subst q1;refine ex2 h2.tup_inv λb m q=>?_;refine an3 q λq1 L2 r2=>?_;subst q1;by_cases hab:a=b
  ·subst hab;exact EqAt.same _
  ·refine .of_refs hab ?_;have q:=RcAt.tuples (e:=λz=>true) L1 L2 hu (tP hv r1 r2 λv u w a b c=>nX a b c _ _);have hs:l.toArray.size=m.toArray.size:=r1.length.symm.trans r2.length;exact gw (show true=(_&&_) from (zz.mpr ⟨pP _,beq_iff_eq.mpr hs⟩).symm) q
 | none=>exact nX (v:=.none) hv h1 h2 A s
 | int i=>exact nX (v:=(.int i)) hv h1 h2 A s
 | str x=>exact nX (v:=(.str x)) hv h1 h2 A s
 | _=>cases hv
theorem aCh{xs ys:List V}{q:Bool}{a b:Pd}{l m:List Pa}(hq:leq xs ys=some q)(L1:s.heap.IsList a l.toArray)(L2:s.heap.IsList b m.toArray)(r:VRs X s.heap Y xs l)(r':VRs X s.heap Y ys m){A:Pf}(hu:A.units+1<cLine):RcAt A s (.ref a) (.ref b) q/\RcNeAt A s (.ref a) (.ref b) (!q):=by
 have hu0:=xl hu;unfold leq at hq;by_cases hl:xs.length=ys.length
 ·replace hq:=(Ua hl ..)▸hq;by_cases hs:xs=ys/\xs.all nQ=true
  ·cases (Ua hs).symm.trans hq;obtain ⟨rfl,hf⟩:=hs;have hs:l.toArray.size=m.toArray.size:=r.length.symm.trans r'.length;have hi:=tP hf r r' λv u w a b c=>a7a a b c (A:=A.in1) hu;exact ⟨(pP _)▸RcAt.lists (e:=λz=>true) L1 L2 hs hu0 hi,(pP _)▸RcNeAt.lists (e:=λz=>true) L1 L2 hs hu0 hi⟩
  ·cases (Ub hs).symm.trans hq
 ·cases (Ub hl).symm.trans hq;have hs:(l.toArray.size != m.toArray.size)=true:=bne_iff_ne.mpr λq=>hl (r.length.trans (Eq.trans q r'.length.symm));exact ⟨RcAt.lists_lengths L1 L2 hs hu0,RcNeAt.lists_lengths L1 L2 hs hu0⟩
theorem a3e(c:Cn X A d hn s Y Z)(neg:Bool){u v:Pa}{b:Bool}(h:RcAt A s u v b/\RcNeAt A s u v (!b)):Sm X (Wp X A (compareOp (if neg then .NotEq else .Eq) u v)) (.ok (yes neg b) Z) (Rl X) s Y:=
 sO (P:=λneg=>Wp X A (compareOp (if neg then .NotEq else .Eq) u v)) c neg b s.toks λneg Q E hq=>by
  cases neg with
  | false=>exact h.1 X.prog X.w E Q hq
  | true=>exact h.2 X.prog X.w E Q hq
theorem aBj(c:Cn X A d hn s Y Z)(neg:Bool){x y:V}{u v:Pa}(hx:VR X s.heap Y x u)(hy:VR X s.heap Y y v):Sm X (Wp X A (compareOp (if neg then .NotEq else .Eq) u v)) (eqM x y neg Z) (Rl X) s Y:=by
 have nQ:Sm X (Wp X A (compareOp (if neg then .NotEq else .Eq) u v)) (bF ((feq x y).map (yes neg)) Z) (Rl X) s Y:=cM λw he=>by
  obtain ⟨r,hr,rfl⟩:=zk.mp he;obtain ⟨rfl,-,h⟩:=rV hr hx hy A s;exact a3e c neg h
 cases x with
 | ref i=>
  cases y with
  | ref j=>
   obtain ⟨a,rfl,hi⟩:=hx.ref_inv;obtain ⟨b,rfl,hj⟩:=hy.ref_inv;refine gE c hi λxs l n ho e r z=>gE c hj λys m n' ho' e' r' z=>cM λw he=>?_;obtain ⟨q,hq,rfl⟩:=zk.mp he;exact a3e c neg (aCh hq ⟨_,e,rfl,_,rfl⟩ ⟨_,e',rfl,_,rfl⟩ r r' (yt (show A.units+1<=A.units+40*d+40 by (first | lia | omega)) c.rm.units))
  | _=>exact Sm.stuck
 | _=>exact nQ
theorem mS(c:Cn X A d hn s Y Z)(op:Cmp){x y:V}{u v:Pa}(hx:VR X s.heap Y x u)(hy:VR X s.heap Y y v):
  Sm X (Wp X A (compareOp (sF op) u v)) (eA op x y Z) (Rl X) s Y:=by
 cases op with
 | eq=>exact aBj c false hx hy
 | ne=>exact aBj c true hx hy
 | lt=>
  refine jW hx hy λi t j t' e1 e2=>?_;subst e1 e2;exact Sm.ok λQ E hQ=>lt_int (hQ _ _ _ (Step.refl c.hr c.base) (.bool _))
 | le=>
  refine jW hx hy λi t j t' e1 e2=>?_;subst e1 e2;exact Sm.ok λQ E hQ=>le_int (hQ _ _ _ (Step.refl c.hr c.base) (.bool _))
 | gt=>
  refine jW hx hy λi t j t' e1 e2=>?_;subst e1 e2;exact Sm.ok λQ E hQ=>gt_int (hQ _ _ _ (Step.refl c.hr c.base) (.bool _))
 | ge=>
  refine jW hx hy λi t j t' e1 e2=>?_;subst e1 e2;exact Sm.ok λQ E hQ=>ge_int (hQ _ _ _ (Step.refl c.hr c.base) (.bool _))
 | is=>
  cases hy with
  | none=>exact Sm.ok λQ E hQ=>is_none_gen (gw (hx.none_iff ..) (hQ _ _ _ (Step.refl c.hr c.base) (.bool _)))
  | _=>exact Sm.stuck
 | isnt=>
  cases hy with
  | none=>exact Sm.ok λQ E hQ=>isnot_none_gen (gw (hx.none_iff ..) (hQ _ _ _ (Step.refl c.hr c.base) (.bool _)))
  | _=>exact Sm.stuck
 | N=>exact aAo c false hx hy
 | notin _=>exact aAo c true hx hy
end
section
variable{X:W}{A:Pf}{d:Nat}{hn:Bool}{s:Pb}{Y:List Pd}{Z:H}
theorem tU{k:Int}{n j:Nat}(e:iA k n=some j):seqIndex? k n=some j/\j<n:=by
 unfold iA at e;unfold seqIndex?;revert e;refine ic ite_ (λh e=>?_) λh e=>?_
 ·revert e;refine ic ite_ (λh2 e=>?_) λz e=>?_
  ·cases e;have h1:¬k<0:=kj.mpr h;simp only [h1,if_false];exact ⟨(gw (Ua (zz.mpr ⟨Uc h,Uc ((jn h).mp h2)⟩) ..) rfl),h2⟩
  ·cases e
 ·revert e;refine ic ite_ (λh2 e=>?_) λz e=>?_
  ·cases e;have h1:k<0:=zap.mp h;have h3:k+n<n:=wm (Int.add_lt_add_right h1 n) (Int.le_of_eq (Int.zero_add _));simp only [h1,if_true];exact ⟨(gw (Ua (zz.mpr ⟨Uc h2,Uc h3⟩) ..) rfl),(jn h2).mpr h3⟩
  ·cases e
theorem mK{k:Int}{n j:Nat}(e:iA k n=some j)(hz:n<=lim):-(2 ^ 63)<=k/\k<2 ^ 63:=by
 have hn:(n:Int)<=lim:=xd.mpr hz;unfold iA at e;revert e;refine ic ite_ (λh e=>?_) λh e=>?_
 ·revert e;refine ic ite_ (λh2 e=>?_) λz e=>?_
  ·exact ⟨km (by decide) h,ft ((jn h).mp h2) (vp hn (by decide))⟩
  ·cases e
 ·revert e;refine ic ite_ (λh2 e=>?_) λz e=>?_
  ·exact ⟨km (km (by decide) (Int.neg_le_neg hn)) (zbi ((Int.sub_neg _ _).symm▸h2)),ft (zap.mp h) (by decide)⟩
  ·cases e
theorem qZ{a:Pd}{l:List Pa}(L:s.heap.IsList a l.toArray)(hz:l.length<=lim){k:Int}{t:Tok}{j:Nat}(e:iA k l.length=some j){u:Pa}(hu:l[j]?=some u){Q:Pa->Pb->Prop}{E:Pa->Pb->Prop}(h:Q u s):Un (Mo X) A (getItem (.ref a) (.int k t)) Q E s:=by
 obtain ⟨f1,f2⟩:=mK e hz;unfold iA at e;revert e;refine ic ite_ (λh0 e=>?_) λh0 e=>?_
 ·revert e;refine ic ite_ (λz e=>?_) λz e=>?_
  ·cases e;exact wpAny_getItem_list L h0 f2 (by simpa using hu) h
  ·cases e
 ·revert e;refine ic ite_ (λh1 e=>?_) λz e=>?_
  ·cases e;exact wpAny_getItem_list_neg L (zap.mp h0) (zbi ((Int.sub_neg _ _).symm▸h1)) f1 (by simpa using hu) h
  ·cases e
theorem aBz(c:Cn X A d hn s Y Z){value slice:Pg}{x y:V}{u v:Pa}(hx:VR X s.heap Y x u)(hy:VR X s.heap Y y v)(hs:subscripted slice false u v=operate [u,v] (getItem u v)):Sm X (Wp X A (subscriptTail value slice u v)) (iB X.ns x y Z) (Rl X) s Y:=by
 cases hy with
 | int k t=>
  cases hx with
  | @ref i a hi=>
   refine gE c hi λxs l n ho e r hz=>cM λw he=>?_;obtain ⟨j,e1,e2⟩:=vj.mp he;obtain ⟨z,hz1,hz2⟩:=r.get e2;have L:s.heap.IsList a l.toArray:=⟨_,e,rfl,_,rfl⟩;replace e1:=(r.length ..)▸e1;exact Sm.ok λQ E hQ=>tail_any L.typeIs slot_list_getitem.lookup (qZ L hz e1 hz1 (hQ _ _ _ (Step.refl c.hr c.base) hz2)) hs
  | @tup xs a l n e hz r=>
   refine cM λw he=>?_;obtain ⟨j,e1,e2⟩:=vj.mp he;obtain ⟨z,hz1,hz2⟩:=r.get e2;replace e1:=(r.length ..)▸e1;obtain ⟨f1,f2⟩:=mK e1 hz;have T:IsTup s.heap a l.toArray:=⟨_,e,rfl,_,rfl⟩;exact Sm.ok λQ E hQ=>item_tupleT T f1 f2 (by simpa using (tU e1).1) (by simpa using hz1) (hQ _ _ _ (Step.refl c.hr c.base) hz2) hs
  | str w t' hw=>
   refine cM λv he=>?_;obtain ⟨q,he',rfl⟩:=zk.mp he;obtain ⟨j,e1,e2⟩:=vj.mp he';replace e1:=(bC ..)▸e1;obtain ⟨f1,f2⟩:=mK e1 hw;refine Sm.ok λQ E hQ=>tail_any (typeIs_str s w t') slot_str_getitem.lookup (getItem_str (c:=q) (Bool.or_eq_false_iff.mpr ⟨Ud (kj.mpr f1),Ud (zap.mpr f2)⟩) ?_ (hQ _ _ _ (c.same _) (.str ⟨#[q]⟩ _ (wy rfl)))) hs;refine gw ((tU e1).1 ..) ?_;simpa [aC] using e2
  | scr=>
   refine cM λv he=>?_;obtain ⟨w,he',rfl⟩:=zk.mp he;obtain ⟨j,e1,e2⟩:=vj.mp he';obtain ⟨vs,q_h⟩:=(c.scr);refine an3 q_h λL0 hi hz=>?_;have L:s.heap.IsList X.scr vs.toArray:=by obtain ⟨o,a,b⟩:=L0;exact ⟨o,c.base.keep _ _ a,b⟩
   replace e1:=(hi.length ..)▸e1;obtain ⟨t',e3⟩:=hi.get j w e2;exact Sm.ok λQ E hQ=>tail_any L.typeIs slot_list_getitem.lookup (qZ L hz e1 e3 (hQ _ _ _ (Step.refl c.hr c.base) (.int _ _))) hs
  | _=>exact Sm.stuck
 | str z t hzl=>
  cases hx with
  | @ref i a hi=>
   refine sV c hi λkvs l hd r p=>cM λw he=>?_;rcases r.get z with ⟨e1,_⟩ | ⟨w',q,e1,e2,hr⟩
   ·replace e1:=he▸e1;cases e1
   ·replace e1:=he▸e1;cases e1;exact Sm.ok λQ E hQ=>tail_any hd.typeIs slot_dict_getitem.lookup (wpAny_getItem_of (strKind_is X.prog X.w z t) hd.mapOf e2 (hQ _ _ _ (c.same _) hr)) hs
  | _=>exact Sm.stuck
 | _=>exact Sm.stuck
theorem oM(k:Int)(n:Nat):gB k n=clipAt n k:=by
 cases k with
 | ofNat a=>exact (Ua (zy a)).trans (clipAt_nat n a).symm
 | negSucc m=>exact (Ub (zap.mpr (Int.negSucc_lt_zero m))).trans ((Uf Int.toNat (Int.add_comm _ _)).trans ((Int.toNat_sub n (m+1)).trans (clipAt_neg n (m+1) (zw (yj m))).symm))
theorem uA{l:List Pa}(lo hi:Option Int):slicePick l.toArray lo hi none=(cut l lo hi).toArray:=by refine gw (slicePick_plain ..) ?_;unfold cut;cases lo <;> cases hi <;> simp [oM]
theorem VRs.cut{h:Pe}{xs:List V}{l:List Pa}(r:VRs X h Y xs l)(lo hi:Option Int):VRs X h Y (cut xs lo hi) (cut l lo hi):=by unfold Mine.Internal.cut;exact gw (r.length ..) ((r.drop _).take _)
theorem aBu{α:Type}(xs:List α)(lo hi:Option Int):(cut xs lo hi).length<=xs.length:=((gq _ _).trans (gp _ _)).length_le
theorem a8q{α β:Type}(f:α->β)(xs:List α)(lo hi:Option Int):(cut xs lo hi).map f=cut (xs.map f) lo hi:=by unfold cut;rw [zb,zbn,zbo]
theorem uK(x:Str)(lo hi:Option Int):(Builtin.Str.strSliceIndices lo hi 1 x.length).filterMap (x.cps[·]?)=cut (aC x) lo hi/\(Builtin.Str.strSliceIndices lo hi 1 x.length).length=(cut (aC x) lo hi).length:=by
 have hb:∀n:Nat,Builtin.Str.strSliceIndices lo hi 1 n=sliceRange ((lo.elim 0 (clipAt n):Nat):Int) ((hi.elim n (clipAt n):Nat):Int) 1:=by
  intro n;unfold Builtin.Str.strSliceIndices;cases lo <;> cases hi <;> simp [clipAt_cast]
 rw [hb,sliceRange_one,pick_run];have e:cut (aC x) lo hi=(x.cps.toList.drop (lo.elim 0 (clipAt x.length))).take (hi.elim x.length (clipAt x.length)-lo.elim 0 (clipAt x.length)):=by
  unfold cut;refine gw (bC ..) ?_;cases lo <;> cases hi <;> simp [oM,aC]
 refine ⟨e.symm,?_⟩;refine gw e ?_;simp only [zb,we,xo,ue];have h1:x.cps.toList.length=x.length:=by simp [Str.length]
 refine gw h1 ?_;cases hi with
 | none=>exact (Nat.min_self _).symm
 | some i=>exact (yo (Nat.sub_le_sub_right (zaw.mpr (Int.max_le.mpr ⟨zy _,Int.min_le_right _ _⟩)) _)).symm
theorem a2n{α:Type}{xs:List α}{lo hi:Option Int}(h:(cut xs lo hi).length=xs.length):cut xs lo hi=xs:=((gq _ _).trans (gp _ _)).eq_of_length h
theorem a4r{h:Pe}{l:List Pa}{ns:List Int}(r:IntsAre l ns):VRs X h Y (ns.map V.int) l:=by
 induction r with
 | nil=>exact .nil
 | cons n t _ ih=>exact .cons (.int n t) ih
theorem Cn.isScr(c:Cn X A d hn s Y Z){xs:Array Pa}(L:X.h₀.IsList X.scr xs):s.heap.IsList X.scr xs:=by obtain ⟨o,e,r⟩:=L;exact ⟨o,c.base.keep _ _ e,r⟩
noncomputable def s7:Pa->Option (Int×Tok)
 | .int i t=>some (i,t)
 | _=>none
theorem uP{h:Pe}{x:V}{u:Pa}{o:Option Int}(e:jN x=some o)(r:VR X h Y x u):IsPart u o/\partValue (s7 u)=u/\(s7 u).map (·.1)=o:=by
 cases r <;> cases e
 ·exact ⟨.none,rfl,rfl⟩
 ·exact ⟨.int _ _,rfl,rfl⟩
theorem a5m(c:Cn X A d hn s Y Z){value:Pg}{lower upper:Option Pg}{p:Pos}{x y z:V}{u vl vh:Pa}(hx:VR X s.heap Y x u)(hl:VR X s.heap Y y vl)(hh:VR X s.heap Y z vh):
  Sm X (λQ E s=>Un (Mo X) A (newFields "slice" [vl,vh,.none]) (λi s2=>Un (Mo X) A (subscriptTail value (.Slice lower upper none p) u i) Q E s2) E s) (gV X.ns x y z Z) (Rl X) s Y:=by
 unfold gV;cases e1:jN y with
 | none=>exact Sm.stuck
 | some lo=>
  cases e2:jN z with
  | none=>exact Sm.stuck
  | some hi=>
   obtain ⟨pl,pl1,pl2⟩:=uP e1 hl;obtain ⟨ph,ph1,ph2⟩:=uP e2 hh;have S1:Step X s Y { s with heap:=s.heap.push { cls:=.type "slice",data:=.fields #[vl,vh,.none] } } Y Z:=Step.push c _ s.toks;have c1:=c.step S1;have go:∀{r:R V},Sm X (Wp X A (subscriptTail value (.Slice lower upper none p) u (.ref s.heap.objs.size))) r (Rl X) { s with heap:=s.heap.push { cls:=.type "slice",data:=.fields #[vl,vh,.none] } } Y ->
     Sm X (λQ E s=>Un (Mo X) A (newFields "slice" [vl,vh,.none]) (λi s2=>Un (Mo X) A (subscriptTail value (.Slice lower upper none p) u i) Q E s2) E s) r (Rl X) s Y:=by
    intro r h hne Q E hQ hE;exact wpAny_newObj_type (h hne Q E (λa Z' b s' Y' e S r=>hQ a Z' b s' Y' e (S1.trans S) r) λcc Z' e s' Y' q S r=>hE cc Z' e s' Y' q (S1.trans S) (r.le S1.pers)) (by show 3<=sizeLine+2;decide)
   dsimp only;cases hx with
   | @ref i a hi'=>
    refine go (gE c1 hi' λxs l n ho e r hz=>?_)
    ·have L:(s.heap.push { cls:=.type "slice",data:=.fields #[vl,vh,.none] }).IsList a l.toArray:=⟨_,e,rfl,_,rfl⟩;refine m4 c1 (r.cut lo hi) λv Q E hQ=>tail_any L.typeIs list_getitem_lookup (ops:=[.ref s.heap.objs.size,.ref a])
      (wpAny_getItem_list_slice L (Heap.IsSliceOf.new ..) pl ph .none (by simp) ?_ (gw (yp ..) hz)) (by with_unfolding_all rfl)
     exact gw (uA ..) hQ
   | str w t hw=>
    refine go ?_;show Sm X _ (mkS (cut (aC w) lo hi) Z) _ _ _;unfold mkS;have hcl:(cut (aC w) lo hi).length<=lim:=za (aBu _ _ _) (gw (bC ..) hw);refine gw (Ua hcl ..) ?_;refine Sm.ok λQ E hQ=>?_;obtain ⟨k1,k2⟩:=uK w lo hi;refine tail_any (typeIs_str _ w t) slot_str_getitem.lookup (ops:=[.ref s.heap.objs.size,.str w t]) (getItem_slot (typeIs_str _ w t) (by decide) slot_str_getitem
     (call_meets slot_str_getitem (typeIs_str _ w t) entry_str_getitem (args_str_getitem _ _) (meets_str_getitem_slice w t s.heap.objs.size (s7 vl) (s7 vh) none rfl) ⟨?_,?_⟩)) (by with_unfolding_all rfl)
    ·refine ⟨_,yn _ rfl,rfl,?_⟩;exact gw pl1 (gw ph1 rfl)
    ·unfold sliceMade slicePicked;refine gw pl2 (gw ph2 ?_);show Made.post (if ((1:Int) == 1&&(Builtin.Str.strSliceIndices lo hi 1 w.length).length == w.length)=true then _ else _) _ _;refine ic ite_ (λhq=>?_) λhq=>?_
     ·have hq':(cut (aC w) lo hi).length=(aC w).length:=by refine bw k2 (gw (bC ..) ?_);simpa using hq
      have:cut (aC w) lo hi=aC w:=by
       exact a2n hq'
      exact hQ _ _ _ (Step.refl c1.hr c1.base) (gw (this ..) (.str _ _ hw))
     ·refine gw (show ((Option.map (λx:Int×Tok=>x.fst) none).getD 1:Int)=1 from rfl) (gw k1 ?_);dsimp only [Made.post];have hl:(Str.mk (cut (aC w) lo hi).toArray).length<=lim:=by simp only [Str.length,yp];exact hcl
      refine ⟨hl,hQ _ _ _ ((Step.refl c1.hr c1.base).toks _) ?_⟩;have:=VR.str (X:=X) (h:=s.heap.push { cls:=.type "slice",data:=.fields #[vl,vh,.none] }) (Y:=Y) ⟨(cut (aC w) lo hi).toArray⟩ s.toks hl;replace this:=(a5z ..)▸this;exact this
   | scr=>
    refine go ?_;obtain ⟨vs,q_h⟩:=(c1.scr);refine an3 q_h λL0 hi' hz=>?_;have L:(s.heap.push { cls:=.type "slice",data:=.fields #[vl,vh,.none] }).IsList X.scr vs.toArray:=c1.isScr L0;refine m4 c1 (l:=cut vs lo hi) ?_ λv Q E hQ=>tail_any L.typeIs list_getitem_lookup (ops:=[.ref s.heap.objs.size,.ref X.scr])
       (wpAny_getItem_list_slice L (Heap.IsSliceOf.new ..) pl ph .none (by simp) ?_ (gw (yp ..) hz)) (by with_unfolding_all rfl)
    ·exact gw (a8q ..) ((a4r hi').cut lo hi)
    ·exact gw (uA ..) hQ
   | _=>exact Sm.stuck
end
open PySem.Calls
noncomputable def asB:V->M Bool
 | .bool b=>.ret b
 | _=>stuck
noncomputable abbrev RlB:Pe->List Pd->Bool->Bool->Prop:=λz z a b=>a=b
noncomputable def a9t(e:Pg):Bool:=zas e.ctorIdx 26
noncomputable def rT(t:E):Bool:=zas t.ctorIdx 4 || zat 6 t.ctorIdx&&zat t.ctorIdx 9
section
variable{X:W}{A:Pf}{d:Nat}{s:Pb}{Y:List Pd}{Z:H}{env:zq}{cx:Cx}{J:Env}
structure Facts(t:E)(e:Pg):Prop where
 marks:∀op,behindInMarks op e=false
 star:∀rest env,Ul (e::rest) env=(false,eval e env)::Ul rest env
 fold:∀env x,foldedSetIterable e env x=pure x
 slice:a9t e=false
 swap:jF t=false->∀tg l env,swapsWith e tg l env=pure false
 test:rT t=false->∀env whole,isTrue e env whole=(do let v ←whole;standAt e.pos;holding [v] (truthy v))
theorem Facts.call{t:E}{e:Pg}{f:Pg}{xs:List Pg}{ks:List Keyword}{p:Pos}(h:e=.Call f xs ks p):Facts t e:=by subst h;exact ⟨λz=>rfl,λz z=>rfl,λz z=>rfl,rfl,λz z z z=>rfl,λz z z=>rfl⟩
theorem Facts.name{t:E}{e:Pg}{x:Str}{p:Pos}(h:e=.Name x p):Facts t e:=by subst h;exact ⟨λz=>rfl,λz z=>rfl,λz z=>rfl,rfl,λz z z z=>rfl,λz z z=>rfl⟩
theorem Facts.g{t:E}{e:Pg}{l:Pg}{os:List CmpOp}{rs:List Pg}{p:Pos}(ht:rT t=true)(h:e=.Compare l os rs p):Facts t e:=by subst h;exact ⟨λz=>rfl,λz z=>rfl,λz z=>rfl,rfl,λz z z z=>rfl,(λq=>by cases ht.symm.trans q)⟩
theorem Facts.bool{t:E}{e:Pg}{op:BoolOp}{xs:List Pg}{p:Pos}(ht:rT t=true)(h:e=.BoolOp op xs p):Facts t e:=by subst h;exact ⟨λz=>rfl,λz z=>rfl,λz z=>rfl,rfl,λz z z z=>rfl,(λq=>by cases ht.symm.trans q)⟩
theorem Facts.sub{t:E}{e:Pg}{v i:Pg}{p:Pos}(h:e=.Subscript v i p):Facts t e:=by subst h;exact ⟨λz=>rfl,λz z=>rfl,λz z=>rfl,rfl,λz z z z=>rfl,λz z z=>rfl⟩
theorem Facts.comp{t:E}{e:Pg}{el:Pg}{gs:List Comprehension}{sc:Scope}{p:Pos}(ht:jF t=true)(h:e=.ListComp el gs sc p):Facts t e:=by subst h;exact ⟨λz=>rfl,λz z=>rfl,λz z=>rfl,rfl,(λq=>by cases ht.symm.trans q),λz z z=>rfl⟩
set_option tactic.hygienic true in
theorem T.facts{G:GT}{t:E}{e:Pg}(h:T G t cx e):Facts t e:=by
 cases t
 case k=>obtain ⟨_,_,_,rfl,_⟩:=h;exact ⟨λz=>rfl,λz z=>rfl,λz z=>rfl,rfl,λz z z z=>rfl,λz z z=>rfl⟩
 case v=>exact ex2 h λz z q=>.name q.1
 case con=>exact ex2 h λz z q=>.name q.1
 case cmp2=>exact ex4 h λz z z z q=>.g rfl q.1
 case new=>exact ex4 h λz z z z q=>.call q.1
 case u=>exact ex5 h λz z z z z q=>.call q.1
 case attr=>obtain ⟨_,_,_,rfl,_⟩:=h;exact ⟨λz=>rfl,λz z=>rfl,λz z=>rfl,rfl,λz z z z=>rfl,λz z z=>rfl⟩
 case mm k _ _=>exact ex5 h λz z z z z q=>by cases k <;> exact .call q.1
 case o=>obtain ⟨_,_,_,rfl,_⟩:=h;exact ⟨λz=>rfl,λz z=>rfl,λz z=>rfl,rfl,λz z z z=>rfl,λz z z=>rfl⟩
 case not=>obtain ⟨_,_,rfl,_⟩:=h;exact ⟨λz=>rfl,λz z=>rfl,λz z=>rfl,rfl,λz z z z=>rfl,λh=>by cases h⟩
 case neg=>obtain ⟨_,_,rfl,_⟩:=h;exact ⟨λz=>rfl,λz z=>rfl,λz z=>rfl,rfl,λz z z z=>rfl,λz z z=>rfl⟩
 case and=>exact ex2 h λz z q=>.bool rfl q.1
 case or=>exact ex2 h λz z q=>.bool rfl q.1
 case g=>exact ex3 h λz z z q=>.g rfl q.1
 case call=>exact ex4 h λz z z z q=>.call q.1
 case bi=>exact ex3 h λz z z q=>.call q.1
 case isi=>exact ex4 h λz z z z q=>.call q.1
 case me=>exact ex4 h λz z z z q=>.call q.1
 case i=>exact ex3 h λz z z q=>.sub q.1
 case slice=>exact ex5 h λz z z z z q=>.sub q.1
 case nil=>exact h.elim
 case list=>obtain ⟨_,_,rfl,_⟩:=h;exact ⟨λz=>rfl,λz z=>rfl,λz z=>rfl,rfl,λz z z z=>rfl,λz z z=>rfl⟩
 case tup=>obtain ⟨_,_,_,rfl,_⟩:=h;exact ⟨λz=>rfl,λz z=>rfl,λz z=>rfl,rfl,λz z z z=>rfl,λz z z=>rfl⟩
 case dict0=>obtain ⟨_,rfl⟩:=h;exact ⟨λz=>rfl,λz z=>rfl,λz z=>rfl,rfl,λz z z z=>rfl,λz z z=>rfl⟩
 case dict=>obtain ⟨_,_,_,rfl,_⟩:=h;exact ⟨λz=>rfl,λz z=>rfl,λz z=>rfl,rfl,λz z z z=>rfl,λz z z=>rfl⟩
 case comp=>exact ex7 h λz z z z z z z q=>.comp rfl q.1
 case J=>exact ex8 h λz z z z z z z z q=>.comp rfl q.1
theorem Sm.go{α β γ δ:Type}{P:PT β}{P2:β->PT δ}{m:M α}{k:α->M γ}{rel:Pe->List Pd->α->β->Prop}{rel2:Pe->List Pd->γ->δ->Prop}(c:Cn X A d true s Y Z)(F:FR X env cx J s.heap Y)(h1:Sm X P (m Z) rel s Y)(h2:∀a Z1 b s1 Y1,Cn X A d true s1 Y1 Z1->FR X env cx J s1.heap Y1->Step X s Y s1 Y1 Z1->rel s1.heap Y1 a b->Sm X (P2 b) (k a Z1) rel2 s1 Y1):
  Sm X (λQ E s=>P (λb s1=>P2 b Q E s1) E s) (m.bnd k Z) rel2 s Y:=
 h1.bind λa Z1 b s1 Y1 z S r=>h2 a Z1 b s1 Y1 (c.step S) (F.step c.hr S) S r
theorem mM(c:Cn X A d true s Y Z){v:V}{u:Pa}(r:VR X s.heap Y v u):Sm X (Wp X A (truthy u)) (asB v Z) RlB s Y:=by
 cases r <;> first | exact Sm.stuck | skip
 exact Sm.ok λQ E hQ=>Ui (hQ _ _ _ (Step.refl c.hr c.base) rfl)
theorem Cn.ret(c:Cn X A d true s Y Z){v:V}{u:Pa}(r:VR X s.heap Y v u){P:PT Pa}(h:∀Q E,Q u s->P Q E s):Sm X P (.ok v Z) (Rl X) s Y:=Sm.ok λQ E hQ=>h Q E (hQ _ _ _ (Step.refl c.hr c.base) r)
noncomputable def bL(X:W)(C:Calls)(G:GT)(d:Nat)(t:E):Prop:=
 ∀(cx:Cx) (e:Pg),T G t cx e->∀(A:Pf) (env:zq) (J:Env) (s:Pb) (Y:List Pd) (Z:H),Cn X A d true s Y Z->FR X env cx J s.heap Y ->
  Sm X (Wp X A (eval e env)) (evE X.ns C J t Z) (Rl X) s Y
noncomputable def a7x(X:W)(C:Calls)(G:GT)(d:Nat)(t:E):Prop:=
 ∀(cx:Cx) (e:Pg),T G t cx e->∀(A:Pf) (env:zq) (J:Env) (s:Pb) (Y:List Pd) (Z:H),Cn X A d true s Y Z->FR X env cx J s.heap Y ->
  Sm X (Wp X A (isTrue e env (eval e env))) ((evE X.ns C J t).bnd asB Z) RlB s Y
structure Sim(X:W)(C:Calls)(G:GT)(d:Nat)(t:E):Prop where
 ev:bL X C G d t
 tr:a7x X C G d t
noncomputable def kW(X:W)(C:Calls)(G:GT)(d:Nat):List E->Prop
 | []=>True
 | t::ts=>Sim X C G d t/\kW X C G d ts
variable{C:Calls}{G:GT}
theorem Sim.plain{t:E}(h:bL X C G d t)(ht:rT t=false):Sim X C G d t:=
 ⟨h,λcx e he A env J s Y Z c F=>(Sm.go c F (h cx e he A env J s Y Z c F) λz z z z z c1 z z r=>mM c1 r).imp λQ E hq=>isTrue_plain hq (he.facts.test ht _ _)⟩
theorem wT{hn:Bool}{v:V}{e:Pg}(c:Cn X A d hn s Y Z)(hT:T G (.k v) cx e):Sm X (Wp X A (eval e env)) (.ok v Z) (Rl X) s Y:=by
 refine ex3 (hT) λk i p q_h=>?_;obtain ⟨he,hk⟩:=q_h;subst he;show Sm X _ (.ok v Z) _ _ _;cases k <;> first | (cases hk;done) | skip
 ·cases hk;exact Sm.ok λQ E hQ=>Constant_none (hQ _ _ _ (Step.refl c.hr c.base) .none)
 ·cases hk;exact Sm.ok λQ E hQ=>Constant_bool (hQ _ _ _ (Step.refl c.hr c.base) (.bool _))
 ·cases hk;exact Sm.ok λQ E hQ=>wpAny_Constant_int (hQ _ _ _ ((Step.refl c.hr c.base).toks _) (.int _ _))
 ·unfold u8 at hk;dsimp only at hk;revert hk;refine ic ite_ (λhl hk=>?_) λz hk=>?_
  ·cases hk;exact Sm.ok λQ E hQ=>PySem.Calls.Constant_str (hQ _ _ _ ((Step.refl c.hr c.base).toks _) (.str _ _ (bw (bC ..) (za hl (by decide)))))
  ·cases hk
theorem yT(v:V):bL X C G d (.k v):=λcx e hT A env J s Y Z c F=>wT c hT
theorem Base.ns{h:Pe}(B:Base X h){a:Pd}{m:Str->Option Pa}(n:X.h₀.Ns a m):h.Ns a m:=by refine ex3 (n) λo es ep q_h=>?_;obtain ⟨e,r⟩:=q_h;exact ⟨o,es,ep,B.keep _ _ e,r⟩
theorem FR.kindOf(F:FR X env cx J s.heap Y){x:Str}:env.kindOf x=cx.kinds.lookup x:=by show env.scope.names.lookup x=_;exact gw (F.names ..) rfl
theorem zD{x:Str}(h:cx.glob x=true):cx.kinds.lookup x=some .globalImplicit/\(x == ("__debug__":Str))=false:=by obtain ⟨h1,h2⟩:=zz.mp h;exact ⟨of_decide_eq_true h1,by simpa using of_decide_eq_true h2⟩
theorem fG{hn:Bool}(c:Cn X A d hn s Y Z)(F:FR X env cx J s.heap Y){mg:Str->Option Pa}(n:X.h₀.Ns Uj mg){x:Str}{p:Pos}{u:Pa}(hx:cx.glob x=true)(hu:mg x=some u){Q:Pa->Pb->Prop}{E:Pa->Pb->Prop}(h:Q u s):Un (Mo X) A (eval (.Name x p) env) Q E s:=by
 obtain ⟨h1,h2⟩:=zD hx;exact Name_function_global F.kind (gw (F.kindOf ..) h1) (loadGlobal_global (mg:=mg) (gw (F.globals ..) (c.base.ns n)) hu h) h2
theorem dD{hn:Bool}(c:Cn X A d hn s Y Z)(F:FR X env cx J s.heap Y){mg mb:Str->Option Pa}(n:X.h₀.Ns Uj mg)(nb:X.h₀.Ns builtinsNs mb){x:Str}{p:Pos}{u:Pa}(hx:cx.glob x=true)(hg:mg x=none)(hu:mb x=some u){Q:Pa->Pb->Prop}{E:Pa->Pb->Prop}(h:Q u s):Un (Mo X) A (eval (.Name x p) env) Q E s:=by
 obtain ⟨h1,h2⟩:=zD hx;exact Name_function_global F.kind (gw (F.kindOf ..) h1) (loadGlobal_builtin (mg:=mg) (mb:=mb) (gw (F.globals ..) (c.base.ns n)) hg (gw (F.builtins ..) (c.base.ns nb)) hu h) h2
theorem lL{x:Str}{k:Nat}(h:cx.slot x=some k):cx.slots.lookup x=some k/\(cx.kinds.lookup x=some .local∨cx.kinds.lookup x=some .cell):=by
 unfold Cx.slot at h;generalize cx.kinds.lookup x=o at h ⊢;cases o with
 | none=>cases h
 | some q=>cases q with
  | «local»=>exact ⟨h,.inl rfl⟩
  | cell=>exact ⟨h,.inr rfl⟩
  | _=>cases h
theorem a4u{k:Nat}{v:V}{e:Pg}(F:FR X env cx J s.heap Y)(hT:T G (.v k) cx e)(hv:J[k]?=some (some v)):∃u,VR X s.heap Y v u/\∀(Q:Pa->Pb->Prop) (E:Pa->Pb->Prop),Q u s->Un (Mo X) A (eval e env) Q E s:=by
 refine ex2 (hT) λx p q_h=>?_;refine an3 q_h λhe hk hdb=>?_;subst he;obtain ⟨h,hkd | hkd⟩:=lL hk
 ·obtain ⟨m,n,hm⟩:=F.ns;obtain ⟨u,e,r⟩:=hm x k v hkd h hv;exact ⟨u,r,λQ E hQ=>wpAny_Name (wpAny_loadName_local F.kind (gw (F.kindOf ..) hkd) n e hQ) hdb⟩
 ·refine ex2 (F.cell x k hkd h) λa u q_h=>?_;refine an3 q_h λh1 h2 h3=>?_;obtain ⟨y,rfl,r⟩:=h3 v hv;exact ⟨y,r,λQ E hQ=>wpAny_Name (wpAny_loadName_cell F.kind (gw (F.kindOf ..) hkd) h1 h2 hQ) hdb⟩
theorem aDb{hn:Bool}{k:Nat}{v:V}{e:Pg}(c:Cn X A d hn s Y Z)(F:FR X env cx J s.heap Y)(hT:T G (.v k) cx e)(hv:J[k]?=some (some v)):Sm X (Wp X A (eval e env)) (.ok v Z) (Rl X) s Y:=by obtain ⟨u,r,h⟩:=a4u (A:=A) F hT hv;exact Sm.ok λQ E hQ=>h Q E (hQ _ _ _ (Step.refl c.hr c.base) r)
theorem a7c(k:Nat):bL X C G d (.v k):=by
 intro cx e hT A env J s Y Z c F;show Sm X _ ((match J[k]? with | some (some v)=>M.ret v | _=>stuck:M V) Z) _ _ _;rcases hv:J[k]? with _ | _ | v
 ·exact Sm.stuck
 ·exact Sm.stuck
 ·exact aDb c F hT hv
theorem a7u{op:Bin}{a b:E}(ha:bL X C G d a)(hb:bL X C G d b):bL X C G d (.o op a b):=by intro cx e hT A env J s Y Z c F;refine ex3 (hT) λl r p q_h=>?_;refine an3 q_h λhe h1 h2=>?_;subst he;exact (Sm.go (k:=λx=>(evE X.ns C J b).bnd λy=>oX op x y) c F (ha cx l h1 A env J s Y Z c F) λz z z z z c1 F1 S1 r1=>Sm.go c1 F1 (hb cx r h2 A env J _ _ _ c1 F1) λz z z z z c2 F2 S2 r2=>aCq c2 op (S2.vr c1.hr r1) r2).imp λQ E h=>wpAny_BinOp h
theorem aCn(c:Cn X A d true s Y Z){v:V}{u:Pa}(r:VR X s.heap Y v u):Sm X (Wp X A (unaryOp .Not u)) (a1k v Z) (Rl X) s Y:=by
 cases r <;> first | exact Sm.stuck | skip
 exact Sm.ok λQ E hQ=>not_of (Ui (hQ _ _ _ (Step.refl c.hr c.base) (.bool _)))
theorem aEm(c:Cn X A d true s Y Z){v:V}{u:Pa}(r:VR X s.heap Y v u):Sm X (Wp X A (unaryOp .USub u)) (aDy v Z) (Rl X) s Y:=by
 cases r <;> first | exact Sm.stuck | skip
 exact Sm.ok λQ E hQ=>PyProof.Rows.neg_int (hQ _ _ _ ((Step.refl c.hr c.base).toks _) (.int _ _))
theorem a8z{a:E}(ha:bL X C G d a):bL X C G d (.neg a):=by intro cx e hT A env J s Y Z c F;refine ex2 (hT) λx p q_h=>?_;obtain ⟨he,h1⟩:=q_h;subst he;exact (Sm.go (k:=aDy) c F (ha cx x h1 A env J s Y Z c F) λz z z z z c1 z z r=>aEm c1 r).imp λQ E h=>UnaryOp_ h
theorem dB{α β γ:Type}(m:M α)(f:α->M β)(g:β->M γ):(m.bnd f).bnd g=m.bnd λa=>(f a).bnd g:=by funext Z;unfold M.bnd;cases m Z <;> rfl
theorem aAe(v:V):(a1k v).bnd asB=(asB v).bnd λb=>M.ret (!b):=by cases v <;> rfl
theorem aAc{a:E}(h:Sim X C G d a):Sim X C G d (.not a) where
 ev:=by
  intro cx e hT A env J s Y Z c F;refine ex2 (hT) λx p q_h=>?_;obtain ⟨he,h1⟩:=q_h;subst he;exact (Sm.go (k:=a1k) c F (h.ev cx x h1 A env J s Y Z c F) λz z z z z c1 z z r=>aCn c1 r).imp λQ E h=>UnaryOp_ h
 tr:=by
  intro cx e hT A env J s Y Z c F;refine ex2 (hT) λx p q_h=>?_;obtain ⟨he,h1⟩:=q_h;subst he;have e:(evE X.ns C J (.not a)).bnd asB=((evE X.ns C J a).bnd asB).bnd λb=>.ret (!b):=by
   show ((evE X.ns C J a).bnd a1k).bnd asB=_;exact gw (dB ..) (gw (dB ..) (Uf _ (funext aAe)))
  refine gw e ?_;exact (Sm.go c F (h.tr cx x h1 A env J s Y Z c F) (P2:=λb Q E s=>Q (!b) s) λb Z1 b' s1 Y1 c1 z z r=>by
   cases r;exact Sm.ok λQ E hQ=>hQ _ _ _ (Step.refl c1.hr c1.base) rfl).imp λQ E h=>isTrue_not h
noncomputable def opE(op:BoolOp)(ts:List E):E:=match op with | .And=>.and ts | .Or=>.or ts
noncomputable def more(op:BoolOp)(rest:M V)(last:Bool)(v:V):M V:=match v with
 | .bool b=>if last then .ret (.bool b) else (if b == (match op with | .And=>true | .Or=>false) then rest else .ret (.bool b))
 | _=>stuck
theorem xL(op:BoolOp)(J:Env)(a:E):evE X.ns C J (opE op [a])=(evE X.ns C J a).bnd (more op stuck true):=by cases op <;> (show M.bnd _ _=_;exact Uf _ (funext λv=>by cases v <;> rfl))
theorem vF(op:BoolOp)(J:Env)(a b:E)(r:List E):evE X.ns C J (opE op (a::b::r))=(evE X.ns C J a).bnd (more op (evE X.ns C J (opE op (b::r))) false):=by cases op <;> (show M.bnd _ _=_;refine Uf _ (funext λv=>?_);rcases v with _ | b | _ | _ | _ | _ | _ | _ | _ <;> first | rfl | (cases b <;> rfl))
theorem a5e(op:BoolOp)(rest:M V)(v:V):(more op rest false v).bnd asB=(asB v).bnd λb=>if b == (match op with | .And=>true | .Or=>false) then rest.bnd asB else M.ret b:=by rcases v with _ | b | _ | _ | _ | _ | _ | _ | _ <;> first | rfl | (cases b <;> cases op <;> rfl)
set_option tactic.hygienic true in
theorem qO{p:Pos}(op:BoolOp){ts:List E}:kW X C G d ts->∀{cx:Cx}{es:List Pg},Ts G ts cx es->∀{A:Pf}{env:zq}{J:Env}{s:Pb}{Y:List Pd}{Z:H},Cn X A d true s Y Z->FR X env cx J s.heap Y ->
  Sm X (Wp X A (eval (.BoolOp op es p) env)) (evE X.ns C J (opE op ts) Z) (Rl X) s Y:=by
 induction ts with
 | nil=>intros;cases op <;> exact Sm.stuck
 | cons a ts ih=>
  intro hs cx es hT A env J s Y Z c F;refine ex2 hT λe es' q=>?_;obtain ⟨rfl,h1,h2⟩:=q;replace ih:=λ{s:Pb}{Y:List Pd}{Z:H} (c1:Cn X A d true s Y Z) (F1:FR X env cx J s.heap Y)=>ih hs.2 h2 c1 F1;cases ts with
  | nil=>
   cases h2;refine gw (xL ..) ?_;exact (Sm.go c F (hs.1.ev cx e h1 A env J s Y Z c F) (P2:=λv Q E s=>Q v s) λv Z1 u s1 Y1 c1 z z r=>by
    cases r <;> first | exact Sm.stuck | exact c1.ret (.bool _) λz z h=>h).imp λQ E h=>BoolOp_one h
  | cons a' ts=>
   obtain ⟨e',es,rfl,-⟩:=h2;refine gw (vF ..) ?_;cases op with
   | And=>
    refine (Sm.go c F (hs.1.ev cx e h1 A env J s Y Z c F) (P2:=λv Q E s1=>Un (Mo X) A (truthy v) (λc s2=>if c then Un (Mo X) A (eval (.BoolOp .And (e'::es) p) env) Q E s2 else Q v s2) E s1) λv Z1 u s1 Y1 c1 F1 S1 r=>?_).imp λQ E h=>BoolOp_and h;cases r <;> first | exact Sm.stuck | skip
    rename_i b;cases b with
    | true=>exact (ih c1 F1).imp λQ E h=>Ui h
    | false=>exact c1.ret (.bool _) λQ E h=>Ui h
   | Or=>
    refine (Sm.go c F (hs.1.ev cx e h1 A env J s Y Z c F) (P2:=λv Q E s1=>Un (Mo X) A (truthy v) (λc s2=>if c then Q v s2 else Un (Mo X) A (eval (.BoolOp .Or (e'::es) p) env) Q E s2) E s1) λv Z1 u s1 Y1 c1 F1 S1 r=>?_).imp λQ E h=>BoolOp_or h;cases r <;> first | exact Sm.stuck | skip
    rename_i b;cases b with
    | false=>exact (ih c1 F1).imp λQ E h=>Ui h
    | true=>exact c1.ret (.bool _) λQ E h=>Ui h
theorem oH{p:Pos}(op:BoolOp){ts:List E}:kW X C G d ts->∀{cx:Cx}{es:List Pg},Ts G ts cx es->∀{A:Pf}{env:zq}{J:Env}{s:Pb}{Y:List Pd}{Z:H}{whole:Sem Pa},Cn X A d true s Y Z->FR X env cx J s.heap Y ->
  Sm X (Wp X A (isTrue (.BoolOp op es p) env whole)) ((evE X.ns C J (opE op ts)).bnd asB Z) RlB s Y:=by
 induction ts with
 | nil=>intros;cases op <;> exact Sm.stuck
 | cons a ts ih=>
  intro hs cx es hT A env J s Y Z whole c F;refine ex2 hT λe es' q=>?_;obtain ⟨rfl,h1,h2⟩:=q;replace ih:=λ{s:Pb}{Y:List Pd}{Z:H} (c1:Cn X A d true s Y Z) (F1:FR X env cx J s.heap Y)=>ih hs.2 h2 (whole:=whole) c1 F1;cases ts with
  | nil=>
   cases h2;have he:(evE X.ns C J (opE op [a])).bnd asB=((evE X.ns C J a).bnd asB).bnd λb=>.ret b:=by
    exact gw (xL ..) (gw (dB ..) (gw (dB ..) (Uf _ (funext λv=>by cases v <;> rfl))))
   refine gw he ?_;refine (Sm.go c F (hs.1.tr cx e h1 A env J s Y Z c F) (P2:=λb Q E s=>Q b s) λb Z1 b' s1 Y1 c1 z z r=>by
    cases r;exact Sm.ok λQ E hQ=>hQ _ _ _ (Step.refl c1.hr c1.base) rfl).imp λQ E h=>?_
   cases op with
   | And=>refine isTrue_and (Um h (λb s' hb=>?_) λz z x=>x);cases b <;> first | exact hb | exact isTrue_and_nil hb
   | Or=>refine isTrue_or (Um h (λb s' hb=>?_) λz z x=>x);cases b <;> first | exact hb | exact isTrue_or_nil hb
  | cons a' ts=>
   obtain ⟨e',es,rfl,-⟩:=h2;have he:(evE X.ns C J (opE op (a::a'::ts))).bnd asB=((evE X.ns C J a).bnd asB).bnd λb=>if b == (match (generalizing:=false) op with | .And=>true | .Or=>false) then (evE X.ns C J (opE op (a'::ts))).bnd asB else .ret b:=by
    exact gw (vF ..) (gw (dB ..) (gw (dB ..) (Uf _ (funext λv=>a5e op _ v))))
   refine gw he ?_;cases op with
   | And=>
    refine (Sm.go c F (hs.1.tr cx e h1 A env J s Y Z c F) (P2:=λb Q E s2=>if b then Un (Mo X) A (isTrue (.BoolOp .And (e'::es) p) env whole) Q E s2 else Q false s2) λb Z1 b' s1 Y1 c1 F1 S1 r=>?_).imp λQ E h=>isTrue_and h;cases r;cases b with
    | true=>exact ih c1 F1
    | false=>exact Sm.ok λQ E hQ=>hQ _ _ _ (Step.refl c1.hr c1.base) rfl
   | Or=>
    refine (Sm.go c F (hs.1.tr cx e h1 A env J s Y Z c F) (P2:=λb Q E s2=>if b then Q true s2 else Un (Mo X) A (isTrue (.BoolOp .Or (e'::es) p) env whole) Q E s2) λb Z1 b' s1 Y1 c1 F1 S1 r=>?_).imp λQ E h=>isTrue_or h;cases r;cases b with
    | false=>exact ih c1 F1
    | true=>exact Sm.ok λQ E hQ=>hQ _ _ _ (Step.refl c1.hr c1.base) rfl
theorem aAg{ts:List E}(hs:kW X C G d ts):Sim X C G d (.and ts):=
 ⟨λcx e q_0 A env J s Y Z c F=>by obtain ⟨_,_,he,h⟩:=q_0;subst he;exact qO .And hs h c F,λcx e q_0 A env J s Y Z c F=>by obtain ⟨_,_,he,h⟩:=q_0;subst he;exact oH .And hs h c F⟩
theorem aDd{ts:List E}(hs:kW X C G d ts):Sim X C G d (.or ts):=
 ⟨λcx e q_0 A env J s Y Z c F=>by obtain ⟨_,_,he,h⟩:=q_0;subst he;exact qO .Or hs h c F,λcx e q_0 A env J s Y Z c F=>by obtain ⟨_,_,he,h⟩:=q_0;subst he;exact oH .Or hs h c F⟩
theorem a7z{op:Cmp}{a b:E}(ha:bL X C G d a)(hb:bL X C G d b):Sim X C G d (.g op a b) where
 ev:=by
  intro cx e hT A env J s Y Z c F;refine ex3 (hT) λl r p q_h=>?_;refine an3 q_h λhe h1 h2=>?_;subst he;exact (Sm.go (k:=λx=>(evE X.ns C J b).bnd λy=>eA op x y) c F (ha cx l h1 A env J s Y Z c F) λz z z z z c1 F1 S1 r1=>Sm.go c1 F1 (hb cx r h2 A env J _ _ _ c1 F1) λz z z z z c2 F2 S2 r2=>mS c2 op (S2.vr c1.hr r1) r2).imp λQ E h=>wpAny_Compare1 h (h2.facts.marks _)
 tr:=by
  intro cx e hT A env J s Y Z c F;refine ex3 (hT) λl r p q_h=>?_;refine an3 q_h λhe h1 h2=>?_;subst he;show Sm X _ (((evE X.ns C J a).bnd λx=>(evE X.ns C J b).bnd λy=>eA op x y).bnd asB Z) _ _ _;simp only [dB];exact (Sm.go c F (ha cx l h1 A env J s Y Z c F) λz z z z z c1 F1 S1 r1=>Sm.go c1 F1 (hb cx r h2 A env J _ _ _ c1 F1) λz z z z z c2 F2 S2 r2=>
   Sm.go c2 F2 (mS c2 op (S2.vr c1.hr r1) r2) λz z z z z c3 z z r3=>mM c3 r3).imp λQ E h=>wpAny_isTrue_Compare1 h (h2.facts.marks _)
set_option tactic.hygienic true in
theorem a3z{op op':Cmp}{a b b':E}(ha:bL X C G d a)(hb:bL X C G d b)(hb':bL X C G d b'):Sim X C G d (.cmp2 op op' a b b') where
 ev:=by
  intro cx e hT A env J s Y Z c F;refine ex4 (hT) λl r r' p q_h=>?_;refine an4 q_h λhe h1 h2 h3=>?_;subst he;refine (Sm.go (k:=λx=>(evE X.ns C J b).bnd λy=>(eA op x y).bnd λr=>match r with
    | .bool true=>(evE X.ns C J b').bnd λz=>eA op' y z
    | .bool false=>.ret (.bool false)
    | _=>stuck) c F (ha cx l h1 A env J s Y Z c F) λx w u w w c1 F1 S1 r1=>Sm.go c1 F1 (hb cx r h2 A env J _ _ _ c1 F1) λy w v w w c2 F2 S2 r2=>
   Sm.go c2 F2 (mS c2 op (S2.vr c1.hr r1) r2) (P2:=λk Q E s2=>Un (Mo X) A (truthy k) (λt s3=>if t then Un (Mo X) A (compareChain p v [sF op'] [eval r' env]) Q E s3 else Q k s3) E s2) λz w k w w c3 F3 S3 r3=>?_).imp
   λQ E h=>Compare_chain (rs:=[]) (Um h (λw w x=>chain_link x) λw w x=>x) (by show behindInMarks _ _=false;exact h3.facts.marks _)
  cases r3 <;> first | exact Sm.stuck | skip
  rename_i b0;cases b0 with
  | true=>exact (Sm.go c3 F3 (hb' cx r' h3 A env J _ _ _ c3 F3) λw w w w w c4 F4 S4 r4=>mS c4 op' (S4.vr c3.hr (S3.vr c2.hr r2)) r4).imp λQ E h=>Ui (chain_last h)
  | false=>exact c3.ret (.bool _) λQ E h=>Ui h
 tr:=by
  intro cx e hT A env J s Y Z c F;refine ex4 (hT) λl r r' p q_h=>?_;refine an4 q_h λhe h1 h2 h3=>?_;subst he;show Sm X _ (((evE X.ns C J a).bnd λx=>(evE X.ns C J b).bnd λy=>(eA op x y).bnd λr=>match r with
    | .bool true=>(evE X.ns C J b').bnd λz=>eA op' y z
    | .bool false=>.ret (.bool false)
    | _=>stuck).bnd asB Z) _ _ _
  simp only [dB];refine (Sm.go c F (ha cx l h1 A env J s Y Z c F) λx w u w w c1 F1 S1 r1=>Sm.go c1 F1 (hb cx r h2 A env J _ _ _ c1 F1) λy w v w w c2 F2 S2 r2=>
   Sm.go c2 F2 (mS c2 op (S2.vr c1.hr r1) r2) (P2:=λk Q E s2=>Un (Mo X) A (truthy k) (λt s3=>if t then Un (Mo X) A (testChain p v [sF op'] [eval r' env]) Q E s3 else Q false s3) E s2) λz w k w w c3 F3 S3 r3=>?_).imp
   λQ E h=>isTrue_chain (rs:=[]) (Um h (λw w x=>test_link x) λw w x=>x) (by show behindInMarks _ _=false;exact h3.facts.marks _)
  cases r3 <;> first | exact Sm.stuck | skip
  rename_i b0;cases b0 with
  | true=>
   show Sm X _ (((evE X.ns C J b').bnd λz=>eA op' y z).bnd asB _) _ _ _;exact gw (dB ..) ((Sm.go c3 F3 (hb' cx r' h3 A env J _ _ _ c3 F3) λw w w w w c4 F4 S4 r4=>Sm.go c4 F4 (mS c4 op' (S4.vr c3.hr (S3.vr c2.hr r2)) r4) λw w w w w c5 w w r5=>mM c5 r5).imp λQ E h=>Ui (test_last h))
  | false=>exact Sm.ok λQ E hQ=>Ui (hQ _ _ _ (Step.refl c3.hr c3.base) rfl)
theorem hZ{p:Pos}{ts:List E}:kW X C G d ts->∀{cx:Cx}{es:List Pg},Ts G ts cx es->∀{A:Pf}{env:zq}{J:Env}{s:Pb}{Y:List Pd}{Z:H},Cn X A d true s Y Z->FR X env cx J s.heap Y ->
  Sm X (Wp X A (spliced (backTo p (Ul es env)))) (fK X.ns C J ts Z) (Rls X) s Y:=by
 induction ts with
 | nil=>intro _ cx es h A env J s Y Z c F;cases h;exact Sm.ok λQ E hQ=>args_nil (hQ _ _ _ (Step.refl c.hr c.base) .nil)
 | cons a ts ih=>
  intro hs cx es h A env J s Y Z c F;refine ex2 h λe es' q=>?_;obtain ⟨rfl,h1,h2⟩:=q;exact (Sm.go (k:=λx=>(fK X.ns C J ts).bnd λxs=>.ret (x::xs)) c F (hs.1.ev cx e h1 A env J s Y Z c F) λx z u z z c1 F1 S1 r1=>Sm.go c1 F1 (ih hs.2 h2 c1 F1) (P2:=λvs Q E s=>Q (u::vs) s) λxs z us z z c2 F2 S2 r2=>
   Sm.ok λQ E hQ=>hQ _ _ _ (Step.refl c2.hr c2.base) (.cons (S2.vr c1.hr r1) r2)).imp λQ E h=>args_cons h (h1.facts.star _ _)
theorem a3x{ts:List E}(hs:kW X C G d ts):bL X C G d (.list ts):=by intro cx e hT A env J s Y Z c F;refine ex2 (hT) λes p q_h=>?_;obtain ⟨he,h1⟩:=q_h;subst he;exact (Sm.go (k:=fY) c F (hZ hs h1 c F) λz z z z z c1 z z r=>a8v c1 r).imp λQ E h=>List_ h
theorem aDk(c:Cn X A d true s Y Z){xs:List V}{l:List Pa}(r:VRs X s.heap Y xs l):Sm X (Wp X A (newTuple l)) (mkT xs Z) (Rl X) s Y:=by
 unfold mkT;refine ic ite_ (λhz=>?_) λz=>?_
 ·refine Sm.ok λQ E hQ=>wpAny_newObj_type ?_ (by show l.toArray.size<=sizeLine;exact gw (yp ..) (bw (r.length ..) hz));have S1:Step X s Y { s with heap:=s.heap.push { cls:=.type "tuple",data:=.seq l.toArray } } Y Z:=Step.push c _ s.toks;exact hQ _ _ _ S1 (.tup (yn _ rfl) (bw (r.length ..) hz) (S1.vrs c.hr r))
 ·exact Sm.stuck
theorem a7p{ts:List E}(hs:kW X C G d ts):bL X C G d (.tup ts):=by intro cx e hT A env J s Y Z c F;refine ex3 (hT) λes k p q_h=>?_;obtain ⟨he,h1⟩:=q_h;subst he;exact (Sm.go (k:=mkT) c F (hZ hs h1 c F) λz z z z z c1 z z r=>aDk c1 r).imp λQ E h=>Tuple_ h
theorem Cn.newRef(c:Cn X A d true s Y Z)(a:Pd):(Y++[a])[Z.length]?=some a:=by refine bw (c.hr.len ..) (gw (zv (zf _) ..) ?_);simp
theorem pZ{h:Pe}:OR X (h.push { cls:=.type "dict",data:=.dict #[] }) Y h.objs.size (.dict []):=
 .dict (l:=[]) ⟨_,_,_,yn _ rfl,⟨rfl,rfl,rfl⟩,rfl,λe he=>by simp at he,.nil,.nil⟩ (yj _) ⟨rfl,(λz h=>by cases h),.nil⟩
theorem z7:bL X C G d .dict0:=by intro cx e hT A env J s Y Z c F;obtain ⟨p,he⟩:=hT;subst he;exact Sm.ok (a:=V.ref Z.length) (Z:=Z++[O.dict []]) λQ E hQ=>wpAny_Dict_empty (hQ _ _ (Y++[s.heap.objs.size]) (Step.alloc c s.toks pZ) (.ref (c.newRef _)))
theorem a0k{p:Pos}{ks:List (List Nat)}:∀{ts:List E} (_:kW X C G d ts) {cx:Cx}{kes:List (Option Pg)}{es:List Pg} (_:a5h ks kes) (_:Ts G ts cx es) (_:ks.length=ts.length) {A:Pf}{env:zq}{J:Env}{s:Pb}{Y:List Pd}{Z:H} (_:Cn X A d true s Y Z) (_:FR X env cx J s.heap Y),
  Sm X (Wp X A (evalPairs (pairTrees kes es env p))) (fK X.ns C J ts Z) (λh Y vs l=>vs.length=ks.length/\∃kvs,Carries (strKind X.prog X.w) l kvs/\ERs X h Y (ks.zip vs) kvs) s Y:=by
 induction ks with
 | nil=>
  intro ts _ cx kes es hk ht hl A env J s Y Z c F;cases yr hl.symm;cases hk;cases ht;exact Sm.ok λQ E hQ=>evalPairs_nil (hQ _ _ _ (Step.refl c.hr c.base) ⟨rfl,[],trivial,rfl,(λz h=>by cases h),.nil⟩)
 | cons k ks ih=>
  intro ts hs cx kes es hk ht hl A env J s Y Z c F;cases ts with
  | nil=>cases hl
  | cons t ts=>
  refine ex4 hk λx i pk kes' q=>?_;refine an4 q λq1 hx hxl hk'=>?_;subst q1;refine ex2 ht λe es' q=>?_;refine an3 q λq1 h1 h2=>?_;subst q1;have S1:Step X s Y { s with toks:=s.toks+1 } Y Z:=c.same _;have c1:=c.step S1;have F1:=F.step c.hr S1;refine Sm.after S1 (Sm.go (k:=λx=>(fK X.ns C J ts).bnd λxs=>.ret (x::xs)) c1 F1 (hs.1.ev cx e h1 A env J _ _ _ c1 F1) (P2:=λu Q E s2=>Un (Mo X) A (evalPairs (pairTrees kes' es' env p)) (λr s3=>Q ((.str x s.toks,u)::r) s3) E s2)
   λv z u z z c2 F2 S2 r2=>Sm.go c2 F2 (ih hs.2 hk' h2 (Nat.succ.inj hl) c2 F2) (P2:=λr Q E s3=>Q ((.str x s.toks,u)::r) s3) λvs z l z z c3 F3 S3 r3=>?_) λQ E h=>pairTrees_cons_walk (PySem.Calls.Constant_str h)
  obtain ⟨hv,kvs,q1,q2⟩:=r3;refine Sm.ok λQ E hQ=>hQ _ _ _ (Step.refl c3.hr c3.base) ⟨Uf Nat.succ hv,(x,u)::kvs,⟨strKind_is X.prog X.w x s.toks,rfl,q1⟩,?_,?_,.cons (S3.vr c2.hr r2) q2.vals⟩
  ·exact (Uf (k::·) q2.keys).trans (Uf (·::_) hx.symm)
  ·intro p hp;rcases ye.mp hp with rfl | hp
   ·exact za hxl (by decide)
   ·exact q2.lim p hp
theorem a4j{ks:List (List Nat)}{kes:List (Option Pg)}(h:a5h ks kes):kes.all (·.isSome)=true/\kes.length=ks.length:=by
 induction ks generalizing kes with
 | nil=>obtain rfl:kes=[]:=h;exact ⟨rfl,rfl⟩
 | cons k ks ih=>
  obtain ⟨x,i,p,r,rfl,_,_,h⟩:=h;exact ⟨(ih h).1,Uf Nat.succ (ih h).2⟩
theorem a0o{ts:List E}{es:List Pg}(h:Ts G ts cx es):es.length=ts.length:=by
 induction ts generalizing es with
 | nil=>obtain rfl:es=[]:=h;rfl
 | cons t ts ih=>
  obtain ⟨e,es,rfl,_,h⟩:=h;exact Uf Nat.succ (ih h)
theorem lU{hn:Bool}(c:Cn X A d hn s Y Z){i:Nat}{a:Pd}(hi:Y[i]?=some a){qs kvs:List (List Nat×V)}{l l':List (Str×Pa)}(ho:Z[i]?=some (.dict qs))(hd:s.heap.DictOf (strKind X.prog X.w) a l)(r:ERs X s.heap Y kvs l')(hz:kvs.length<=lim){h':Pe}{t:Nat}(hd':h'.DictOf (strKind X.prog X.w) a l')(hs:Heap.SameBut a s.heap h'):Step X s Y { s with heap:=h',toks:=t } Y (Z.set i (.dict kvs)):=by
 have hk':∀b o,s.heap.get? b=some o->iO o->h'.get? b=some o:=λb o eb hS=>(hs.2 b λq=>by
  refine ex3 (hd) λod z z q_h=>?_;refine an3 q_h λe hc z=>?_;replace eb:=e▸q▸eb;cases eb;exact hS.offList (.inr hc.1)).trans eb
 exact Step.put c (s':={ s with heap:=h',toks:=t }) hi (λz q=>by cases ho.symm.trans q) hs rfl rfl (o:=.dict kvs) (.dict hd' (bw (r.length ..) hz) (r.like λq=>q.mono hk' λz z e=>e))
theorem z5(c:Cn X A d true s Y Z){i:Nat}{a:Pd}(hi:Y[i]?=some a){ps:List (List Nat×V)}{kvs:List (Str×Pa)}(r:ERs X s.heap Y ps kvs)(hn':(kvs.map (·.1)).Nodup){P:PT Pa}(h:s.heap.DictOf (strKind X.prog X.w) a []->∀Q E,(∀h',h'.DictOf (strKind X.prog X.w) a (merged [] kvs)->Heap.SameBut a s.heap h'->∀t,Q (.ref a) { s with heap:=h',toks:=t })->P Q E s):Sm X P (a5j (.ref i) ps Z) (Rl X) s Y:=by
 refine tE c hi λqs l ho hd rr hl=>?_;cases qs with
 | cons _ _=>exact Sm.stuck
 | nil=>
  cases yr rr.length.symm;show Sm X _ (((fN i ps).bnd λz=>M.ret (V.ref i)) Z) _ _ _;unfold fN;refine ic ite_ (λhz=>?_) λz=>?_
  ·exact Sm.ok (a:=V.ref i) (Z:=Z.set i (.dict ps)) λQ E hQ=>h hd Q E λh' hd' hs t=>hQ _ _ _ (lU c hi ho hd r hz (merged_nil_of_nodup kvs hn'▸hd') hs) (.ref hi)
  ·exact Sm.stuck
theorem a4d{ks:List (List Nat)}{ts:List E}(hs:kW X C G d ts):bL X C G d (.dict ks ts):=by
 intro cx e hT A env J s Y Z c F;refine ex3 hT λkes es p q=>?_;refine an5 q λhe hk hnd h0 q=>?_;obtain ⟨h15,hl,h1⟩:=q;subst he;obtain ⟨q1,q2⟩:=a4j hk;have S1:=Step.alloc (X:=X) (o:={ cls:=.type "dict",data:=.dict #[] }) (x:=.dict []) c s.toks pZ;have c1:=c.step S1;have F1:=F.step c.hr S1;show Sm X _ (((fK X.ns C J ts).bnd λvs=>a5j (.ref Z.length) (ks.zip vs)) (Z++[.dict []])) _ _ _;refine Sm.after S1 (P':=λQ E s1=>Un (Mo X) A (evalPairs (pairTrees kes es env p)) (λvs s2=>∃kvs,Carries (strKind X.prog X.w) vs kvs/\s2.heap.DictOf (strKind X.prog X.w) s.heap.objs.size [] /\
   ∀h',h'.DictOf (strKind X.prog X.w) s.heap.objs.size (merged [] kvs)->Heap.SameBut s.heap.objs.size s2.heap h'->Q (Value.ref s.heap.objs.size) { s2 with heap:=h',toks:=s2.toks+vs.length }) E s1) ?_
  λQ E h=>wpAny_Dict_walk q1 (by rw [q2,hl,a0o h1]) (λe=>h0 (yr (by rw [←q2,e];rfl))) (by rw [q2];exact h15) h
 refine Sm.bind (P:=Wp X A (evalPairs (pairTrees kes es env p))) (P2:=λvs Q E s2=>∃kvs,Carries (strKind X.prog X.w) vs kvs/\s2.heap.DictOf (strKind X.prog X.w) s.heap.objs.size [] /\
   ∀h',h'.DictOf (strKind X.prog X.w) s.heap.objs.size (merged [] kvs)->Heap.SameBut s.heap.objs.size s2.heap h'->Q (Value.ref s.heap.objs.size) { s2 with heap:=h',toks:=s2.toks+vs.length }) (a0k hs hk h1 hl c1 F1) λvs Z2 l s2 Y2 e2 S2 r2=>?_
 obtain ⟨hv,kvs,hc,r⟩:=r2;have hm:((ks.zip vs).map (·.1))=ks:=List.map_fst_zip (zu hv.symm);have hnk:(kvs.map (·.1)).Nodup:=ki.mpr ((ki.mp ((hm.symm.trans r.keys)▸hnd)).imp λh e=>h (Uf aC e));exact z5 (c1.step S2) (S2.get _ _ (c.newRef _)) r hnk λhd Q E hq=>⟨kvs,hc,hd,λh' a b=>hq h' a b _⟩
theorem a8m{a i:E}(ha:bL X C G d a)(hi:bL X C G d i):bL X C G d (.i a i):=by intro cx e hT A env J s Y Z c F;refine ex3 (hT) λv j p q_h=>?_;refine an3 q_h λhe h1 h2=>?_;subst he;refine (Sm.go (k:=λx=>(evE X.ns C J i).bnd λy=>iB X.ns x y) c F (ha cx v h1 A env J s Y Z c F) λz z u z z c1 F1 S1 r1=>Sm.go c1 F1 (hi cx j h2 A env J _ _ _ c1 F1) λz z w z z c2 F2 S2 r2=>aBz c2 (value:=v) (slice:=j) (S2.vr c1.hr r1) r2 ?_).imp λQ E h=>Subscript_ h;have:=h2.facts.slice;cases j <;> first | rfl | cases this
theorem yX{a:E}(ha:bL X C G d a){cx:Cx}{o:Option Pg}(ho:(o=none/\vB a=true)∨∃x,o=some x/\T G a cx x){A:Pf}{env:zq}{J:Env}{s:Pb}{Y:List Pd}{Z:H}(c:Cn X A d true s Y Z)(F:FR X env cx J s.heap Y):
  Sm X (Wp X A (valueOrNone (evalOpt o env))) (evE X.ns C J a Z) (Rl X) s Y:=by
 rcases ho with ⟨rfl,h⟩ | ⟨x,rfl,h⟩
 ·cases a <;> first | (cases h;done) | exact Sm.ok λQ E hQ=>Uh (hQ _ _ _ (Step.refl c.hr c.base) .none)
 ·exact ha cx x h A env J s Y Z c F
theorem a0w{a lo hi:E}(ha:bL X C G d a)(hlo:bL X C G d lo)(hhi:bL X C G d hi):bL X C G d (.slice a lo hi):=by
 intro cx e hT A env J s Y Z c F;refine ex5 (hT) λv l h q p q_h=>?_;refine an4 q_h λhe h1 h2 h3=>?_;subst he;refine (Sm.go (k:=λx=>(evE X.ns C J lo).bnd λy=>(evE X.ns C J hi).bnd λz=>gV X.ns x y z) c F (ha cx v h1 A env J s Y Z c F) λw w u w w c1 F1 S1 r1=>Sm.go c1 F1 (yX hlo h2 c1 F1) λw w vl w w c2 F2 S2 r2=>Sm.go c2 F2 (yX hhi h3 c2 F2) λw w vh w w c3 F3 S3 r3=>
  a5m c3 (value:=v) (lower:=l) (upper:=h) (p:=q) (S3.vr c2.hr (S2.vr c1.hr r1)) (S3.vr c2.hr r2) r3).imp λQ E h=>Subscript_ (Um h (λu s1 h₁=>?_) λw w x=>x)
 show Un _ _ (do
  let l ←valueOrNone (evalOpt l env);let u ←holding [l] (valueOrNone (evalOpt ‹Option Pg› env));let s ←holding [l,u] (valueOrNone (evalOpt none env))
  newFields "slice" [l,u,s]) _ _ _
 exact Ug (Um h₁ (λl s2 h₂=>Ug (Uk (Um h₂ (λu s3 h₃=>Ug (Uk (Uh h₃))) λw w x=>x))) λw w x=>x)
end
noncomputable def a2q:Bi->Pa
 | .len=>.builtin "len" | .list=>.type "list" | .sorted=>.builtin "sorted" | .dict=>.type "dict" | .str=>.type "str" | .any=>.builtin "any" | .all=>.builtin "all" | .min _=>.builtin "min"
noncomputable def wO(k:Mm)(u z:Pa):Sem Pa:=match k with
 | .ml _=>ya (.builtin "min") [u] [("default",z)]
 | .mn=>ya (.builtin "min") [u,z]
 | .mx=>ya (.builtin "max") [u,z]
noncomputable def a6h:Ty->Pa
 | .int=>.type "int" | .bool=>.type "bool" | .str=>.type "str" | .list=>.type "list" | .tuple _=>.type "tuple"
noncomputable def pO:List (Str×Pa):=[("len",.builtin "len"),("list",.type "list"),("sorted",.builtin "sorted"),("dict",.type "dict"),("str",.type "str"),("int",.type "int"),("range",.type "range"),("enumerate",.type "enumerate"),("max",.builtin "max"),
 ("ValueError",.type "ValueError"),("any",.builtin "any"),("all",.builtin "all"),("min",.builtin "min"),("isinstance",.builtin "isinstance"),("bool",.type "bool"),("tuple",.type "tuple")]
structure Nm(X:W)(G:GT):Prop where
 kin:X.K.In X.h₀
 ns:∃mg mb,X.h₀.Ns Uj mg/\X.h₀.Ns builtinsNs mb/\(∀x i,G.cls[i]?=some x->mg x=some (.ref (X.ca i))) /\
  (∀x i,G.fns[i]?=some x->mg x=some (.ref (X.fa i))/\PySem.W.keepIn X.K (.ref (X.fa i))=true) /\
  (∀x v,(x,v)∈pO->mg x=none/\mb x=some v) /\
  (∀x v,(x,v)∈G.con->∃u,mg x=some u/\∀h Y,VR X h Y v u) /\
  (∀x i,G.own[i]?=some x->mg x=some (.ref (X.co i))/\PySem.W.keepIn X.K (.ref (X.co i))=true)
structure Leaf(X:W)(G:GT)(C:Calls)(d:Nat):Prop where
 nm:Nm X G
 call:∀(f:Nat) (vs:List V) (us:List Pa) (A:Pf) (s:Pb) (Y:List Pd) (Z:H),Cn X A d true s Y Z->VRs X s.heap Y vs us->Sm X (Wp X A (ya (.ref (X.fa f)) us)) (C.call f vs Z) (Rl X) s Y
 bi:∀(b:Bi) (v:V) (u:Pa) (A:Pf) (s:Pb) (Y:List Pd) (Z:H),Cn X A d true s Y Z->VR X s.heap Y v u->Sm X (Wp X A (ya (a2q b) [u])) (biV X.ns b v Z) (Rl X) s Y
 me:∀(m:Me) (x:V) (u:Pa) (ts:List E) (es:List Pg) (p:Pos) (cx:Cx) (A:Pf) (env:zq) (J:Env) (s:Pb) (Y:List Pd) (Z:H),Cn X A d true s Y Z->FR X env cx J s.heap Y->VR X s.heap Y x u ->
  Ts G ts cx es->(∀(s:Pb) (Y:List Pd) (Z:H),Cn X A d true s Y Z->FR X env cx J s.heap Y->Sm X (Wp X A (spliced (backTo p (Ul es env)))) (fK X.ns C J ts Z) (Rls X) s Y) ->
  Sm X (λQ E s=>MethodOnS X.prog X.w A E (i4 m) u p (backTo p (Ul es env)) Q s) ((meK m x).bnd (λz=>(fK X.ns C J ts).bnd λvs=>meV x m vs) Z) (Rl X) s Y
 mm:∀(dv:Mm) (v w:V) (u u':Pa) (A:Pf) (s:Pb) (Y:List Pd) (Z:H),Cn X A d true s Y Z->VR X s.heap Y v u->VR X s.heap Y w u'->Sm X (Wp X A (wO dv u u')) (mmV dv v w Z) (Rl X) s Y
 new:∀(k:Nat) (vs:List V) (us:List Pa) (A:Pf) (s:Pb) (Y:List Pd) (Z:H),Cn X A d true s Y Z->VRs X s.heap Y vs us->Sm X (Wp X A (ya (.ref (X.co k)) us)) (C.new k vs Z) (Rl X) s Y
 U:∀(x:V) (u:Pa) (nm:Str) (pl:Sem Bool) (A:Pf) (s:Pb) (Y:List Pd) (Z:H),Cn X A d true s Y Z->VR X s.heap Y x u ->
  Sm X (Wp X A (getMethod u nm pl)) (C.U x (aC nm) Z) (λz z i p=>p=(.ref (X.fa i),[u])/\PySem.W.keepIn X.K (.ref (X.fa i))=true) s Y
 attr:∀(x:V) (u:Pa) (nm:Str) (A:Pf) (s:Pb) (Y:List Pd) (Z:H),nm∈G.att->Cn X A d true s Y Z->VR X s.heap Y x u->Sm X (Wp X A (getAttr u nm true)) (eY x (aC nm) Z) (Rl X) s Y
 seta:∀(x v:V) (u w:Pa) (nm:Str) (A:Pf) (s:Pb) (Y:List Pd) (Z:H),nm∈G.att->nm.length<=4096->Cn X A d true s Y Z->VR X s.heap Y x u->VR X s.heap Y v w->Sm X (Wp X A (setAttr u nm w)) (iT x (aC nm) v Z) (λz z z z=>True) s Y
 isi:∀(t:Ty) (v:V) (u:Pa) (A:Pf) (s:Pb) (Y:List Pd) (Z:H),Cn X A d true s Y Z->VR X s.heap Y v u->Sm X (Wp X A (ya (.builtin "isinstance") [u,a6h t])) (zT t v Z) (Rl X) s Y
section
variable{X:W}{A:Pf}{d:Nat}{s:Pb}{Y:List Pd}{Z:H}{env:zq}{cx:Cx}{J:Env}{C:Calls}{G:GT}
theorem kB{p:Pos}{env:zq}{ts:List E}:∀{es:List Pg},Ts G ts cx es->(backTo p (Ul es env)).any (·.1)=false:=by
 induction ts with
 | nil=>intro es h;cases h;rfl
 | cons t ts ih=>
  intro es h;refine ex2 h λe es' q=>?_;obtain ⟨rfl,h1,h2⟩:=q;refine gw (h1.facts.star ..) ?_;show (false || (backTo p (Ul es' env)).any (·.1))=false;exact gw (ih h2 ..) rfl
theorem sZ{f:Pa}{p:Pos}{ts:List E}{es:List Pg}(ht:Ts G ts cx es){Q:Args->Pb->Prop}{E:Pa->Pb->Prop}(h:Un (Mo X) A (spliced (backTo p (Ul es env))) (λvs s'=>Q ⟨vs,[]⟩ s') E s):Un (Mo X) A (evalArgs f true (backTo p (Ul es env)) []) Q E s:=by
 cases ts with
 | nil=>
  cases ht;unfold evalArgs;show Un (Mo X) A (spliced [] >>= _) Q E s;refine Ug (Um h (λvs s' h'=>?_) λz z x=>x)
  first
   | exact Uk (Ug (Uh (Ug (Uh (Uh h')))))
   | exact Ug (Uh (Uk (Ug (Uh (Ug (Uh (Uh h')))))))
 | cons t ts=>
  obtain ⟨e,es',rfl,h1,-⟩:=ht;rw [h1.facts.star] at h ⊢;exact evalArgs_plain h
theorem fW{f:Pa}{first:List Pa}{p:Pos}{ts:List E}{es:List Pg}(ht:Ts G ts cx es)(hf:keeperOf f=pure .machine){Q:Pa->Pb->Prop}{E:Pa->Pb->Prop}(h:Un (Mo X) A (spliced (backTo p (Ul es env))) (λvs s'=>Un (Mo X) A (ya f (first++vs)) Q E s') E s):Un (Mo X) A (callWith p f first (backTo p (Ul es env)) []) Q E s:=
 PySem.W.callWith_of (P:=λz=>True) (gw (kB ht ..) rfl) (λz z=>⟨_,.inr (.inl rfl),PySem.W.Looks.of_pure hf⟩) (sZ ht (Um h (λz z x=>⟨trivial,x⟩) λz z x=>x))
theorem jH{f:Pa}{first:List Pa}{p:Pos}{ts:List E}{es:List Pg}(ht:Ts G ts cx es)(hf:PySem.W.keepIn X.K f=true){Q:Pa->Pb->Prop}{E:Pa->Pb->Prop}(h:Un (Mo X) A (spliced (backTo p (Ul es env))) (λvs s'=>X.K.In s'.heap/\Un (Mo X) A (ya f (first++vs)) Q E s') E s):Un (Mo X) A (callWith p f first (backTo p (Ul es env)) []) Q E s:=
 PySem.W.callWith_of (P:=λh=>X.K.In h) (gw (kB ht ..) rfl) (PySem.W.keeps_K hf) (sZ ht h)
theorem Cn.kin(c:Cn X A d true s Y Z)(g:Nm X G):X.K.In s.heap:=g.kin.keeps c.base.keep
theorem tG{o:Pg}(h:eK o=true)(m:Str)(env:zq)(whole:Sem Pa):attributeBase o m env whole=whole:=by
 cases o with
 | Call f _ _ _=>cases f with
  | Name=>cases h
  | _=>rfl
 | _=>rfl
theorem aCt(L:Leaf X G C d){a:E}{m:Me}{ts:List E}(ha:bL X C G d a)(hs:kW X C G d ts):bL X C G d (.me a m ts):=by
 intro cx e hT A env J s Y Z c F;refine ex4 (hT) λo ap es p q_h=>?_;refine an6 q_h λhe hb hl hlen h1 h2=>?_;subst he;refine (Sm.go (k:=λx=>(meK m x).bnd λz=>(fK X.ns C J ts).bnd λvs=>meV x m vs) c F (ha cx o h1 A env J s Y Z c F) λx Z1 u s1 Y1 c1 F1 z r=>L.me m x u ts es p cx A env J s1 Y1 Z1 c1 F1 r h2 λs Y Z c F=>hZ hs h2 c F).imp λQ E h=>wpAny_Call_method_lateS (tG hb _ _ _) ?_ (by refine gw hl ?_;simp) h;have hall:(backTo p (Ul es env)).all (λx=>!x.1)=true:=by
  have:=kB (p:=p) (env:=env) h2;rw [wt];intro x hx;rw [zao] at this;simpa using this x hx
 refine gw (hall ..) ?_;show (true&&(true&&decide (es.length+0+0<30)))=true;exact Uc (xk hlen)
theorem a9f(L:Leaf X G C d)(c:Cn X A d true s Y Z)(F:FR X env cx J s.heap Y){f:Str}{fv:Pa}{q p:Pos}{ts:List E}{es:List Pg}(hg:cx.glob f=true)(hm:(f,fv)∈pO)(hk:keeperOf fv=pure .machine)(ht:Ts G ts cx es){Q:Pa->Pb->Prop}{E:Pa->Pb->Prop}(h:Un (Mo X) A (spliced (backTo p (Ul es env))) (λvs s'=>Un (Mo X) A (ya fv vs) Q E s') E s):
  Un (Mo X) A (eval (.Call (.Name f q) es [] p) env) Q E s:=by
 refine ex2 (L.nm.ns) λmg mb q_h=>?_;refine an7 q_h λn1 n2 z z hbi z z=>?_;obtain ⟨e1,e2⟩:=hbi f fv hm;exact Call_ (dD c F n1 n2 hg e1 e2 (fW ht hk h))
theorem oA(L:Leaf X G C d)(c:Cn X A d true s Y Z)(F:FR X env cx J s.heap Y){f:Str}{fv:Pa}{q p:Pos}{t:E}{e:Pg}(hg:cx.glob f=true)(hm:(f,fv)∈pO)(hk:keeperOf fv=pure .machine)(ht:T G t cx e){Q:Pa->Pb->Prop}{E:Pa->Pb->Prop}(h:Un (Mo X) A (eval e env) (λu s'=>Un (Mo X) A (ya fv [u]) Q E s') E s):
  Un (Mo X) A (eval (.Call (.Name f q) [e] [] p) env) Q E s:=
 a9f L c F (ts:=[t]) hg hm hk ⟨e,[],rfl,ht,rfl⟩ (args_cons (Um h (λu s' h'=>args_nil h') λz z x=>x) (ht.facts.star _ _))
theorem aCe(L:Leaf X G C d){b:Bi}{a:E}(ha:bL X C G d a):bL X C G d (.bi b a):=by intro cx e hT A env J s Y Z c F;refine ex3 (hT) λq x p q_h=>?_;refine an3 q_h λhe hg h1=>?_;subst he;exact (Sm.go (k:=λv=>biV X.ns b v) c F (ha cx x h1 A env J s Y Z c F) λv Z1 u s1 Y1 c1 F1 S1 r=>(L.bi b v u A s1 Y1 Z1 c1 r)).imp λQ E h=>oA (fv:=a2q b) L c F hg (by rcases b with _ | _ | _ | _ | _ | _ | _ | ⟨⟨⟩⟩ <;> decide +kernel) (by cases b <;> rfl) h1 h
theorem a9g(L:Leaf X G C d){a:E}{t:Ty}(ha:bL X C G d a):bL X C G d (.isi a t):=by
 intro cx e hT A env J s Y Z c F;refine ex4 (hT) λq x tp p q_h=>?_;refine an4 q_h λhe hg hgt h1=>?_;subst he;refine ex2 (L.nm.ns) λmg mb q_h=>?_;refine an7 q_h λn1 n2 z z hbi z z=>?_;refine (Sm.go (k:=λv=>zT t v) c F (ha cx x h1 A env J s Y Z c F) (P2:=λu Q E s1=>Un (Mo X) A (eval (.Name (m9 t) tp) env) (λw s2=>Un (Mo X) A (ya (.builtin "isinstance") [u,w]) Q E s2) E s1) λv Z1 u s1 Y1 c1 F1 S1 r=>?_).imp λQ E h=>?_
 ·refine (L.isi t v u A s1 Y1 Z1 c1 r).imp λQ E h=>?_;obtain ⟨e1,e2⟩:=hbi (m9 t) (a6h t) (by rcases t with _ | _ | _ | _ | ⟨⟨⟩⟩ <;> decide +kernel);exact dD c1 F1 n1 n2 hgt e1 e2 h
 ·obtain ⟨e1,e2⟩:=hbi "isinstance" (.builtin "isinstance") (by decide +kernel);refine Call_ (dD c F n1 n2 hg e1 e2 (PySem.W.callWith_of (P:=λz=>True) ?_ (λz z=>⟨_,.inr (.inl rfl),PySem.W.Looks.of_pure rfl⟩) ?_))
  ·exact gw (h1.facts.star ..) rfl
  ·exact gw (h1.facts.star ..) (evalArgs_plain (spliced_cons (Um h (λu s1 h₁=>(spliced_cons (Um h₁ (λw s2 h₂=>spliced_nil ⟨trivial,h₂⟩) λz z x=>x))) λz z x=>x)))
theorem a2f(L:Leaf X G C d){f:Nat}{ts:List E}(hs:kW X C G d ts):bL X C G d (.call f ts):=by
 intro cx e hT A env J s Y Z c F;refine ex4 (hT) λx q es p q_h=>?_;refine an4 q_h λhe hg hf h1=>?_;subst he;refine ex2 (L.nm.ns) λmg mb q_h=>?_;refine an5 q_h λn1 n2 z hfns z=>?_;obtain ⟨e1,e2⟩:=hfns x f hf;exact (Sm.go (k:=λvs=>C.call f vs) c F (hZ (p:=p) hs h1 c F) (P2:=λus Q E s1=>X.K.In s1.heap/\Un (Mo X) A (ya (.ref (X.fa f)) ([]++us)) Q E s1) λvs Z1 us s1 Y1 c1 F1 S1 r=>(L.call f vs us A s1 Y1 Z1 c1 r).imp λQ E h=>⟨c1.kin L.nm,h⟩).imp λQ E h=>
  Call_ (fG c F n1 hg e1 (jH h1 e2 h))
theorem a9w(L:Leaf X G C d)(v:V):bL X C G d (.con v):=by intro cx e hT A env J s Y Z c F;refine ex2 (hT) λx p q_h=>?_;refine an3 q_h λhe hg hv=>?_;subst he;refine ex2 (L.nm.ns) λmg mb q_h=>?_;refine an7 q_h λn1 n2 z z z hcon z=>?_;obtain ⟨u,e1,r⟩:=hcon x v hv;exact c.ret (r _ _) λQ E h=>fG c F n1 hg e1 h
theorem aCd(L:Leaf X G C d){k:Mm}{a b:E}(ha:bL X C G d a)(hb:bL X C G d b):bL X C G d (.mm k a b):=by
 intro cx e hT A env J s Y Z c F;refine ex5 (hT) λq x y kp p q_h=>?_;refine an4 q_h λhe hg h1 h2=>?_;subst he;refine ex2 (L.nm.ns) λmg mb q_h=>?_;refine an7 q_h λn1 n2 t t hbi t t=>?_;refine (Sm.go (k:=λv=>(evE X.ns C J b).bnd λw=>mmV k v w) c F (ha cx x h1 A env J s Y Z c F) (P2:=λu Q E s1=>Un (Mo X) A (eval y env) (λz s2=>Un (Mo X) A (wO k u z) Q E s2) E s1) λv Z1 u s1 Y1 c1 F1 S1 r=>
  Sm.go (k:=λw=>mmV k v w) c1 F1 (hb cx y h2 A env J s1 Y1 Z1 c1 F1) λw Z2 z s2 Y2 c2 F2 S2 r2=>L.mm k v w u z A s2 Y2 Z2 c2 (S2.vr c1.hr r) r2).imp λQ E h=>?_
 have two:∀(n:Str) (id:String),(n,.builtin id)∈pO->cx.glob n=true->Un (Mo X) A (eval x env) (λu s1=>Un (Mo X) A (eval y env) (λz s2=>Un (Mo X) A (ya (.builtin id) [u,z]) Q E s2) E s1) E s->Un (Mo X) A (eval (.Call (.Name n q) [x,y] [] p) env) Q E s:=λn id hm hg h=>
  Call_ (dD c F n1 n2 hg (hbi n _ hm).1 (hbi n _ hm).2 (fW (ts:=[a,b]) ⟨x,[y],rfl,h1,y,[],rfl,h2,rfl⟩ rfl (args_cons (Um h (λu s1 h₁=>args_cons (Um h₁ (λz s2 h₂=>args_nil h₂) λt t x=>x) (h2.facts.star _ _)) λt t x=>x) (h1.facts.star _ _))))
 cases k with
 | mn=>exact two "min" "min" (by decide +kernel) hg h
 | mx=>exact two "max" "max" (by decide +kernel) hg h
 | ml _=>
  obtain ⟨e1,e2⟩:=hbi "min" (.builtin "min") (by decide +kernel);refine gw (show eval (a2d (.ml ()) q x y kp p) env=(do callWith p (←eval (.Name "min" q) env) [] (backTo p (Ul [x] env)) (backToKw p (keywordEach [⟨some "default",y,kp⟩] env))) from rfl) ?_;refine Ug (dD c F n1 n2 hg e1 e2 (PyProof.Rows.callWith_builtin_kwB ?_ rfl ?_))
  ·exact gw (h1.facts.star ..) rfl
  ·exact gw (h1.facts.star ..) (PyProof.Rows.evalArgs_kwB rfl (spliced_cons (Um h (λu s1 h₁=>spliced_nil (PyProof.Rows.kws_cons (Um h₁ (λz s2 h₂=>PyProof.Rows.kws_nil h₂) λt t x=>x))) λt t x=>x)))
theorem a8y(L:Leaf X G C d){k:Nat}{ts:List E}(hs:kW X C G d ts):bL X C G d (.new k ts):=by
 intro cx e hT A env J s Y Z c F;refine ex4 (hT) λx q es p q_h=>?_;refine an4 q_h λhe hg hf h1=>?_;subst he;refine ex2 (L.nm.ns) λmg mb q_h=>?_;refine an7 q_h λn1 n2 z z z z hown=>?_;obtain ⟨e1,e2⟩:=hown x k hf;exact (Sm.go (k:=λvs=>C.new k vs) c F (hZ (p:=p) hs h1 c F) (P2:=λus Q E s1=>X.K.In s1.heap/\Un (Mo X) A (ya (.ref (X.co k)) ([]++us)) Q E s1) λvs Z1 us s1 Y1 c1 F1 S1 r=>(L.new k vs us A s1 Y1 Z1 c1 r).imp λQ E h=>⟨c1.kin L.nm,h⟩).imp λQ E h=>
  Call_ (fG c F n1 hg e1 (jH h1 e2 h))
theorem a5w(L:Leaf X G C d){a:E}{x:List Nat}(ha:bL X C G d a):bL X C G d (.attr a x):=by intro cx e hT A env J s Y Z c F;refine ex3 (hT) λo nm p q_h=>?_;refine an5 q_h λhe hx hm hb h1=>?_;subst he hx;refine (Sm.go (k:=λv=>eY v (aC nm)) c F (ha cx o h1 A env J s Y Z c F) λv z u s1 Y1 c1 z z r=>L.attr v u nm A s1 Y1 _ hm c1 r).imp λQ E h=>Attribute_any_ h ?_;show (do let o ←attributeBase o nm env (eval o env);_)=_;exact gw (tG hb ..) rfl
theorem a2j{o:Pg}{name:Str}{apos pos:Pos}{args:List Pg}{Q:Pa->Pb->Prop}{E:Pa->Pb->Prop}(hb:eK o=true)(hp:(backTo pos (Ul args env)).any (·.1)=false)(hl:apos.endLine=pos.line)(true':args.length<29)(h:Un (Mo X) A (eval o env) (λov s1=>Un (Mo X) A (getMethod ov name (do return (←importBound o env).getD true)) (λr s2=>Un (Mo X) A (callWith pos r.1 r.2 (backTo pos (Ul args env)) []) Q E s2) E s1) E s):
  Un (Mo X) A (eval (.Call (.Attribute o name apos) args [] pos) env) Q E s:=by
 refine gw (arm_eval_Call ..) (gw (tG hb ..) ?_);refine Ug (Um h (λov s1 h₁=>Ug (wpAny_standAt ?_)) λz z e=>e);have hall:(backTo pos (Ul args env)).all (λx=>!x.1)=true:=by
  rw [wt];intro x hx;rw [zao] at hp;simpa using hp x hx
 have hform:methodCallForm (args.length+([]:List Keyword).length) (backTo pos (Ul args env)) (backToKw pos (keywordEach [] env))=true:=by
  unfold methodCallForm;refine gw (hall ..) ?_;show (true&&(true&&decide (args.length+0+0<30)))=true;exact Uc (xk true')
 have hpos:methodCallPos true o env apos pos=pure pos:=by unfold methodCallPos;simp [hl]
 unfold methodCall;refine gw (hform ..) ?_;refine Ug (Uk (Um h₁ (λr s2 h₂=>?_) λz z e=>e));obtain ⟨f,first⟩:=r;exact Ug (wpAny_of_eq hpos h₂)
theorem a1h(L:Leaf X G C d){a:E}{m:List Nat}{ts:List E}(ha:bL X C G d a)(hs:kW X C G d ts):bL X C G d (.u a m ts):=by
 intro cx e hT A env J s Y Z c F;refine ex5 (hT) λo nm ap es p q_h=>?_;refine an7 q_h λhe hx hb hl hlen h1 h2=>?_;subst he hx;refine (Sm.go (k:=λx=>(C.U x (aC nm)).bnd λi=>(fK X.ns C J ts).bnd λvs=>C.call i (x::vs)) c F (ha cx o h1 A env J s Y Z c F)
  (P2:=λu Q E s1=>Un (Mo X) A (getMethod u nm (do return (←importBound o env).getD true)) (λr s2=>Un (Mo X) A (callWith p r.1 r.2 (backTo p (Ul es env)) []) Q E s2) E s1) λx Z1 u s1 Y1 c1 F1 S1 r1=>
  Sm.go c1 F1 (L.U x u nm _ A s1 Y1 Z1 c1 r1) (P2:=λr Q E s2=>Un (Mo X) A (callWith p r.1 r.2 (backTo p (Ul es env)) []) Q E s2) λi Z2 r s2 Y2 c2 F2 S2 r2=>?_).imp λQ E h=>a2j hb (kB h2) hl hlen h
 obtain ⟨rfl,hk⟩:=r2;exact (Sm.go (k:=λvs=>C.call i (x::vs)) c2 F2 (hZ (p:=p) hs h2 c2 F2) (P2:=λus Q E s3=>X.K.In s3.heap/\Un (Mo X) A (ya (.ref (X.fa i)) ([u]++us)) Q E s3) λvs Z3 us s3 Y3 c3 F3 S3 r3=>
  (L.call i (x::vs) (u::us) A s3 Y3 Z3 c3 (.cons (S3.vr c2.hr (S2.vr c1.hr r1)) r3)).imp λQ E h=>⟨c3.kin L.nm,h⟩).imp λQ E h=>jH h2 hk h
end
structure Move(own:List Pd)(s s':Pb):Prop where
 keep:∀b o,b∉own->s.heap.get? b=some o->s'.heap.get? b=some o
 size:s.heap.objs.size<=s'.heap.objs.size
 gens:s'.gens=s.gens
 os:s'.os=s.os
theorem Move.of_but{a:Pd}{s:Pb}{h':Pe}{t:Nat}(hs:Heap.SameBut a s.heap h'):Move [a] s { s with heap:=h',toks:=t }:=
 ⟨λb o hb e=>(hs.2 b λq=>hb (ze.mpr q)).trans e,zu hs.1.symm,rfl,rfl⟩
theorem m0{a:Pd}{l:List Pd}:a∈a::l:=.head _
theorem n0{b x:Pd}{l:List Pd}(h:b∉x::l):b≠x:=λq=>h (q▸m0)
theorem nt{b x:Pd}{l:List Pd}(h:b∉x::l):b∉l:=λq=>h (.tail _ q)
noncomputable def hW(h:Pe)(b:Pd):Prop:=∃o,h.get? b=some o/\o.cls≠.type "list"/\o.cls≠.type "dict"/\(∀es n,o.data≠.dict es n)/\(∀u,o.data≠.cell u)/\¬iO o
section
variable{X:W}{A:Pf}{d:Nat}{hn:Bool}{s s' s₀:Pb}{Y Y' Y₀:List Pd}{Z Z' Z0:H}{env:zq}{cx:Cx}{J:Env}{own:List Pd}
theorem hW.mk{h:Pe}{b:Pd}{o:Obj}{n:String}{fs:Array Pa}(e:h.get? b=some o)(hc:o.cls=.type n)(hd:o.data=.fields fs)(hn:n≠"list"/\n≠"dict"/\n≠"tuple"):hW h b:=by obtain ⟨c,dct,dat,sl⟩:=o;cases hc;cases hd;exact ⟨_,e,λq=>hn.1 (by cases q;rfl),λq=>hn.2.1 (by cases q;rfl),(λz z q=>by cases q),(λz q=>by cases q),λhS=>hS.1.elim (λq=>hn.2.2 (by cases q;rfl)) λq_0=>by obtain ⟨_,q⟩:=q_0;cases q⟩
noncomputable def iZ(h:Pe)(Y:List Pd)(b:Pd):Prop:=b∉Y/\∀o,h.get? b=some o->¬iO o
theorem hW.off{h:Pe}{b:Pd}(p:hW h b)(R:HR X Y Z h):b∉Y:=by obtain ⟨o,q_h⟩:=(p);refine an4 q_h λe h1 h2 z=>?_;exact R.offC e h1 h2
theorem hW.isSoft{h:Pe}{b:Pd}(p:hW h b)(R:HR X Y Z h):iZ h Y b:=⟨p.off R,λo' e' hS=>by obtain ⟨o,q_h⟩:=(p);refine an6 q_h λe z z z z q=>?_;replace e':=e▸e';cases e';exact q hS⟩
theorem hW.lt{h:Pe}{b:Pd}(p:hW h b):b<h.objs.size:=by obtain ⟨_,e,_⟩:=p;exact yc e
theorem Move.solid(m:Move own s s')(hp:∀b∈own,iZ s.heap Y b):∀a o,s.heap.get? a=some o->iO o->s'.heap.get? a=some o:=λa o e hS=>m.keep a o (λhm=>(hp a hm).2 o e hS) e
theorem Move.vrs(m:Move own s s')(hp:∀b∈own,iZ s.heap Y b){v:List V}{u:List Pa}(r:VRs X s.heap Y v u):VRs X s'.heap Y v u:=r.mono (m.solid hp) λz z e=>e
theorem Move.vr(m:Move own s s')(hp:∀b∈own,iZ s.heap Y b){v:V}{u:Pa}(r:VR X s.heap Y v u):VR X s'.heap Y v u:=r.mono (m.solid hp) λz z e=>e
theorem Move.hr(m:Move own s s')(hp:∀b∈own,iZ s.heap Y b)(R:HR X Y Z s.heap):HR X Y Z s'.heap where
 len:=R.len
 nodup:=R.nodup
 fresh:=R.fresh
 obj:=λi o a e1 e2=>(R.obj i o a e1 e2).mono (m.solid hp) (λz z e=>e) λx e=>m.keep a x (λhm=>(hp a hm).1 (ym e2)) e
 fro:=R.fro
theorem Step.move(S:Step X s₀ Y₀ s Y Z)(m:Move own s s')(hp:∀b∈own,iZ s.heap Y b)(hnew:∀b∈own,s₀.heap.objs.size<=b)(hB:Base X s₀.heap):Step X s₀ Y₀ s' Y Z where
 hr:=m.hr hp S.hr
 keep:=λb o hb e=>by
  obtain ⟨sl,e1,q⟩:=S.keep b o hb e;exact ⟨sl,m.keep b _ (λhm=>(Ue (yc e) (yf.mpr (hnew b hm)))) e1,q⟩
 base:=⟨λb o e=>m.keep b o (λhm=>Ue (yc (hB.keep b o e)) (yf.mpr (hnew b hm))) (S.base.keep b o e),za S.base.size m.size,S.base.low⟩
 size:=za S.size m.size
 ext:=S.ext
 gens:=m.gens.trans S.gens
 os:=m.os.trans S.os
theorem FR.move(F:FR X env cx J s.heap Y)(R:HR X Y Z s.heap)(m:Move own s s')(hp:∀b∈own,hW s.heap b):FR X env cx J s'.heap Y:={ F with
 ns:=by
  obtain ⟨mm,n,h⟩:=F.ns;refine ⟨mm,?_,λx k v h1 h2 h3=>by obtain ⟨u,a,b⟩:=h x k v h1 h2 h3;exact ⟨u,a,m.vr (λb hb=>(hp b hb).isSoft R) b⟩⟩;refine ex3 (n) λo es ep q_h=>?_;refine an3 q_h λe hd r=>?_;refine ⟨o,es,ep,m.keep _ _ (λhm=>?_) e,hd,r⟩;obtain ⟨o',q_h⟩:=(hp _ hm);refine an5 q_h λe' z z q z=>?_;replace e':=e▸e';cases e';exact q _ _ hd
 cell:=λx k h1 h2=>by
  refine ex2 (F.cell x k h1 h2) λc u q_h=>?_;refine an3 q_h λa b dd=>?_;obtain ⟨o,e,hd⟩:=b;refine ⟨c,u,a,⟨o,m.keep _ _ (λhm=>?_) e,hd⟩,λv hv=>by obtain ⟨y,p,q⟩:=dd v hv;exact ⟨y,p,m.vr (λb hb=>(hp b hb).isSoft R) q⟩⟩;obtain ⟨o',q_h⟩:=(hp _ hm);refine an6 q_h λe' z z z q z=>?_;replace e':=e▸e';cases e';exact q _ hd
 offC:=λx c h=>⟨(F.offC x c h).1,(F.offC x c h).2.1,zj (F.offC x c h).2.2 m.size⟩ }
end
inductive JR (X:W) (h:Pe) (Y:List Pd):It->Pd->List Pd->Prop
 | list {l i:Nat}{a JJ:Pd}:Y[l]?=some a->h.IsListIter JJ a i->JR X h Y (.list l i) JJ [JJ]
 | range {i n:Nat}{JJ:Pd}:i<=n->IsRangeIter h JJ i ((n:Int)-i) 1->JR X h Y (.range i n) JJ [JJ]
 | enum {l i:Nat}{a JJ K:Pd}{old:Pa}:Y[l]?=some a->JJ≠K->IsEnum h JJ K i old->h.IsListIter K a i->JR X h Y (.enum l i) JJ [JJ,K]
 | seq {x:Str}{t:Tok}{i:Nat}{JJ:Pd}{ty:String}:x.length<=lim->(ty="str_ascii_iterator"∨ty="str_iterator")->h.IsStrIter JJ ty x t i->JR X h Y (.seq (aC x) i) JJ [JJ]
 | keys {l i:Nat}{kvs:List (List Nat×V)}{a JJ:Pd}{m:List (Str×Pa)}{ep:Nat}:Y[l]?=some a->X.fz a=some (m,ep)->kvs.map (·.1)=m.map (λp=>aC p.1)->(∀p∈m,p.1.length<=lim)->h.IsKeyIter JJ a i m.length ep->JR X h Y (.keys l kvs i) JJ [JJ]
section
variable{X:W}{A:Pf}{d:Nat}{hn:Bool}{s s' s₀:Pb}{Y Y' Y₀:List Pd}{Z Z' Z0:H}{env:zq}{cx:Cx}{J:Env}{own:List Pd}{it:It}{JJ:Pd}
theorem qT{h:Pe}{JJ a:Pd}{i:Nat}(e:h.IsListIter JJ a i):hW h JJ:=by obtain ⟨o,e,hc,hd⟩:=e;exact .mk e hc hd (by decide)
theorem iK{P:Pd->Prop}{l:List Pd}(h:l.foldr (λa p=>P a/\p) True)(b:Pd)(hb:b∈l):P b:=by
 induction l with
 | nil=>cases hb
 | cons a l ih=>
  rcases ye.mp hb with rfl | hb
  ·exact h.1
  ·exact ih h.2 hb
theorem JR.priv{h:Pe}(j:JR X h Y it JJ own):∀b∈own,hW h b:=by
 cases j with
 | list _ e=>exact iK ⟨qT e,trivial⟩
 | range _ e=>exact iK ⟨.mk e rfl rfl (by decide),trivial⟩
 | enum _ _ e e'=>exact iK ⟨.mk e rfl rfl (by decide),qT e',trivial⟩
 | seq _ ht e=>
  obtain ⟨o,q_h⟩:=(e);refine an3 q_h λe hc hd=>?_;exact iK ⟨.mk e hc hd (by rcases ht with rfl | rfl <;> decide),trivial⟩
 | keys _ _ _ _ e=>obtain ⟨o,e,hc,hd⟩:=e;exact iK ⟨.mk e hc hd (by decide),trivial⟩
theorem JR.keeps{h h':Pe}(j:JR X h Y it JJ own)(k:∀b∈own,∀o,h.get? b=some o->h'.get? b=some o)(hμ:∀(i:Nat) (a:Pd),Y[i]?=some a->Y'[i]?=some a):JR X h' Y' it JJ own:=by
 have k0:∀{b:Pd}{l:List Pd},own=b::l->∀o,h.get? b=some o->h'.get? b=some o:=λq=>k _ (q▸m0);have kt:∀{b c:Pd}{l:List Pd},own=c::l->b∈l->∀o,h.get? b=some o->h'.get? b=some o:=λq m=>k _ (q▸.tail _ m);cases j with
 | list hl e=>exact .list (hμ _ _ hl) (e.at (k0 rfl))
 | range hi e=>exact .range hi (k0 rfl _ e)
 | enum hl hn e e'=>exact .enum (hμ _ _ hl) hn (k0 rfl _ e) (e'.at (kt rfl m0))
 | seq hz ht e=>obtain ⟨o,e,r⟩:=e;exact .seq hz ht ⟨o,k0 rfl _ e,r⟩
 | keys hl f q z e=>exact .keys (hμ _ _ hl) f q z (e.at (k0 rfl))
theorem JR.step(j:JR X s.heap Y it JJ own)(R:HR X Y Z s.heap)(S:Step X s Y s' Y' Z'):JR X s'.heap Y' it JJ own:=
 j.keeps (λb hb o e=>S.keep.at ((j.priv b hb).off R) e (by
  obtain ⟨o',q_h⟩:=(j.priv b hb);refine an5 q_h λe' z z q z=>?_;replace e':=e▸e';cases e';exact q)) S.get
noncomputable def lP(X:W)(s:Pb)(Y:List Pd)(JJ:Pd)(own:List Pd)(r:Option (V×It))(q:Option Pa)(s':Pb):Prop:=Move own s s'/\match r,q with
 | none,none=>True
 | some (v,it'),some u=>VR X s'.heap Y v u/\JR X s'.heap Y it' JJ own
 | _,_=>False
theorem Move.of_ext{a:Pd}{s:Pb}{h':Pe}(he:Heap.ExtBut a s.heap h')(hs:s.heap.objs.size<=h'.objs.size):Move [a] s { s with heap:=h' }:=
 ⟨λb o hb e=>he b o (λq=>hb (ze.mpr q)) e,hs,rfl,rfl⟩
theorem yK{h:Pe}{xs:List V}{vs:List Pa}{i:Nat}(r:VRs X h Y xs vs)(hx:xs[i]?=none):vs.toArray[i]?=none:=(vf ..).trans (vc (r.length▸List.getElem?_eq_none_iff.mp hx))
theorem xH{vs:List Pa}{i:Nat}{u:Pa}(h:vs[i]?=some u):vs.toArray[i]?=some u:=(vf ..).trans h
theorem bE(c:Cn X A d true s Y Z){l i:Nat}{a:Pd}(hl:Y[l]?=some a)(e:s.heap.IsListIter JJ a i){r:Option (V×It)}(hr:aS (.list l i) Z=some r){Q:Option Pa->Pb->Prop}{E:Pa->Pb->Prop}(h:∀q s',lP X s Y JJ [JJ] r q s'->(q≠none->s'.heap.IsListIter JJ a (i+1))->Q q s'):
  Un (Mo X) A (pyNext (.ref JJ)) Q E s:=by
 refine gY ?_;obtain ⟨xs,ho,hr⟩:=zk.mp hr;refine ex2 (c.list (gN ho) hl) λvs n q_h=>?_;refine an3 q_h λe' r' hz=>?_;have L:s.heap.IsList a vs.toArray:=⟨_,e',rfl,_,rfl⟩;cases hx:xs[i]? with
 | none=>
  replace hr:=hx▸hr;cases hr;exact wpAny_pyNext_list_end (c.rm.handled rfl) e L (yK r' hx) λh' he hs=>h _ _ ⟨.of_ext he hs,trivial⟩ λq=>(q rfl).elim
 | some v=>
  replace hr:=hx▸hr;cases hr;obtain ⟨u,hu,ru⟩:=r'.get hx;refine wpAny_pyNext_list_item e L (x:=u) (xH hu) λh' hit hs hz'=>?_;have M:Move [JJ] s { s with heap:=h' }:=.of_but (t:=s.toks) hs;exact h _ _ ⟨M,M.vr (λb hb=>(JR.priv (X:=X) (Y:=Y) (.list hl e) b hb).isSoft c.hr) ru,.list hl hit⟩ λz=>hit
theorem u9(c:Cn X A d true s Y Z){x:Str}{t:Tok}{i:Nat}{ty:String}(hz:x.length<=lim)(ht:ty="str_ascii_iterator"∨ty="str_iterator")(e:s.heap.IsStrIter JJ ty x t i){r:Option (V×It)}(hr:aS (.seq (aC x) i) Z=some r){Q:Option Pa->Pb->Prop}{E:Pa->Pb->Prop}(h:∀q s',lP X s Y JJ [JJ] r q s'->Q q s'):Un (Mo X) A (pyNext (.ref JJ)) Q E s:=by
 refine gY ?_;replace hr:((aC x)[i]?).map (λc=>(V.str [c],It.seq (aC x) (i+1)))=r:=Option.some.inj hr;have hcx:(aC x)[i]?=x.cps[i]?:=by simp [aC]
 cases hx:x.cps[i]? with
 | none=>
  replace hr:=hx▸hcx▸hr;cases hr;rcases ht with rfl | rfl
  ·exact wpAny_pyNext_ascii_end (c.rm.handled rfl) e (by simpa using hx) λh' he hs=>h _ _ ⟨.of_ext he hs,trivial⟩
  ·exact wpAny_pyNext_wide_end (c.rm.handled rfl) e (by simpa using hx) λh' he hs=>h _ _ ⟨.of_ext he hs,trivial⟩
 | some k=>
  replace hr:=hx▸hcx▸hr;cases hr;have go:∀h',h'.IsStrIter JJ ty x t (i+1)->Heap.SameBut JJ s.heap h'->s.heap.objs.size<=h'.objs.size->Q (some (.str ⟨#[k]⟩ s.toks)) { s with heap:=h',toks:=s.toks+1 }:=λh' hit hs z=>
   h _ _ ⟨.of_but hs,VR.str (X:=X) (h:=h') (Y:=Y) ⟨#[k]⟩ s.toks (wy rfl),.seq hz ht hit⟩
  rcases ht with rfl | rfl
  ·exact wpAny_pyNext_ascii_item e (c:=k) (by simpa using hx) λh' hit hs hz'=>go h' hit hs hz'
  ·exact wpAny_pyNext_wide_item e (c:=k) (by simpa using hx) λh' hit hs hz'=>go h' hit hs hz'
theorem rR(c:Cn X A d true s Y Z){l i ep:Nat}{kvs:List (List Nat×V)}{a:Pd}{m:List (Str×Pa)}(hl:Y[l]?=some a)(hf:X.fz a=some (m,ep))(hk:kvs.map (·.1)=m.map λp=>aC p.1)(hz:∀p∈m,p.1.length<=lim)(e:s.heap.IsKeyIter JJ a i m.length ep){r:Option (V×It)}(hr:aS (.keys l kvs i) Z=some r){Q:Option Pa->Pb->Prop}{E:Pa->Pb->Prop}(h:∀q s',lP X s Y JJ [JJ] r q s'->Q q s'):Un (Mo X) A (pyNext (.ref JJ)) Q E s:=by
 refine gY ?_;have hD:s.heap.DictAt (strKind X.prog X.w) a m ep:=by
  obtain ⟨_,ho⟩:=c.hr.fro l a hl (by refine gw hf ?_;intro q;cases q);cases c.hr.obj l _ a ho hl with
  | fro _ _ _ f=>exact f _ hf
 replace hr:(kvs[i]?).map (λp=>(V.str p.1,It.keys l kvs (i+1)))=r:=Option.some.inj hr;have hki:(kvs[i]?).map (·.1)=(m[i]?).map λp=>aC p.1:=(yk ..).symm.trans ((Uf (λl:List (List Nat)=>l[i]?) hk).trans (yk ..));cases hx:m[i]? with
 | none=>
  replace hki:=hx▸hki;cases hy:kvs[i]? with
  | some _=>replace hki:=hy▸hki;cases hki
  | none=>
   replace hr:=hy▸hr;cases hr;exact wpAny_pyNext_dict_end (c.rm.handled rfl) e hD hx λh' he hs=>h none _ ⟨.of_ext he hs,trivial⟩
 | some p=>
  replace hki:=hx▸hki;cases hy:kvs[i]? with
  | none=>replace hki:=hy▸hki;cases hki
  | some p'=>
   replace hki:=hy▸hki;replace hr:=hy▸hr;cases hr;have hp:p'.1=aC p.1:=Option.some.inj hki;refine wpAny_pyNext_dict_item e hD (k:=p.1) (v:=p.2) hx λkey h' hkey hit hs z=>?_;obtain ⟨t,rfl⟩:=Value.isStrOf_shape hkey;exact h (some (.str p.1 t)) _ ⟨.of_but (t:=s.toks) hs,hp.symm▸.str p.1 t (hz p (ym hx)),.keys hl hf hk hz hit⟩
theorem bJ(c:Cn X A d true s Y Z){i n:Nat}(hi:i<=n)(e:IsRangeIter s.heap JJ i ((n:Int)-i) 1){r:Option (V×It)}(hr:aS (.range i n) Z=some r){Q:Option Pa->Pb->Prop}{E:Pa->Pb->Prop}(h:∀q s',lP X s Y JJ [JJ] r q s'->Q q s'):Un (Mo X) A (pyNext (.ref JJ)) Q E s:=by
 refine gY ?_;replace hr:(if i<n then some (V.int i,It.range (i+1) n) else none)=r:=Option.some.inj hr;revert hr;refine ic ite_ (λhlt hr=>?_) λhge hr=>?_
 ·cases hr;refine wpAny_pyNext_range_item e (Int.sub_pos_of_lt (uc.mpr hlt)) λh' hit hs hz'=>?_;refine h _ _ ⟨.of_but hs,.int _ _,.range hlt ?_⟩;have e1:((i+1:Nat):Int)=(i:Int)+1:=rfl;exact gw e1 (bw (Int.sub_sub ..) hit)
 ·cases hr;exact wpAny_pyNext_range_end (c.rm.handled rfl) e (Int.sub_nonpos_of_le (xd.mpr (yf.mp hge))) λh' he hs=>h _ _ ⟨.of_ext he hs,trivial⟩
noncomputable def jI:It->Bool
 | .list _ _=>true
 | .range _ _=>true
 | .seq _ _=>true
 | .keys _ _ _=>true
 | _=>false
theorem lI{it':It}{v:V}(h:aS it Z=some (some (v,it')))(hp:jI it=true):jI it'=true:=by
 cases it with
 | list l i=>
  obtain ⟨xs,ho,hr⟩:=zk.mp h;obtain ⟨_,_,e⟩:=zk.mp hr;cases e;rfl
 | range i n=>
  have h:(if i<n then some (V.int i,It.range (i+1) n) else none)=some (v,it'):=Option.some.inj h;split at h <;> cases h;rfl
 | seq x i=>
  obtain ⟨_,_,e⟩:=zk.mp (Option.some.inj h);cases e;rfl
 | keys l kvs i=>
  obtain ⟨_,_,e⟩:=zk.mp (Option.some.inj h);cases e;rfl
 | _=>cases hp
theorem yD(c:Cn X A d true s Y Z)(j:JR X s.heap Y it JJ own)(hp:jI it=true){r:Option (V×It)}(hr:aS it Z=some r){Q:Option Pa->Pb->Prop}{E:Pa->Pb->Prop}(h:∀q s',lP X s Y JJ own r q s'->Q q s'):
  Un (Mo X) A (pyNext (.ref JJ)) Q E s:=by
 cases j with
 | list hl e=>exact bE c hl e hr λq s' hq y=>h q s' hq
 | range hi e=>exact bJ c hi e hr h
 | seq hz ht e=>exact u9 c hz ht e hr h
 | keys hl f q z e=>exact rR c hl f q z e hr h
 | _=>cases hp
noncomputable def a1t(X:W)(A:Pf)(tg:Pg)(JJ:Pd):PT (Option Pa):=λQ E s=>
 Un (Mo X) A (pyNext (.ref JJ)) (λq s1=>match q with
  | none=>Q none s1
  | some v=>Un (Mo X) A (letOwnedTupleGo tg (.ref JJ) v) (λz s2=>Q (some v) s2) E s1) E s
theorem VR.tupRef{h:Pe}{vs:List V}{u:Pa}(r:VR X h Y (.tup vs) u):∃a,u=.ref a:=by cases r;exact ⟨_,rfl⟩
theorem a0a(c:Cn X A d hn s Y Z){b:Pd}{o:Obj}(e:s.heap.get? b=some o):s.heap.objs.size≠b:=wq (yc e)
theorem lR{elts:List Pg}{x1:Nat}{pos:Pos}{r:Option (V×It)}{q:Option Pa}{Q:Option Pa->Pb->Prop}{E:Pa->Pb->Prop}(hq:lP X s Y JJ own r q s')(ht:∀v it',r=some (v,it')->∃vs,v=.tup vs)(hgo:∀vs it' a,r=some (.tup vs,it')->q≠none->∀Q':Unit->Pb->Prop,Q' () s'->Un (Mo X) A (letOwnedTupleGo (.Tuple elts x1 pos) (.ref JJ) (.ref a)) Q' E s')(h:Q q s'):
  match (generalizing:=false) q with | none=>Q none s' | some v=>Un (Mo X) A (letOwnedTupleGo (.Tuple elts x1 pos) (.ref JJ) v) (λz s2=>Q (some v) s2) E s':=by
 cases q with
 | none=>exact h
 | some u=>
  rcases r with _ | ⟨v,it'⟩
  ·exact hq.2.elim
  ·obtain ⟨vs,rfl⟩:=ht v it' rfl;obtain ⟨a',rfl⟩:=hq.2.1.tupRef;exact hgo vs it' a' rfl (λq=>by cases q) _ h
theorem a3l{elts:List Pg}{x1:Nat}{pos:Pos}(c:Cn X A d true s Y Z)(j:JR X s.heap Y it JJ own){r:Option (V×It)}(hr:aS it Z=some r)(ht:∀v it',r=some (v,it')->∃vs,v=.tup vs){Q:Option Pa->Pb->Prop}{E:Pa->Pb->Prop}(h:∀q s',lP X s Y JJ own r q s'->Q q s'):
  a1t X A (.Tuple elts x1 pos) JJ Q E s:=by
 have soft:∀b∈own,iZ s.heap Y b:=λb hb=>(j.priv b hb).isSoft c.hr;cases j with
 | list hl e=>exact bE c hl e hr λq s' hq hi=>lR hq ht (λy y y y hn y=>wpAny_letOwnedTupleGo_listiter (hi hn)) (h q s' hq)
 | keys hl f q' z e=>exact rR c hl f q' z e hr λq s' hq=>lR hq ht (λvs it' y q y=>by obtain ⟨_,_,e'⟩:=zk.mp (Option.some.inj (q▸hr));cases e') (h q s' hq)
 | @range i n _ hi e=>exact bJ c hi e hr λq s' hq=>lR hq ht (λvs it' y q y=>by
   have hr:(if i<n then some (V.int i,It.range (i+1) n) else none)=some (.tup vs,it'):=Option.some.inj (q▸hr);split at hr <;> cases hr) (h q s' hq)
 | seq hz ht' e=>exact u9 c hz ht' e hr λq s' hq=>lR hq ht (λvs it' y q y=>by obtain ⟨_,_,e'⟩:=zk.mp (Option.some.inj (q▸hr));cases e') (h q s' hq)
 | @enum l i a _ K old hl hne e1 e2=>
  refine gY ?_;obtain ⟨xs,ho,hr⟩:=zk.mp hr;refine ex2 (c.list (gN ho) hl) λvs n q_h=>?_;refine an3 q_h λe' r' hz=>?_;have L:s.heap.IsList a vs.toArray:=⟨_,e',rfl,_,rfl⟩;cases hx:xs[i]? with
  | none=>
   replace hr:=hx▸hr;cases hr;exact wpAny_pyNext_enum_end (c.rm.handled rfl) e1 e2 L (yK r' hx) λh' he hs=>h _ _ ⟨⟨λb o hb e=>he b o (n0 (nt hb)) e,hs,rfl,rfl⟩,trivial⟩
  | some v=>
   replace hr:=hx▸hr;cases hr;obtain ⟨u,hu,ru⟩:=r'.get hx;refine wpAny_pyNext_enum_item e1 e2 L (x:=u) (xH hu) hne λh₁ q1 q2 q3 q4 q5 hz1=>?_;refine wpAny_letOwnedTupleGo_enum q1 λh₂ p1 hs=>?_;replace hs:Heap.SameBut JJ h₁ h₂:=hs;have M:Move [JJ,K] s { s with heap:=h₂,toks:=s.toks+1 }:=⟨λb o hb e=>hs.extBut _ _ (n0 hb) (q5 b o (n0 hb) (n0 (nt hb)) e),by show _<=h₂.objs.size;exact gw (hs.1 ..) (gw q4 (yi _)),rfl,rfl⟩;exact h _ _ ⟨M,.tup (l:=[.int i s.toks,u]) (n:=0) (hs.extBut _ _ (a0a c e1) q3) (wy rfl) (.cons (.int _ _) (.cons (M.vr soft ru) .nil)),.enum (i:=i+1) hl hne p1 (q2.extBut hs.extBut (Ne.symm hne))⟩
end
noncomputable def W.wb(X:W)(f:Pd->Option (List (Str×Pa)×Nat)):W:={ X with fz:=f }
noncomputable def W.fr(X:W)(a:Pd)(p:List (Str×Pa)×Nat)(b:Pd):Option (List (Str×Pa)×Nat):=if b=a then some p else X.fz b
section
variable{X:W}{A:Pf}{d:Nat}{s s':Pb}{Y Y':List Pd}{Z Z':H}{env:zq}{cx:Cx}{J:Env}{h:Pe}{f:Pd->Option (List (Str×Pa)×Nat)}{a:Pd}{p:List (Str×Pa)×Nat}{l:Nat}{kvs:List (List Nat×V)}
theorem VR.wb{v:V}{u:Pa}(r:VR X h Y v u):VR (X.wb f) h Y v u:=
 VR.rec (X:=X) (motive_1:=λv u w=>VR (X.wb f) h Y v u) (motive_2:=λv u w=>VRs (X.wb f) h Y v u) .none .bool .int .str (λe=>.ref e) (λe z w r=>.tup e z r) (λe m=>.inst (X:=X.wb f) e m) .scr .nil (λw w x y=>.cons x y) r
theorem VRs.wb{v:List V}{u:List Pa}(r:VRs X h Y v u):VRs (X.wb f) h Y v u:=r.each λx=>x.wb
theorem FR.wb(F:FR X env cx J h Y):FR (X.wb f) env cx J h Y:={ F with
 ns:=by obtain ⟨m,n,h⟩:=F.ns;exact ⟨m,n,λx k v h1 h2 h3=>by obtain ⟨u,a,r⟩:=h x k v h1 h2 h3;exact ⟨u,a,r.wb⟩⟩
 cell:=λx k h1 h2=>by obtain ⟨c,u,a,i,r⟩:=F.cell x k h1 h2;exact ⟨c,u,a,i,λv hv=>by obtain ⟨y,p,q⟩:=r v hv;exact ⟨y,p,q.wb⟩⟩}
theorem FF.wb{l:List zq}(h1:FF X h Y l):FF (X.wb f) h Y l:=λe he=>by
 cases h1 e he with
 | mk a k1 k2 k3 k4 k5=>exact ⟨a,k1,k2,k3,k4,k5⟩
theorem Base.wb(B:Base X h):Base (X.wb f) h:=⟨B.keep,B.size,B.low⟩
theorem HR.fz_none(R:HR X Y Z h)(hl:Y[l]?=some a)(ho:Z[l]?=some (.dict kvs)):X.fz a=none:=Classical.byContradiction λq=>by obtain ⟨_,e⟩:=R.fro l a hl q;cases ho.symm.trans e
theorem HR.freeze(R:HR X Y Z h)(hl:Y[l]?=some a)(ho:Z[l]?=some (.dict kvs)):HR X Y (Z.set l (.fro kvs)) h where
 len:=gw (jg ..) (gw (R.len ..) rfl)
 nodup:=R.nodup
 fresh:=R.fresh
 obj:=λi o b e1 e2=>by
  by_cases hi:l=i
  ·subst hi;replace e2:=hl▸e2;cases e2;replace e1:=(ud (zc.mp ho).1 ..)▸e1;cases e1;cases R.obj l _ a ho hl with
   | dict e z r=>exact .fro e z r λp hp=>nomatch (R.fz_none hl ho).symm.trans hp
  ·exact R.obj i o b ((wo hi).symm.trans e1) e2
 fro:=λi b e hb=>by
  obtain ⟨k,q⟩:=R.fro i b e hb;exact ⟨k,(wo λh=>by subst h;replace q:=ho▸q;cases q).trans q⟩
theorem HR.up(R:HR X Y Z h)(hl:Y[l]?=some a)(ho:Z[l]?=some (.fro kvs))(hD:h.DictAt (strKind X.prog X.w) a p.1 p.2):HR (X.wb (X.fr a p)) Y Z h where
 len:=R.len
 nodup:=R.nodup
 fresh:=R.fresh
 obj:=λi o b e1 e2=>by
  cases R.obj i o b e1 e2 with
  | list e z r=>exact .list e z r.wb
  | dict e z r=>exact .dict e z (r.like VRs.wb)
  | fro e z r q=>
   refine .fro e z (r.like VRs.wb) λt ht=>?_;by_cases hb:b=a
   ·subst hb;cases Option.some.inj ((Ua rfl).symm.trans ht);exact hD
   ·exact q t ((Ub hb).symm.trans ht)
 fro:=λi b e hb=>by
  by_cases hba:b=a
  ·subst hba;cases getElem?_nodup R.nodup hl e;exact ⟨_,ho⟩
  ·exact R.fro i b e λq=>hb ((Ub hba).trans q)
theorem HR.melt(hn:X.fz a=none)(R:HR (X.wb (X.fr a p)) Y Z h)(hl:Y[l]?=some a):HR X Y (jL Z l) h:=by
 obtain ⟨ks,ho⟩:=R.fro l a hl (by show (if a=a then some p else X.fz a)≠none;refine gw (Ua rfl ..) ?_;intro q;cases q);refine gw (show jL Z l=Z.set l (.dict ks) by unfold jL;exact gw ho rfl) ?_;exact {
  len:=gw (jg ..) (gw (R.len ..) rfl)
  nodup:=R.nodup
  fresh:=R.fresh
  obj:=λi o b e1 e2=>by
   by_cases hi:l=i
   ·subst hi;replace e2:=hl▸e2;cases e2;replace e1:=(ud (zc.mp ho).1 ..)▸e1;cases e1;cases R.obj l _ a ho hl with
    | fro e z r _=>exact .dict e z (r.like (VRs.wb (f:=X.fz)))
   ·cases R.obj i o b ((wo hi).symm.trans e1) e2 with
    | list e z r=>exact .list e z (r.wb (f:=X.fz))
    | dict e z r=>exact .dict e z (r.like (VRs.wb (f:=X.fz)))
    | fro e z r q=>exact .fro e z (r.like (VRs.wb (f:=X.fz))) λt ht=>q t ((Ub λh=>by subst h;replace ht:=hn▸ht;cases ht).trans ht)
  fro:=λi b e hb=>by
   have hba:b≠a:=λq=>hb (q▸hn);obtain ⟨k,q⟩:=R.fro i b e λq=>hb ((Ub hba).symm.trans q);exact ⟨k,(wo λh=>hba (by subst h;replace e:=hl▸e;cases e;rfl)).trans q⟩ }
end
inductive IR (X:W) (h:Pe) (Y:List Pd):It->Pa->Prop
 | list {l:Nat}{a:Pd}{items:Array Pa}:Y[l]?=some a->h.IsList a items->IR X h Y (.list l 0) (.ref a)
 | range {a:Pd}{k:Int}{t u v:Tok}:-4611686018427387904<k->k<4611686018427387904->IsRange h a 0 k 1 t u v->IR X h Y (.range 0 k.toNat) (.ref a)
 | seq (x:Str) (t:Tok):x.length<=lim->IR X h Y (.seq (aC x) 0) (.str x t)
 | keys {l:Nat}{kvs:List (List Nat×V)}{a:Pd}{m:List (Str×Pa)}{ep:Nat}:Y[l]?=some a->X.fz a=none->h.DictAt (strKind X.prog X.w) a m ep->m.length<=lim->ERs X h Y kvs m->IR X h Y (.keys l kvs 0) (.ref a)
section
variable{X:W}{A:Pf}{d:Nat}{s s' s₀:Pb}{Y Y' Y₀:List Pd}{Z Z' Z0:H}{env:zq}{cx:Cx}{J:Env}{own:List Pd}{it:It}{JJ:Pd}{C:Calls}{G:GT}
noncomputable def a1s(X:W)(f:Pd->Option (List (Str×Pa)×Nat))(it:It)(Y:List Pd):Prop:=
 ∀{h':Pe}{Y':List Pd}{Z':H},(∀(i:Nat) (a:Pd),Y[i]?=some a->Y'[i]?=some a)->HR (X.wb f) Y' Z' h'->HR X Y' (thaw it Z') h'
theorem a1s.step{f:Pd->Option (List (Str×Pa)×Nat)}(m:a1s X f it Y)(S:Step (X.wb f) s Y s' Y' Z'):Step X s Y s' Y' (thaw it Z'):=
 ⟨m S.get S.hr,S.keep,Base.wb (X:=X.wb f) (f:=X.fz) S.base,S.size,S.ext,S.gens,S.os⟩
theorem tI(c:Cn X A d true s Y Z){u:Pa}(i:IR X s.heap Y it u)(hk:∀l kvs i,it=.keys l kvs i->Z[l]?=some (.fro kvs)){Q:Pa->Pb->Prop}{E:Pa->Pb->Prop}(h:∀f JJ own s',jI it=true->Cn (X.wb f) A d true s Y Z->JR (X.wb f) s'.heap Y it JJ own->Step (X.wb f) s Y s' Y Z->(∀b∈own,s.heap.objs.size<=b)->a1s X f it Y->Q (.ref JJ) s'):Un (Mo X) A (pyIter u) Q E s:=by
 have one:∀b∈[s.heap.objs.size],s.heap.objs.size<=b:=λb hb=>gw (ze.mp hb ..) (zf _);cases i with
 | @list l a items hl L=>exact wpAny_pyIter_list L (h X.fz _ [s.heap.objs.size] _ rfl c (.list hl ⟨_,yn _ rfl,rfl,rfl⟩) (Step.push c _ s.toks) one λz R=>R)
 | @range a k t u v h1 h2 r=>
  have e:Builtin.Range.rangeSize 0 k 1=(k.toNat:Int):=by
   unfold Builtin.Range.rangeSize;by_cases hk:0<k
   ·exact gw (Ua (by decide) ..) (gw (Ua hk ..) (gw (Int.sub_zero ..) (gw (Int.ediv_one ..) (gw (Int.sub_add_cancel ..) ((Int.toNat_of_nonneg (kn hk)).symm)))))
   ·exact gw (Ua (by decide) ..) (gw (Ub hk ..) (gw (Int.toNat_of_nonpos (kj.mp hk) ..) rfl))
  have f:Builtin.Range.rangeFitsLong k=true:=zz.mpr ⟨Uc (km (by decide) (kn h1)),Uc (ft h2 (by decide))⟩;have g:Builtin.Range.rangeFitsLong k.toNat=true:=zz.mpr ⟨Uc (km (by decide) (zy _)),Uc (vp (xd.mpr (zaw (n:=4611686018427387904).mpr (kn h2))) (by decide))⟩;have hs:Builtin.Range.small 0 k 1=true:=by
   unfold Builtin.Range.small;exact gw e (zz.mpr ⟨zz.mpr ⟨zz.mpr ⟨zz.mpr ⟨rfl,f⟩,rfl⟩,g⟩,Bool.or_eq_true_iff.mpr (.inr ((Uf Builtin.Range.rangeFitsLong (Int.add_zero k)).trans f))⟩)
  refine wpAny_pyIter_range r hs (h X.fz _ [s.heap.objs.size] _ rfl c (.range (yj _) ?_) (Step.push c _ s.toks) one λz R=>R);refine gw e ?_;have:IsRangeIter (s.heap.push { cls:=.type "range_iterator",data:=.fields #[rawInt 0,rawInt (k.toNat:Int),rawInt 1] }) s.heap.objs.size 0 (k.toNat:Int) 1:=yn _ rfl;simpa using this
 | seq x t hz=>
  cases ha:x.cps.all (·<128)
  ·exact wpAny_pyIter_wide ha (h X.fz _ [s.heap.objs.size] _ rfl c (.seq (ty:="str_iterator") hz (.inr rfl) ⟨_,yn _ rfl,rfl,rfl⟩) (Step.push c _ s.toks) one λz R=>R)
  ·exact wpAny_pyIter_ascii ha (h X.fz _ [s.heap.objs.size] _ rfl c (.seq (ty:="str_ascii_iterator") hz (.inl rfl) ⟨_,yn _ rfl,rfl,rfl⟩) (Step.push c _ s.toks) one λz R=>R)
 | @keys l kvs a m ep hl hn D hz rr=>
  have ho:=hk l kvs 0 rfl;have c':Cn (X.wb (X.fr a (m,ep))) A d true s Y Z:=⟨c.rm,c.hr.up hl ho D,c.base.wb,(by obtain ⟨fs,e,q⟩:=c.fs;exact ⟨fs,e,q.wb⟩),c.scr,λb hb=>by
   by_cases hba:b=a
   ·subst hba;exact c.hr.lt (ym hl)
   ·exact c.fz b λq=>hb ((Ub hba).trans q)⟩
  exact wpAny_pyIter_dict (c.noSys hl) D (h _ _ [s.heap.objs.size] _ rfl c' (.keys hl (Ua rfl) rr.keys rr.lim ⟨_,yn _ rfl,rfl,rfl⟩) (Step.push c' _ s.toks) one λhμ R=>R.melt hn (hμ _ _ hl))
noncomputable def zZ(X:W)(C:Calls)(G:GT)(d:Nat)(src:Src):Prop:=
 ∀(cx:Cx) (e:Pg),eX src=true->pE G src cx e->∀(A:Pf) (env:zq) (J:Env) (s:Pb) (Y:List Pd) (Z:H),Cn X A d true s Y Z->FR X env cx J s.heap Y ->
  Sm X (Wp X A (eval e env)) (cX X.ns C J src Z) (λh Y p u=>IR X h Y p.1 u) s Y
set_option tactic.hygienic true in
theorem a5d(c:Cn X A d true s Y Z){v:V}{u:Pa}{p:Nat×Nat}(h:uO v Z=some p)(r:VR X s.heap Y v u):∃a l n,u=.ref a/\Y[p.1]?=some a/\p.2=l.length/\s.heap.get? a=some { cls:=.type "list",data:=.seq (jq l) n }:=by
 cases r <;> first | (cases h;done) | skip
 rename_i i a hi;obtain ⟨xs,h1,h2⟩:=zk.mp h;subst h2;refine ex2 (c.list (gN h1) hi) λl n q_h=>?_;refine an3 q_h λe r z=>?_;exact ⟨a,l,n,rfl,hi,r.length,e⟩
set_option tactic.hygienic true in
theorem a9n{t:E}(h:bL X C G d t):zZ X C G d (.of t):=λcx e z he A env J s Y Z c F=>
 Sm.go (k:=λv=>a4i (a6m v)) c F (h cx e he A env J s Y Z c F) (P2:=λu Q E s=>Q u s) λv Z1 u s1 Y1 c1 F1 S1 r=>by
  refine cM λp hp=>?_;cases r <;> first | (cases hp;done) | skip
  ·rename_i x t hz;cases hp;exact Sm.ok λQ E hQ=>hQ _ _ _ (Step.refl c1.hr c1.base) (.seq x t hz)
  ·rename_i i a hi;obtain ⟨xs,h1,rfl⟩:=zk.mp hp;refine ex2 (c1.list (gN h1) hi) λl n q_h=>?_;refine an3 q_h λe z z=>?_;exact Sm.ok λQ E hQ=>hQ _ _ _ (Step.refl c1.hr c1.base) (.list hi ⟨_,e,rfl,_,rfl⟩)
set_option tactic.hygienic true in
theorem wH(L:Leaf X G C d){t:E}(h:bL X C G d t):zZ X C G d (.range t):=by
 intro cx e _ hT A env J s Y Z c F;refine ex3 (hT) λq x p q_h=>?_;refine an3 q_h λhe hg h1=>?_;subst he;refine (Sm.go (k:=wY) c F (h cx x h1 A env J s Y Z c F) λv Z1 u s1 Y1 c1 F1 S1 r=>?_).imp λQ E h=>oA (fv:=.type "range") L c F hg (by decide +kernel) rfl h1 h;cases r <;> first | exact Sm.stuck | skip
 rename_i k tk;show Sm X _ ((if -4611686018427387904<k/\k<4611686018427387904 then M.ret (It.range 0 k.toNat,k.toNat) else stuck:M (It×Nat)) Z1) _ _ _;refine ic ite_ (λhk=>?_) λz=>?_
 ·exact Sm.ok λQ E hQ=>call_range_1 (hQ _ _ _ (Step.push c1 _ _) (.range hk.1 hk.2 (IsRange.new ..)))
 ·exact Sm.stuck
set_option tactic.hygienic true in
theorem a0g{t:E}(h:bL X C G d t):zZ X C G d (.keys t):=λcx e z he A env J s Y Z c F=>
 Sm.go (k:=a5x) c F (h cx e he A env J s Y Z c F) (P2:=λu Q E s=>Q u s) λv Z1 u s1 Y1 c1 F1 S1 r=>by
  cases r <;> first | exact Sm.stuck | skip
  rename_i l a hl;show Sm X _ (onW l (λkvs=>λZ=>R.ok (It.keys l kvs 0,kvs.length) (Z.set l (.fro kvs))) Z1) _ _ _;refine tE c1 hl λkvs m ho D rr hz=>?_;obtain ⟨ep,D⟩:=D.dictAt;have S2:Step X s1 Y1 s1 Y1 (Z1.set l (.fro kvs)):={ Step.refl c1.hr c1.base with hr:=c1.hr.freeze hl ho };exact Sm.ok (a:=(It.keys l kvs 0,kvs.length)) (Z:=Z1.set l (.fro kvs)) λQ E hQ=>hQ _ _ _ S2 (.keys hl (c1.hr.fz_none hl ho) D hz rr)
theorem sN{α β:Type}{m:M α}{k:α->M β}{b:β}(e:m.bnd k Z=.ok b Z'):∃a Z1,m Z=.ok a Z1/\k a Z1=.ok b Z':=by
 unfold M.bnd at e;split at e
 ·exact ⟨_,_,‹_›,e⟩
 ·cases e
 ·cases e
noncomputable def nk:It->Bool
 | .keys _ _ _=>false
 | _=>true
theorem a9j(v:V)(Z:H):(a6m v Z).all (λw=>nk w.1)=true:=by
 cases v with
 | ref l=>show ((fA Z l).map _).all _=true;cases fA Z l <;> rfl
 | _=>rfl
theorem a1r(v:V)(Z:H):(match wY v Z with | .ok p _=>nk p.1 | _=>true)=true:=by
 cases v with
 | int k=>
  show (match (if -4611686018427387904<k/\k<4611686018427387904 then M.ret (It.range 0 k.toNat,k.toNat) else stuck:M (It×Nat)) Z with | .ok p _=>nk p.1 | _=>true)=true;by_cases hk:-4611686018427387904<k/\k<4611686018427387904
  ·exact gw (Ua hk ..) rfl
  ·exact gw (Ub hk ..) rfl
 | _=>rfl
theorem a1v{v:V}{p:It×Nat}(e:a5x v Z=.ok p Z'):∃l kvs,p.1=.keys l kvs 0/\Z'[l]?=some (.fro kvs):=by
 cases v with
 | ref j=>
  have e:onW j (λkvs=>λZ=>R.ok (It.keys j kvs 0,kvs.length) (Z.set j (.fro kvs))) Z=.ok p Z':=e;unfold onW at e;cases hd:oZ Z j with
  | none=>replace e:=hd▸e;cases e
  | some ks=>
   replace e:=hd▸e;cases e;exact ⟨_,_,rfl,ud (zc.mp (oC hd)).1⟩
 | _=>cases e
theorem a5a{α:Type}{o:Option α}{p:α}(e:bF o Z=.ok p Z'):o=some p:=by
 cases o with
 | none=>cases e
 | some _=>cases e;rfl
set_option tactic.hygienic true in
theorem sS{src:Src}{p:It×Nat}(hs:eX src=true)(e:cX X.ns C J src Z=.ok p Z'):∀l kvs i,p.1=.keys l kvs i->Z'[l]?=some (.fro kvs):=by
 intro l kvs i hp;have no:nk p.1=true->False:=λh=>by replace h:=hp▸h;cases h
 cases src with
 | of t=>
  refine ex2 (sN e) λv Z1 q=>?_;have h:=a9j v Z1;replace h:=(a5a q.2 ..)▸h;exact (no h).elim
 | range t=>
  refine ex2 (sN e) λv Z1 q=>?_;have h:=a1r v Z1;replace h:=q.2▸h;exact (no h).elim
 | keys t=>
  refine ex2 (sN e) λv Z1 q=>?_;refine ex2 (a1v q.2) λl' kvs' q=>?_;cases hp.symm.trans q.1;exact q.2
 | enum t=>cases hs
end
section
variable{X:W}{A:Pf}{d:Nat}{hn:Bool}{s s' s₀:Pb}{Y Y' Y₀:List Pd}{Z Z' Z0:H}{env:zq}{cx cx':Cx}{J:Env}{own:List Pd}{it:It}{JJ:Pd}{C:Calls}{G:GT}{n₀:Nat}
theorem k8(scope:Scope)(F:FR X env cx J s.heap Y):(PySem.relabel scope env).names=Mine.Internal.relabel cx.kinds scope.names:=by
 refine xz λp z=>?_;have hk:env.scope.kind=.function:=F.kind;have hn:env.kindOf p.1=cx.kinds.lookup p.1:=F.kindOf;show (if (p.2 == NameKind.free&&env.scope.kind == ScopeKind.function&&env.kindOf p.1 == some NameKind.cell)=true then (p.1,NameKind.cell) else (p.1,p.2))=_;refine gw hk (gw hn ?_);by_cases h:p.2=.free/\cx.kinds.lookup p.1=some .cell
 ·exact gw (Ua h ..) (gw h.1 (gw h.2 rfl))
 ·exact gw (Ub h ..) (gw (Ub (λq=>h ⟨beq_iff_eq.mp (zz.mp (zz.mp q).1).1,beq_iff_eq.mp (zz.mp q).2⟩) ..) rfl)
noncomputable def dY(env:zq)(l:List (Str×Pi)):List (Str×Pd)->List (Str×Pd):=List.rec (λacc=>acc) (λp z ih acc=>if p.2=.free then ih ((p.1,(env.cells.lookup p.1).getD 0)::acc) else ih acc) l
theorem u7(env:zq)(p:Str×Pi)(r:List (Str×Pi))(acc:List (Str×Pd)){P:List (Str×Pd)->Prop}(h1:p.2=.free->P (dY env r ((p.1,(env.cells.lookup p.1).getD 0)::acc)))(h2:p.2≠.free->P (dY env r acc)):P (dY env (p::r) acc):=by
 show P (if p.2=.free then dY env r ((p.1,(env.cells.lookup p.1).getD 0)::acc) else dY env r acc);by_cases h:p.2=.free
 ·exact gw (Ua h ..) (h1 h)
 ·exact gw (Ub h ..) (h2 h)
theorem w7{scope:Scope}(h:∀n k,(n,k)∈scope.names->k=.free->(env.cells.lookup n).isSome=true):closureFor scope env=pure (dY env scope.names []):=by
 unfold closureFor;have:∀(l:List (Str×Pi)) (acc:List (Str×Pd)),(∀n k,(n,k)∈l->k=.free->(env.cells.lookup n).isSome=true) ->
   (forIn l acc λx (cs:List (Str×Pd))=>(match x with | (name,kind)=>do
    if (kind == NameKind.free)=true then do let a ←cellOf env name;pure (ForInStep.yield ((name,a)::cs)) else pure (ForInStep.yield cs):Sem (ForInStep (List (Str×Pd)))))=pure (dY env l acc):=by
  intro l
  induction l with
  | nil=>intro acc _;rfl
  | cons p r ih=>
   intro acc hl;obtain ⟨n,k⟩:=p;refine gw (zab ..) ?_;show _=pure (if k=.free then dY env r ((n,(env.cells.lookup n).getD 0)::acc) else dY env r acc);by_cases hk:k=.free
   ·subst hk;obtain ⟨a,ha⟩:=uj.mp (hl n .free zm rfl);have hc:cellOf env n=pure a:=by unfold cellOf;exact gw ha rfl
    simp only [beq_self_eq_true,if_true,hc,ha,Option.getD_some];rw [pure_bind,pure_bind];exact ih _ λn k hm=>hl n k (zr _ hm)
   ·have:(k == NameKind.free)=false:=by simpa using hk
    simp only [this,Bool.false_eq_true,if_false,Ub hk];exact gw (pure_bind ..) (ih _ λn k hm=>hl n k (zr _ hm))
 have:=this scope.names [] h;simp only [this];rfl
theorem qD(env:zq)(l:List (Str×Pi))(acc:List (Str×Pd))(x:Str)(c:Pd):(dY env l acc).lookup x=some c->acc.lookup x=some c∨((x,NameKind.free)∈l/\(env.cells.lookup x).getD 0=c):=by
 induction l generalizing acc with
 | nil=>exact .inl
 | cons p r ih=>
  refine u7 env p r acc (P:=λl=>l.lookup x=some c->_) (λhk h=>?_) λz h=>(ih _ h).imp id λq=>⟨zr _ q.1,q.2⟩;rcases ih _ h with h1 | q
  ·have h1:(match x == p.1 with | true=>some ((env.cells.lookup p.1).getD 0) | false=>acc.lookup x)=some c:=h1;cases hx:x == p.1 with
   | true=>
    replace h1:=hx▸h1;obtain rfl:=beq_iff_eq.mp hx;exact .inr ⟨bw hk zm,Option.some.inj h1⟩
   | false=>replace h1:=hx▸h1;exact .inl h1
  ·exact .inr ⟨zr _ q.1,q.2⟩
theorem oJ(env:zq)(l:List (Str×Pi))(acc:List (Str×Pd))(x:Str):((x,NameKind.free)∈l∨(acc.lookup x).isSome=true)->((dY env l acc).lookup x).isSome=true:=by
 induction l generalizing acc with
 | nil=>exact λh=>h.elim (λq=>by cases q) id
 | cons p r ih=>
  intro h;refine u7 env p r acc (P:=λl=>(l.lookup x).isSome=true) (λhk=>ih _ ?_) λhk=>ih _ (h.imp (λq=>(ye.mp q).resolve_left λe=>hk (Uf Prod.snd e).symm) id);refine gw (wj ..) ?_;cases hx:x == p.1 with
  | true=>exact .inr rfl
  | false=>exact h.imp (λq=>(ye.mp q).resolve_left λe=>vg (hx.symm.trans (beq_iff_eq.mpr (Uf Prod.fst e)))) id
theorem fE{outer:List (Str×Pi)}{x:Str}{l:List (Str×Pi)}(hb:y7 outer x l=true)(n:Str)(k:Pi)(h:(n,k)∈l):(k=.free->outer.lookup n=some .cell)/\k≠.cell/\(k=.local->n=x∨n=".0"):=by
 have hb:kOk outer x n k=true:=wt.mp hb _ h;cases k with
 | «local»=>exact ⟨λe=>(by cases e),λe=>(by cases e),λz=>((fi ..).mp hb).imp of_decide_eq_true of_decide_eq_true⟩
 | free=>exact ⟨λz=>of_decide_eq_true hb,λe=>(by cases e),λe=>(by cases e)⟩
 | globalImplicit=>exact ⟨λe=>(by cases e),λe=>(by cases e),λe=>(by cases e)⟩
 | cell=>cases hb
 | globalExplicit=>cases hb
theorem jY{α β:Type}[BEq β][LawfulBEq β]{l:List (β×α)}{n:β}{a:α}(h:l.lookup n=some a):(n,a)∈l:=by
 induction l with
 | nil=>cases h
 | cons p l ih=>
  have h:(match n == p.1 with | true=>some p.2 | false=>l.lookup n)=some a:=h;cases hb:n == p.1 with
  | true=>replace h:=hb▸h;exact beq_iff_eq.mp hb▸Option.some.inj h▸zm
  | false=>replace h:=hb▸h;exact zr _ (ih h)
theorem bZ{α:Type}{l:List (Str×α)}{n:Str}{a:α}(h:l.lookup n=some a):(n,a)∈l:=jY h
theorem i5{α:Type}{l:List (Str×α)}{n:Str}{a:α}(hn:(l.map (·.1)).Nodup)(h:(n,a)∈l):l.lookup n=some a:=by
 induction l with
 | nil=>cases h
 | cons p r ih=>
  obtain ⟨h1,h2⟩:=wg.mp hn;refine gw (wj ..) ?_;rcases ye.mp h with q | q
  ·subst q;exact gw (beq_self_eq_true ..) rfl
  ·exact gw (beq_eq_false_iff_ne.mpr λe=>h1 (show p.1∈r.map (·.1) from e▸List.mem_map_of_mem (f:=(·.1)) q):(n == p.1)=false) (ih h2 q)
theorem vM{f:Str->Pi->Pi}{n:Str}(l:List (Str×Pi)):(l.map λp=>(p.1,f p.1 p.2)).lookup n=(l.lookup n).map (f n):=by
 induction l with
 | nil=>rfl
 | cons p r ih=>
  refine gw (wx ..) (gw (wj ..) (gw (show (p::r).lookup n=_ from wj ..) ?_));cases hx:n == p.1 with
  | true=>exact beq_iff_eq.mp hx▸rfl
  | false=>exact ih
theorem kC{outer:List (Str×Pi)}{l:List (Str×Pi)}{n:Str}{k:Pi}(h:(Mine.Internal.relabel outer l).lookup n=some k):∃k',l.lookup n=some k'/\k=if k'=.free/\outer.lookup n=some .cell then .cell else k':=by obtain ⟨k',e,h⟩:=zk.mp ((vM (f:=λn k=>if k=.free/\outer.lookup n=some .cell then .cell else k) l).symm.trans h);exact ⟨k',e,h.symm⟩
theorem nR{outer:List (Str×Pi)}{l:List (Str×Pi)}{n:Str}{k':Pi}(h:l.lookup n=some k'):(Mine.Internal.relabel outer l).lookup n=some (if k'=.free/\outer.lookup n=some .cell then .cell else k'):=
 (vM (f:=λn k=>if k=.free/\outer.lookup n=some .cell then .cell else k) l).trans (gw h rfl)
theorem FR.comp{x:Str}{sc:Scope}{Cc:Pd}{m:Str->Option Pa}{v:V}{u:Pa}(F:FR X env cx J s.heap Y)(hc:cx.inComp x sc=some cx')(hm:s.heap.Ns Cc m)(hu:m x=some u)(r:VR X s.heap Y v u)(hC:Cc∉Y)(hlow:∀y c,env.cells.lookup y=some c->c≠Cc):FR X (compEnvC sc (dY env sc.names []) Cc env) cx' (J++[some v]) s.heap Y:=by
 unfold Cx.inComp at hc;revert hc;refine ic ite_ (λhq hc=>?_) λt hc=>?_
 ·obtain ⟨h1,q_h⟩:=(hq);refine an5 q_h λh2 h3 h4 h5 t=>?_;cases hc;have hcell:∀y,(Mine.Internal.relabel cx.kinds sc.names).lookup y=some .cell->(y,NameKind.free)∈sc.names/\cx.kinds.lookup y=some .cell:=λy hy=>by
   obtain ⟨k',e,hk⟩:=kC hy;revert hk;refine ic ite_ (λq hk=>?_) λt hk=>?_
   ·obtain ⟨rfl,q2⟩:=q;exact ⟨bZ e,q2⟩
   ·subst hk;exact Ue rfl (fE h2 y _ (bZ e)).2.1
  have hcl:∀y c,(dY env sc.names []).lookup y=some c->env.cells.lookup y=some c:=λy c hy=>by
   rcases qD env sc.names [] y c hy with q | ⟨q1,q2⟩
   ·cases q
   ·obtain ⟨a,ha⟩:=uj.mp (F.cells y ((fE h2 y _ q1).1 rfl));rw [ha] at q2 ⊢;simpa using q2
  exact {
   kind:=h1
   globals:=F.globals
   builtins:=F.builtins
   names:=k8 sc F
   ns:=by
    refine ⟨m,hm,λy k w e1 e2 e3=>?_⟩;obtain ⟨k',e,hk⟩:=kC e1;revert hk;refine ic ite_ (λt hk=>?_) λt hk=>?_
    ·cases hk
    ·subst hk;rcases (fE h2 y _ (bZ e)).2.2 rfl with rfl | rfl
     ·rw [wj] at e2;simp at e2;subst e2;have hl:J.length=cx.n:=F.len;replace e3:=(zv (zf _) ..)▸hl▸e3;simp at e3;subst e3;exact ⟨u,hu,r⟩
     ·rw [wj] at e2;cases hx:((".0":Str) == x) with
      | true=>
       replace e2:=hx▸e2;have hx':=beq_iff_eq.mp hx;have hl:J.length=cx.n:=F.len;simp at e2;rw [←e2,←hl,zv (zf _)] at e3;simp at e3;subst e3;exact ⟨u,hx'▸hu,r⟩
      | false=>rw [hx] at e2;simp [h5] at e2
   cell:=λy k e1 e2=>by
    obtain ⟨q1,q2⟩:=hcell y e1;have hne:y≠x:=by
     rintro rfl;have:=i5 h4 q1;replace this:=h3▸this;cases this
    rw [wj] at e2;have hb:(y == x)=false:=by simpa using hne
    replace e2:=hb▸e2;refine ex2 (F.cell y k q2 e2) λc w q_h=>?_;refine an3 q_h λa1 a2 a3=>?_;obtain ⟨c',hc'⟩:=uj.mp (oJ env sc.names [] y (.inl q1));have:=hcl y c' hc';replace this:=a1▸this;cases this;refine ⟨c,w,hc',a2,λv' hv'=>a3 v' ?_⟩;rw [xn (by rw [F.len];exact F.bound y k e2)] at hv';exact hv'
   cells:=λy e1=>oJ env sc.names [] y (.inl (hcell y e1).1)
   apart:=λy z c e1 e2=>F.apart y z c (hcl y c e1) (hcl z c e2)
   offL:=hC
   offC:=λy c e=>⟨(F.offC y c (hcl y c e)).1,hlow y c (hcl y c e),(F.offC y c (hcl y c e)).2.2⟩
   slots:=λy z k e1 e2=>by
    rw [wj] at e1 e2;cases hy:(y == x) with
    | true=>
     replace e1:=hy▸e1;cases hz:(z == x) with
     | true=>exact gw (beq_iff_eq.mp hy ..) (gw (beq_iff_eq.mp hz ..) rfl)
     | false=>
      replace e2:=hz▸e2;simp at e1;have:=F.bound z k e2
      (first | lia | omega)
    | false=>
     replace e1:=hy▸e1;cases hz:(z == x) with
     | true=>
      replace e2:=hz▸e2;simp at e2;have:=F.bound y k e1
      (first | lia | omega)
     | false=>rw [hz] at e2;exact F.slots y z k e1 e2
   bound:=λy k e=>by
    rw [wj] at e;cases hy:(y == x) with
    | true=>replace e:=hy▸e;simp at e;subst e;exact yv _
    | false=>replace e:=hy▸e;exact xk (F.bound y k e)
   len:=gw (zd ..) (gw (F.len ..) rfl) }
 ·cases hc
end
section
variable{X:W}{A:Pf}{d:Nat}{hn:Bool}{s s' s₀:Pb}{Y Y' Y₀:List Pd}{Z Z' Z0:H}{env:zq}{cx cx':Cx}{J:Env}{own:List Pd}{it:It}{JJ:Pd}{C:Calls}{G:GT}{n₀:Nat}
noncomputable def RlO(X:W):Pe->List Pd->Option V->Option Pa->Prop:=λh Y o q=>match o,q with
 | some x,some u=>VR X h Y x u
 | none,none=>True
 | _,_=>False
noncomputable def yF(X:W)(A:Pf)(ifs:List Pg)(elt:Pg)(cenv:zq):PT (Option Pa):=λQ E s=>
 Un (Mo X) A (forIn ifs true λc r=>if r=true then do let ok ←isTrue c cenv (eval c cenv);pure (ForInStep.yield ok) else pure (ForInStep.yield r))
  (λok s3=>if ok=true then Un (Mo X) A (eval elt cenv) (λy s4=>Q (some y) s4) E s3 else Q none s3) E s
structure CInv(X:W)(s₀:Pb)(Y₀:List Pd)(own:List Pd)(JJ D Cc:Pd)(f:V->M (Option V))(r₀:R (List V))(n:Nat)(s:Pb)(Y:List Pd)(Z:H)(it:It)(acc:List V)(ys:Array Pa)(m:Str->Option Pa):Prop where
 step:Step X s₀ Y₀ s Y Z
 jr:JR X s.heap Y it JJ own
 lst:s.heap.PlainList D ys
 rel:VRs X s.heap Y acc ys.toList
 lim:acc.length<=lim
 ns:s.heap.Ns Cc m
 offD:D∉Y
 offC:Cc∉Y
 go:eH f n it acc Z=r₀
 pl:jI it=true
theorem aHk{h:Pe}{D:Pd}{ys:Array Pa}(l:h.PlainList D ys)(hD:D∉Y):∀b∈[D],iZ h Y b:=λb hb=>by refine gw (ze.mp hb ..) ?_;obtain ⟨n,e⟩:=l;refine ⟨hD,λo e' hS=>?_⟩;replace e':=e▸e';cases e';exact hS.offList (.inl rfl)
theorem qX{h:Pe}{Cc:Pd}{m:Str->Option Pa}(l:h.Ns Cc m)(hC:Cc∉Y):∀b∈[Cc],iZ h Y b:=λb hb=>by refine gw (ze.mp hb ..) ?_;refine ex3 (l) λo es ep q_h=>?_;refine an3 q_h λe hd z=>?_;refine ⟨hC,λo' e' hS=>?_⟩;replace e':=e▸e';cases e';exact hS.2.1 _ _ hd
theorem zM{elt iter:Pg}{x:Str}{px:Pos}{ifs:List Pg}{sc:Scope}{pos:Pos}{D Cc:Pd}{f:V->M (Option V)}{r₀:R (List V)}{cenv:zq}{Rr:Result->Pb->Prop}{n:Nat}{acc:List V}{ys:Array Pa}{m:Str->Option Pa}(c₀:Cn X A d true s₀ Y₀ Z0)(hne:r₀≠.stuck)(hx:cenv.kindOf x=some .local)(hk:cenv.scope.kind=.function)(hl:cenv.locals=Cc)(hown:∀b∈own,s₀.heap.objs.size<=b)(hD:s₀.heap.objs.size<=D)(hC:s₀.heap.objs.size<=Cc)(hDo:D∉own)(hCo:Cc∉own)(hDC:D≠Cc)(hbody:∀v u s Y Z m,Cn X A d true s Y Z->Step X s₀ Y₀ s Y Z->s.heap.Ns Cc m->m x=some u->VR X s.heap Y v u->Cc∉Y->Sm X (yF X A ifs elt cenv) (f v Z) (RlO X) s Y)(hR:∀acc s Y Z ys m,r₀=.ok acc Z->Step X s₀ Y₀ s Y Z->s.heap.PlainList D ys->VRs X s.heap Y acc ys.toList->acc.length<=lim->s.heap.Ns Cc m->D∉Y->Cc∉Y->Rr (.ok .next) s)(h:CInv X s₀ Y₀ own JJ D Cc f r₀ n s Y Z it acc ys m):
  codeAny (Mo X) A (.compLoop (.ListComp elt [⟨.Name x px,iter,ifs,0⟩] sc pos) 0 (.ref JJ) (.ref D) cenv) Rr s:=by
 refine codeAny_compLoop_tests (λn s=>∃Y Z it acc ys m,CInv X s₀ Y₀ own JJ D Cc f r₀ n s Y Z it acc ys m) ?_ n ⟨Y,Z,it,acc,ys,m,h⟩;clear h;rintro n s ⟨Y,Z,it,acc,ys,m,I⟩;have c:=c₀.step I.step;have hgo:=I.go;replace hgo:=(kJ ..)▸hgo;cases hnx:aS it Z with
 | none=>replace hgo:=hnx▸hgo;exact Ue hgo.symm hne
 | some r=>
  refine yD c I.jr I.pl hnx λq s1 hr=>?_;obtain ⟨M1,hr⟩:=hr;have soft1:∀b∈own,iZ s.heap Y b:=λb hb=>(I.jr.priv b hb).isSoft c.hr;have S1:Step X s₀ Y₀ s1 Y Z:=I.step.move M1 soft1 hown c₀.base;have L1:s1.heap.PlainList D ys:=I.lst.at λo e=>M1.keep D o hDo e;have R1:VRs X s1.heap Y acc ys.toList:=M1.vrs soft1 I.rel;have N1:s1.heap.Ns Cc m:=I.ns.at' λo e=>M1.keep Cc o hCo e;cases r with
  | none=>
   cases q with
   | some _=>exact hr.elim
   | none=>
    replace hgo:=hnx▸hgo;exact hR acc s1 Y Z ys m hgo.symm S1 L1 R1 I.lim N1 I.offD I.offC
  | some p=>
   obtain ⟨v,it'⟩:=p;cases q with
   | none=>exact hr.elim
   | some u=>
    obtain ⟨ru,j1⟩:=hr;replace hgo:=hnx▸hgo;cases n with
    | zero=>exact Ue hgo.symm hne
    | succ n=>
     have hgo:gat acc (eH f n it') (f v Z)=r₀:=hgo;refine wpAny_assign_Name (wpAny_storeName_local hx (gw hl N1) (λh₂ hn2 hs2=>?_) (gw hk rfl));rw [hl] at hn2 hs2;have M2:Move [Cc] s1 { s1 with heap:=h₂,toks:=s1.toks+1 }:=⟨λb o hb e=>(hs2.2 b λq=>hb (by simp [q])).trans e,zu hs2.1.symm,rfl,rfl⟩;have soft2:=qX (Y:=Y) N1 I.offC;have S2:Step X s₀ Y₀ { s1 with heap:=h₂,toks:=s1.toks+1 } Y Z:=S1.move M2 soft2 (λb hb=>gw (ze.mp hb ..) hC) c₀.base;have L2:h₂.PlainList D ys:=L1.at λo e=>M2.keep D o (by simpa using hDC) e;have R2:VRs X h₂ Y acc ys.toList:=M2.vrs soft2 R1;have j2:JR X h₂ Y it' JJ own:=j1.keeps (λb hb o e=>M2.keep b o (λhm=>hCo (ze.mp hm▸hb)) e) λz z e=>e;have ru2:VR X h₂ Y v u:=M2.vr soft2 ru;have c2:=c₀.step S2;have hb:=hbody v u _ Y Z _ c2 S2 hn2 (by simp) ru2 I.offC;refine hb (λe=>by replace hgo:=e▸hgo;exact hne hgo.symm) (λq s4=>match q with
      | some x=>Un (Mo X) A (ya (.builtin "list.append") [.ref D,x]) (λz s5=>∃m,m<n+1/\∃Y Z it acc ys m_1,CInv X s₀ Y₀ own JJ D Cc f r₀ m s5 Y Z it acc ys m_1) (notedBy (Mo X) A cenv λe s'=>Rr (Except.error e) s') s4
      | none=>∃m,m<n+1/\∃Y Z it acc ys m_1,CInv X s₀ Y₀ own JJ D Cc f r₀ m s4 Y Z it acc ys m_1) (notedBy (Mo X) A cenv λe s'=>Rr (Except.error e) s') (λo Z3 q s3 Y3 e3 S3 r3=>?_) λk Z3 z z z e3 z z=>by replace hgo:=e3▸hgo;exact Ue hgo.symm hne
     have S03:=S2.trans S3;have L3:s3.heap.PlainList D ys:=by
      obtain ⟨n,e⟩:=L2;exact ⟨n,S3.keep.at I.offD e (by intro _ _ q;cases q)⟩
     have R3:VRs X s3.heap Y3 acc ys.toList:=S3.vrs c2.hr R2;have j3:JR X s3.heap Y3 it' JJ own:=j2.step c2.hr S3;have N3:s3.heap.Ns Cc _:=S3.keep.ns I.offC hn2;have d3:D∉Y3:=S3.notIn I.offD (by obtain ⟨n,e⟩:=L2;exact yc e);have o3:Cc∉Y3:=S3.notIn I.offC hn2.lt;replace hgo:=e3▸hgo;cases o with
     | none=>
      cases q with
      | some _=>exact r3.elim
      | none=>exact ⟨n,yv _,Y3,Z3,it',acc,ys,_,S03,j3,L3,R3,I.lim,N3,d3,o3,hgo,lI hnx I.pl⟩
     | some y=>
      cases q with
      | none=>exact r3.elim
      | some w=>
       have hgo:(if acc.length+1<=lim then eH f n it' (acc++[y]) Z3 else .stuck)=r₀:=hgo;by_cases hlim:acc.length+1<=lim
       ·replace hgo:=(Ua hlim ..)▸hgo;have hys:ys.size<=sizeLine:=bw (yu ..) (bw (R3.length ..) (gu hlim));refine wpAny_list_append_plain (hsz:=hys) L3 λh5 hl5 hs5=>?_;have M5:Move [D] s3 { s3 with heap:=h5 }:=⟨λb o hb e=>(hs5.2 b λq=>hb (by simp [q])).trans e,zu hs5.1.symm,rfl,rfl⟩;have soft5:=aHk (Y:=Y3) L3 d3;refine ⟨n,yv _,Y3,Z3,it',acc++[y],ys.push w,_,S03.move M5 soft5 (λb hb=>gw (ze.mp hb ..) hD) c₀.base,?_,hl5,?_,?_,N3.at' λo e=>M5.keep Cc o (by simpa using Ne.symm hDC) e,d3,o3,hgo,lI hnx I.pl⟩
        ·exact j3.keeps (λb hb o e=>M5.keep b o (λhm=>hDo (ze.mp hm▸hb)) e) λz z e=>e
        ·exact gw (jl ..) ((M5.vrs soft5 R3).append (.cons (M5.vr soft5 r3) .nil))
        ·exact gw (zd ..) hlim
       ·replace hgo:=(Ub hlim ..)▸hgo;exact Ue hgo.symm hne
end
section
variable{X:W}{A:Pf}{d:Nat}{s s' s₀:Pb}{Y Y' Y₀:List Pd}{Z Z' Z0:H}{env:zq}{cx cx':Cx}{J:Env}{own:List Pd}{it:It}{JJ:Pd}{C:Calls}{G:GT}
theorem a8w(j:JR X s.heap Y it JJ own)(hp:jI it=true){Q:Pa->Pb->Prop}{E:Pa->Pb->Prop}(h:Q (.ref JJ) s):Un (Mo X) A (pyIter (.ref JJ)) Q E s:=by
 cases j with
 | list _ e=>exact wpAny_pyIter_listiter e h
 | range _ e=>exact wpAny_pyIter_rangeiter e h
 | seq _ ht e=>rcases ht with rfl | rfl;exact wpAny_pyIter_striter_ascii e h;exact wpAny_pyIter_striter_wide e h
 | keys _ _ _ _ e=>exact wpAny_pyIter_keyiter e h
 | _=>cases hp
theorem Step.adopt{D:Pd}{o:O}(S:Step X s₀ Y₀ s Y Z)(c:Cn X A d true s₀ Y₀ Z0)(hD:D∉Y)(true:s₀.heap.objs.size<=D)(r:OR X s.heap (Y++[D]) D o):Step X s₀ Y₀ s (Y++[D]) (Z++[o]) where
 hr:=S.hr.alloc hD (Classical.byContradiction λq=>Ue (c.fz _ q) (yf.mpr true)) (za c.base.size true) r
 keep:=S.keep
 base:=S.base
 size:=S.size
 ext:=by
  obtain ⟨ν,rfl,h⟩:=S.ext;refine ⟨ν++[D],gw (zh ..) rfl,λa ha=>?_⟩;rcases yh.mp ha with q | q
  ·exact h a q
  ·exact gw (ze.mp q ..) true
 gens:=S.gens
 os:=S.os
noncomputable def oB(ns:List Int)(C:Calls)(J:Env)(elt:E)(cond:Option E)(v:V):M (Option V):=match cond with
 | none=>(evE ns C (J++[some v]) elt).bnd λx=>.ret (some x)
 | some c=>(evE ns C (J++[some v]) c).bnd λt=>match t with
   | .bool true=>(evE ns C (J++[some v]) elt).bnd λx=>.ret (some x)
   | .bool false=>.ret .none
   | _=>stuck
noncomputable def pX(src:Src)(elt:E):Option E->E
 | none=>.comp src elt
 | some c=>.J src elt c
theorem a4f(J:Env)(src:Src)(elt:E)(cond:Option E):evE X.ns C J (pX src elt cond)=(cX X.ns C J src).bnd λp=>(eH (oB X.ns C J elt cond) p.2 p.1 []).bnd (evE.newO' p.1):=by cases cond <;> rfl
theorem a3v{src:Src}{elt:E}{cond:Option E}{e:Pg}(h:T G (pX src elt cond) cx e):∃x px it ifs sc p el cx',e=.ListComp el [⟨.Name x px,it,ifs,0⟩] sc p/\cx.inComp x sc=some cx'/\eX src=true/\pE G src cx it/\T G elt cx' el /\
  ((ifs=[]/\cond=none)∨∃c q,ifs=[c]/\T G q cx' c/\cond=some q):=by
 cases cond with
 | none=>exact ex7 h λx px it sc p el cx' q=>⟨x,px,it,[],sc,p,el,cx',q.1,q.2.1,q.2.2.1,q.2.2.2.1,q.2.2.2.2,.inl ⟨rfl,rfl⟩⟩
 | some t=>exact ex8 h λx px it sc p el ce cx' q=>⟨x,px,it,[ce],sc,p,el,cx',q.1,q.2.1,q.2.2.1,q.2.2.2.1,q.2.2.2.2.1,.inr ⟨ce,t,rfl,q.2.2.2.2.2,rfl⟩⟩
structure SimC(X:W)(C:Calls)(G:GT)(d:Nat)(src:Src)(elt:E)(cond:Option E):Prop where
 i:zZ X C G d src
 e:∀f,bL (X.wb f) C G d elt
 t:∀f q,cond=some q->a7x (X.wb f) C G d q
theorem a1x{elt:Pg}{ifs:List Pg}{cenv:zq}{e:E}{cond:Option E}(hE:bL X C G d e)(hT:∀q,cond=some q->a7x X C G d q)(h4:T G e cx' elt)(h5:(ifs=[]/\cond=none)∨∃c q,ifs=[c]/\T G q cx' c/\cond=some q){v:V}(c:Cn X A d true s Y Z)(F:FR X cenv cx' (J++[some v]) s.heap Y):
  Sm X (yF X A ifs elt cenv) (oB X.ns C J e cond v Z) (RlO X) s Y:=by
 rcases h5 with ⟨rfl,rfl⟩ | ⟨k,q,rfl,h6,rfl⟩
 ·refine (Sm.go c F (hE cx' elt h4 A cenv _ s Y Z c F) (P2:=λu Q E s=>Q (some u) s) λx z u z z c1 F1 z r=>Sm.ok λQ E hQ=>hQ _ _ _ (Step.refl c1.hr c1.base) r).imp λQ E h=>?_;unfold yF;exact gw (List.forIn_nil ..) (Uh h)
 ·have he:oB X.ns C J e (some q) v=((evE X.ns C (J++[some v]) q).bnd asB).bnd λb=>if b then (evE X.ns C (J++[some v]) e).bnd λx=>.ret (some x) else .ret .none:=by
   unfold oB;dsimp only;refine gw (dB ..) ?_;congr 1;funext w;cases w with
   | bool b=>cases b <;> rfl
   | _=>rfl
  refine gw he ?_;refine (Sm.go c F (hT q rfl cx' k h6 A cenv _ s Y Z c F) (P2:=λok Q E s3=>if ok=true then Un (Mo X) A (eval elt cenv) (λy s4=>Q (some y) s4) E s3 else Q none s3) λb Z1 b' s1 Y1 c1 F1 z r=>?_).imp λQ E h=>?_
  ·cases r;cases b with
   | true=>exact Sm.go c1 F1 (hE cx' elt h4 A cenv _ s1 Y1 Z1 c1 F1) (P2:=λu Q E s=>Q (some u) s) λx z u z z c2 F2 z r=>Sm.ok λQ E hQ=>hQ _ _ _ (Step.refl c2.hr c2.base) r
   | false=>exact Sm.ok λQ E hQ=>hQ _ _ _ (Step.refl c1.hr c1.base) trivial
  ·unfold yF;refine gw (zab ..) ?_;simp only [if_true];refine Ug (Ug (Um h (λok s3 h₃=>Uh ?_) λz z x=>x));dsimp only;exact gw (List.forIn_nil ..) (Uh h₃)
theorem oS{src:Src}{e:Pg}(h:pE G src cx e)(env:zq)(x:Pa):foldedSetIterable e env x=pure x:=by
 cases src with
 | of t=>exact T.facts h |>.fold env x
 | range t=>obtain ⟨_,_,_,rfl,_⟩:=h;rfl
 | enum t=>obtain ⟨_,_,_,rfl,_⟩:=h;rfl
 | keys t=>exact T.facts h |>.fold env x
theorem qM(L:Leaf X G C d){elt iter:Pg}{x:Str}{px p pos':Pos}{ifs:List Pg}{sc:Scope}{ti:Src}{e:E}{cond:Option E}(hP:SimC X C G d ti e cond)(c:Cn X A d true s Y Z)(F:FR X env cx J s.heap Y)(hcx:cx.inComp x sc=some cx')(hpl:eX ti=true)(h3:pE G ti cx iter)(h4:T G e cx' elt)(h5:(ifs=[]/\cond=none)∨∃c q,ifs=[c]/\T G q cx' c/\cond=some q){use:Option (Pa->Sem Unit)}{Q:Pa->Pb->Prop}{E:Pa->Pb->Prop}(hne:evE X.ns C J (pX ti e cond) Z≠.stuck)(hfin:∀acc Z' s' Y' D Cc k ys m,evE X.ns C J (pX ti e cond) Z=.ok (.ref Z'.length) (Z'++[.list acc])->Step X s Y s' Y' Z'->s'.heap.get? D=some { cls:=.type "list",data:=.seq ys k }->VRs X s'.heap Y' acc ys.toList->acc.length<=lim->s'.heap.Ns Cc m ->
   D∉Y'->Cc∉Y'->s.heap.objs.size<=D->s.heap.objs.size<=Cc->D≠Cc->compPost (Mo X) A E use Q (.ref D) Cc (.ok .next) s')(hexc:∀k Z' y s' Y',evE X.ns C J (pX ti e cond) Z=.exc k Z'->Step X s Y s' Y' Z'->XR X s.heap k y s'.heap->E y s'):
  Un (Mo X) A (comprehension (.ListComp elt [⟨.Name x px,iter,ifs,0⟩] sc p) sc env pos' (newList []) false (eval iter env) use) Q E s:=by
 rw [a4f] at hne hfin hexc;have hcx':=hcx;unfold Cx.inComp at hcx';revert hcx';refine ic ite_ (λhq hcx'=>?_) λz hcx'=>?_
 ·obtain ⟨q1,q_h⟩:=(hq);refine an5 q_h λq2 q3 q4 q5 z=>?_;refine wpAny_comprehension_free (cl:=dY env sc.names []) rfl (oS h3 env) (w7 λn k hm hk=>F.cells n ((fE q2 n k hm).1 hk)) q1 (λy hy hl=>by
   obtain ⟨n,k⟩:=y;dsimp only at hl;subst hl;exact i5 q4 hy) ?_
  refine hP.i cx iter hpl h3 A env J s Y Z c F (λe=>hne (eJ e)) _ _ (λpr Z1 u s1 Y1 e1 S1 i1=>?_) λk Z1 y s1 Y1 e1 S1 xr=>hexc k Z1 y s1 Y1 (nZ e1) S1 xr;have eq1:=gA (k:=λp:It×Nat=>(eH (oB X.ns C J e cond) p.2 p.1 []).bnd (evE.newO' p.1)) e1;rw [eq1] at hne hfin;have c1:=c.step S1;refine tI c1 i1 (sS hpl e1) λf JJ own s2 hpi c1' j2 S2 hown melt=>?_;have c2:Cn (X.wb f) A d true s2 Y1 Z1:=c1'.step S2;refine wpAny_newObj_type (wpAny_newFunctionEnv (λy hy=>(fE q2 y.1 y.2 hy).2.1) (by intro y hy;simp at hy) (λh₁ hns1 hsb1=>?_) q1);dsimp only at hns1 hsb1 ⊢;generalize hH2:s2.heap.push { cls:=.type "list",dict:=none,data:=.seq ([]:List Pa).toArray }=H2 at hns1 hsb1 ⊢;have hC:H2.objs.size=s2.heap.objs.size+1:=bw hH2 (gw (wk ..) rfl);have hDC:s2.heap.objs.size≠H2.objs.size:=gw hC (yq (yv _));have old:∀b o,s2.heap.get? b=some o->h₁.get? b=some o:=λb o eb=>by
   have hb:=yc eb;exact hsb1.extBut b o (gw hC (yq (xk hb))) (zo _ (hH2▸zo _ eb))
  have hacc:h₁.PlainList s2.heap.objs.size #[]:=⟨_,hsb1.extBut _ _ hDC (zo _ (hH2▸yn _ rfl))⟩;have hsz:s2.heap.objs.size<=h₁.objs.size:=gw (hsb1.1 ..) (gw (wk ..) (gw hC (zt _ 2)));have S03:Step (X.wb f) s1 Y1 { s2 with heap:=h₁,toks:=s2.toks+([]:List (Str×Pa)).length } Y1 Z1:=S2.trans (Step.grow c2 old hsz rfl rfl);have dm:s2.heap.objs.size∉Y1:=λhm=>xg _ (c2.hr.lt hm);have cm:H2.objs.size∉Y1:=λhm=>by have:=c2.hr.lt hm;replace this:=hC▸this;exact xg _ (xl this)
  have F1:FR (X.wb f) env cx J s1.heap Y1:=(F.step c.hr S1).wb;have sz2:s1.heap.objs.size<=s2.heap.objs.size:=S2.size;have loop:codeAny (Mo X) A (.compLoop (.ListComp elt [⟨.Name x px,iter,ifs,0⟩] sc p) 0 (.ref JJ) (.ref s2.heap.objs.size) (compEnvC sc (dY env sc.names []) H2.objs.size env))
    (compPost (Mo X) A E use Q (.ref s2.heap.objs.size) H2.objs.size) { s2 with heap:=h₁,toks:=s2.toks+([]:List (Str×Pa)).length }:=by
   refine zM (X:=X.wb f) (s₀:=s1) (Y₀:=Y1) (own:=own) (it:=pr.1) (n:=pr.2) (acc:=[]) (ys:=#[]) (D:=s2.heap.objs.size) (Cc:=H2.objs.size) (f:=oB X.ns C J e cond) (r₀:=eH (oB X.ns C J e cond) pr.2 pr.1 [] Z1) c1'
    (λq=>hne (by unfold M.bnd;exact gw q rfl)) ?_ q1 rfl hown sz2 (gw hC (zn sz2)) (λhm=>?_) (λhm=>?_) hDC (λv u s' Y' Z' m c' S' n' hm' r' hC'=>?_) (λacc s' Y' Z' ys m e' S' l' r' z' n' d' hCm=>?_)
    ⟨S03,j2.keeps (λb z o eb=>old b o eb) λz z e=>e,hacc,.nil,yj _,hns1,dm,cm,rfl,hpi⟩
   ·show (PySem.relabel sc env).names.lookup x=some .local;exact gw (k8 sc F ..) (gw (nR q3 ..) rfl)
   ·exact xg _ ((j2.priv _ hm).lt)
   ·have:=(j2.priv _ hm).lt;replace this:=hC▸this;exact xg _ (xl this)
   ·refine a1x (hP.e f) (hP.t f) h4 h5 c' ((F1.step c1'.hr S').comp hcx n' hm' r' hC' λy cc hy=>?_);have:=(F1.offC y cc hy).2.2;exact gw hC (yq (xk (zj this sz2)))
   ·obtain ⟨k,el⟩:=l';exact hfin acc (thaw pr.1 Z') s' Y' _ _ k ys m (gw (gA e' ..) rfl) (S1.trans (melt.step S')) el (VRs.wb (X:=X.wb f) (f:=X.fz) r') z' n' d' hCm (za S1.size sz2) (gw hC (zn (za S1.size sz2))) hDC
  exact codeAny_compStart_list loop (a8w (j2.keeps (λb z o eb=>old b o eb) λz z e=>e) hpi loop)
 ·cases hcx'
theorem oD(L:Leaf X G C d){src:Src}{elt:E}{cond:Option E}(hC:SimC X C G d src elt cond):bL X C G d (pX src elt cond):=by intro cx e he A env J s Y Z c F;refine ex8 (a3v he) λx px iter ifs sc p el cx' q_h=>?_;refine an6 q_h λq_8 hcx hpl h3 h4 h5=>?_;obtain rfl:=q_8;intro hne Q E hQ hE';refine qM L hC c F hcx hpl h3 h4 h5 hne (λacc Z' s' Y' D Cc k ys m e' S' el r' z' n' d' hCm hD hC hDC=>?_) hE';refine ⟨m,n',λh' hs'=>?_⟩;have M1:Move [Cc] s' { s' with heap:=h' }:=⟨λb o hb e=>(hs'.2 b λq=>hb (by simp [q])).trans e,zu hs'.1.symm,rfl,rfl⟩;have S1':Step X s Y { s' with heap:=h' } Y' Z':=S'.move M1 (qX n' hCm) (λb hb=>gw (ze.mp hb ..) hC) c.base;have el':h'.get? D=some { cls:=.type "list",data:=.seq ys k }:=M1.keep _ _ (by simpa using hDC) el;have rr:VRs X h' Y' acc ys.toList:=M1.vrs (qX n' hCm) r';refine hQ (.ref Z'.length) (Z'++[.list acc]) _ _ (Y'++[D]) e' (S1'.adopt c d' hD (.list (l:=ys.toList) (n:=k) (by simpa using el') (bw (rr.length ..) z') (rr.mono (λz z e z=>e) fV))) (.ref ?_);refine bw (S1'.hr.len ..) (gw (zv (zf _) ..) ?_);simp
end
section
variable{X:W}{A:Pf}{d:Nat}{C:Calls}{G:GT}
noncomputable def yQ(X:W)(C:Calls)(G:GT)(d:Nat):Src->Prop
 | .of t=>bL X C G d t
 | .range t=>bL X C G d t
 | .enum t=>bL X C G d t
 | .keys t=>bL X C G d t
theorem yQ.i(L:Leaf X G C d){src:Src}(h:yQ X C G d src):zZ X C G d src:=by
 cases src with
 | of t=>exact a9n h
 | range t=>exact wH L h
 | keys t=>exact a0g h
 | _=>exact λz z h=>by cases h
noncomputable abbrev Fz:=Pd->Option (List (Str×Pa)×Nat)
mutual
theorem aR(L:∀f,Leaf (X.wb f) G C d):∀(t:E) (f:Fz),Sim (X.wb f) C G d t
 | .k v,f=>.plain (yT v) rfl
 | .con v,f=>.plain (a9w (L f) v) rfl
 | .v k,f=>.plain (a7c k) rfl
 | .o op a b,f=>.plain (a7u (aR L a f).ev (aR L b f).ev) rfl
 | .not a,f=>aAc (aR L a f)
 | .neg a,f=>.plain (a8z (aR L a f).ev) rfl
 | .and es,f=>aAg (dS L es f)
 | .or es,f=>aDd (dS L es f)
 | .g op a b,f=>a7z (aR L a f).ev (aR L b f).ev
 | .cmp2 op op' a b c,f=>a3z (aR L a f).ev (aR L b f).ev (aR L c f).ev
 | .new k es,f=>.plain (a8y (L f) (dS L es f)) rfl
 | .u a m es,f=>.plain (a1h (L f) (aR L a f).ev (dS L es f)) rfl
 | .attr a x,f=>.plain (a5w (L f) (aR L a f).ev) rfl
 | .mm mx a b,f=>.plain (aCd (L f) (aR L a f).ev (aR L b f).ev) rfl
 | .call j es,f=>.plain (a2f (L f) (dS L es f)) rfl
 | .bi b a,f=>.plain (aCe (L f) (aR L a f).ev) rfl
 | .isi a t,f=>.plain (a9g (L f) (aR L a f).ev) rfl
 | .me a m es,f=>.plain (aCt (L f) (aR L a f).ev (dS L es f)) rfl
 | .i a i,f=>.plain (a8m (aR L a f).ev (aR L i f).ev) rfl
 | .slice a lo hi,f=>.plain (a0w (aR L a f).ev (aR L lo f).ev (aR L hi f).ev) rfl
 | .nil,f=>.plain (λz z h=>h.elim) rfl
 | .list es,f=>.plain (a3x (dS L es f)) rfl
 | .tup es,f=>.plain (a7p (dS L es f)) rfl
 | .dict0,f=>.plain z7 rfl
 | .dict ks es,f=>.plain (a4d (dS L es f)) rfl
 | .comp src elt,f=>.plain (oD (L f) (cond:=none) ⟨(gR L src f).i (L f),λg=>(aR L elt g).ev,λz z h=>by cases h⟩) rfl
 | .J src elt c,f=>.plain (oD (L f) (cond:=some c) ⟨(gR L src f).i (L f),λg=>(aR L elt g).ev,λg z h=>Option.some.inj h▸(aR L c g).tr⟩) rfl
theorem dS(L:∀f,Leaf (X.wb f) G C d):∀(ts:List E) (f:Fz),kW (X.wb f) C G d ts
 | [],_=>trivial
 | t::ts,f=>⟨aR L t f,dS L ts f⟩
theorem gR(L:∀f,Leaf (X.wb f) G C d):∀(src:Src) (f:Fz),yQ (X.wb f) C G d src
 | .of t,f=>(aR L t f).ev
 | .range t,f=>(aR L t f).ev
 | .enum t,f=>(aR L t f).ev
 | .keys t,f=>(aR L t f).ev
end
end
noncomputable def Own(env:zq)(b:Pd):Prop:=b=env.locals∨∃x,env.cells.lookup x=some b
structure Lo(X:W)(env:zq):Prop where
 l:X.h₀.objs.size<=env.locals
 c:∀x a,env.cells.lookup x=some a->X.h₀.objs.size<=a
theorem Lo.own{X:W}{env:zq}(lo:Lo X env){b:Pd}(h:Own env b):X.h₀.objs.size<=b:=by
 rcases h with rfl | ⟨x,h⟩
 ·exact lo.l
 ·exact lo.c x b h
structure StepE(X:W)(env:zq)(s:Pb)(Y:List Pd)(s':Pb)(Y':List Pd)(Z':H):Prop where
 hr:HR X Y' Z' s'.heap
 keep:∀b o,b∉Y->¬Own env b->s.heap.get? b=some o->∃sl,s'.heap.get? b=some { o with slots:=sl }/\((∀es n,o.data≠.dict es n)->sl=o.slots)
 base:Base X s'.heap
 size:s.heap.objs.size<=s'.heap.objs.size
 ext:∃ν,Y'=Y++ν/\∀a∈ν,s.heap.objs.size<=a
 gens:s'.gens=s.gens
 os:s'.os=s.os
 pers:∀b,s'.heap.get? b=none->s.heap.get? b=none
inductive FlR (X:W) (h:Pe) (Y:List Pd):Fl->Flow->Prop
 | next:FlR X h Y .next .next
 | ret {v:V}{u:Pa}:VR X h Y v u->FlR X h Y (.ret v) (.ret u)
noncomputable def XS(X:W)(env:zq)(g:Pe)(c:Nat)(e:Pa)(h:Pe):Prop:=∃a fl,e=.ref a/\Fly g (.ref (X.ca c)) a fl h/\(fl=none∨fl=some .none∨∃L,env.frame=some L/\fl=some (rawInt L))
theorem XS.le{X:W}{env:zq}{g g':Pe}{c:Nat}{e:Pa}{h:Pe}(x:XS X env g c e h)(l:∀b,g.get? b=none->g'.get? b=none):XS X env g' c e h:=by obtain ⟨a,fl,h1,h2,h3⟩:=x;exact ⟨a,fl,h1,h2.le l,h3⟩
theorem XR.s{X:W}{env:zq}{g:Pe}{c:Nat}{e:Pa}{h:Pe}(x:XR X g c e h):XS X env g c e h:=by obtain ⟨a,h1,h2⟩:=x;exact ⟨a,_,h1,h2,.inr (.inl rfl)⟩
noncomputable def SmS(X:W)(env:zq)(cx:Cx)(P:PT Flow)(r:RS)(s:Pb)(Y:List Pd):Prop:=
 r≠.stuck->∀Q E,(∀f J' Z' fl s' Y',r=.ok f J' Z'->StepE X env s Y s' Y' Z'->FR X env cx J' s'.heap Y'->FlR X s'.heap Y' f fl->Q fl s') ->
  (∀c J' Z' e s' Y',r=.exc c J' Z'->StepE X env s Y s' Y' Z'->FR X env cx J' s'.heap Y'->XS X env s.heap c e s'.heap->E e s')->P Q E s
section
variable{X:W}{A:Pf}{d:Nat}{hn:Bool}{s s' s'' s₀:Pb}{Y Y' Y'' Y₀:List Pd}{Z Z' Z'' Z0:H}{env:zq}{cx cx':Cx}{J J':Env}{C D:Calls}{G:GT}
theorem Step.e(S:Step X s Y s' Y' Z'):StepE X env s Y s' Y' Z':=⟨S.hr,λb o hb z e=>S.keep b o hb e,S.base,S.size,S.ext,S.gens,S.os,S.pers⟩
theorem StepE.trans(S:StepE X env s Y s' Y' Z')(S':StepE X env s' Y' s'' Y'' Z''):StepE X env s Y s'' Y'' Z'':=by
 obtain ⟨ν,rfl,hν⟩:=S.ext;obtain ⟨ν',rfl,hν'⟩:=S'.ext;refine ⟨S'.hr,λb o hb hO e=>?_,S'.base,za S.size S'.size,⟨ν++ν',gw (zh ..) rfl,λa ha=>?_⟩,S'.gens.trans S.gens,S'.os.trans S.os,λb h=>S.pers b (S'.pers b h)⟩
 ·obtain ⟨sl,e1,q1⟩:=S.keep b o hb hO e;have hb':b∉Y++ν:=λhm=>by
   rcases yh.mp hm with h1 | h1
   ·exact hb h1
   ·exact Ue (yc e) (yf.mpr (hν b h1))
  obtain ⟨sl',e2,q2⟩:=S'.keep b _ hb' hO e1;exact ⟨sl',e2,λhd=>(q2 hd).trans (q1 hd)⟩
 ·rcases yh.mp ha with h1 | h1
  ·exact hν a h1
  ·exact za S.size (hν' a h1)
theorem StepE.get(S:StepE X env s Y s' Y' Z'):∀(i:Nat) (a:Pd),Y[i]?=some a->Y'[i]?=some a:=by obtain ⟨ν,rfl,_⟩:=S.ext;exact fV
theorem StepE.notIn(S:StepE X env s Y s' Y' Z'){b:Pd}(hb:b∉Y)(hl:b<s.heap.objs.size):b∉Y':=by
 obtain ⟨ν,rfl,hν⟩:=S.ext;intro hm;rcases yh.mp hm with h1 | h1
 ·exact hb h1
 ·exact Ue hl (yf.mpr (hν b h1))
noncomputable def gU(A:Pf)(env:zq):Prop:=env.frame=some env.locals/\∃outer,A.frames=some (env::outer)/\∀e∈outer,∀L,e.frame=some L->¬Own env L
theorem gU.all{A:Pf}{env:zq}(h:gU A env){fs:List zq}(e:A.frames=some fs):∀x∈fs,∀L,x.frame=some L->L=env.locals∨¬Own env L:=λx hx L hL=>by
 obtain ⟨h1,outer,h2,h3⟩:=h;replace e:=h2▸e;cases e;rcases ye.mp hx with rfl | hx
 ·left;replace hL:=h1▸hL;cases hL;rfl
 ·exact .inr (h3 x hx L hL)
theorem StepE.ff(S:StepE X env s Y s' Y' Z')(F:FR X env cx J' s'.heap Y'){l:List zq}(ho:∀e∈l,∀L,e.frame=some L->L=env.locals∨¬Own env L)(f:FF X s.heap Y l):FF X s'.heap Y' l:=λe he=>by
 cases f e he with
 | mk a e1 e2 e3 e4 e5=>
  rcases ho e he _ e1 with q | q
  ·obtain ⟨m,⟨o',es',ep',k1,k2,_⟩,_⟩:=F.ns;subst q;exact ⟨a,e1,e2,F.offL,k1,k2⟩
  ·obtain ⟨sl,k1,_⟩:=S.keep _ _ e3 q e4;exact ⟨a,e1,e2,S.notIn e3 (yc e4),k1,e5⟩
theorem Cn.stepE(c:Cn X A d hn s Y Z)(S:StepE X env s Y s' Y' Z')(F:FR X env cx J' s'.heap Y')(ho:gU A env):Cn X A d hn s' Y' Z':=
 ⟨c.rm,S.hr,S.base,(by obtain ⟨fs,e,f⟩:=c.fs;exact ⟨fs,e,S.ff F (ho.all e) f⟩),c.scr,λa h=>zj (c.fz a h) S.size⟩
theorem StepE.of_move{a:Pd}(c:Cn X A d hn s Y Z)(m:Move [a] s s')(ha:Own env a)(lo:Lo X env)(hs:iZ s.heap Y a)(hx:∃o,s'.heap.get? a=some o):StepE X env s Y s' Y Z where
 pers:=λb hb=>by
  cases e:s.heap.get? b with
  | none=>rfl
  | some o=>
   by_cases q:b=a
   ·subst q;obtain ⟨o',e'⟩:=hx;replace e':=hb▸e';cases e'
   ·replace hb:=(m.keep b o (by simpa using q) e ..)▸hb;cases hb
 hr:=m.hr (λb hb=>gw (ze.mp hb ..) hs) c.hr
 keep:=λb o z hO e=>⟨o.slots,m.keep b o (λhm=>hO (ze.mp hm▸ha)) e,λz=>rfl⟩
 base:=⟨λb o e=>m.keep b o (λhm=>Ue (yc e) (yf.mpr (ze.mp hm▸lo.own ha))) (c.base.keep b o e),za c.base.size m.size,c.base.low⟩
 size:=m.size
 ext:=⟨[],by simp,λz h=>by cases h⟩
 gens:=m.gens
 os:=m.os
theorem lV{k j:Nat}{v w:V}(hk:k<J.length)(h:(J.set k (some v))[j]?=some (some w)):(j=k/\w=v)∨(j≠k/\J[j]?=some (some w)):=by
 by_cases hj:k=j
 ·subst hj;replace h:=(ud hk ..)▸h;cases h;exact .inl ⟨rfl,rfl⟩
 ·replace h:=(wo hj ..)▸h;exact .inr ⟨λe=>hj e.symm,h⟩
theorem iQ(c:Cn X A d hn s Y Z)(F:FR X env cx J s.heap Y)(lo:Lo X env){x:Str}{k:Nat}(hk:cx.slot x=some k){v:V}{u:Pa}(r:VR X s.heap Y v u){Q:Unit->Pb->Prop}{E:Pa->Pb->Prop}(h:∀s',StepE X env s Y s' Y Z->FR X env cx (J.set k (some v)) s'.heap Y->(∀{v:V}{u:Pa},VR X s.heap Y v u->VR X s'.heap Y v u)->Q () s'):Un (Mo X) A (storeName env x u) Q E s:=by
 obtain ⟨hk,hkd | hkd⟩:=lL hk
 ·obtain ⟨m,n,hm⟩:=F.ns;have hkl:k<J.length:=gw (F.len ..) (F.bound x k hk);refine wpAny_storeName_local (gw (F.kindOf ..) hkd) n (λh' hn' hs'=>?_) (gw (F.kind ..) rfl);have hsf:iZ s.heap Y env.locals:=qX n F.offL _ (ze.mpr rfl);have M:Move [env.locals] s { s with heap:=h',toks:=s.toks+1 }:=⟨λb o hb e=>(hs'.2 b λq=>hb (by simp [q])).trans e,zu hs'.1.symm,rfl,rfl⟩;have sf:∀b∈[env.locals],iZ s.heap Y b:=λb hb=>gw (ze.mp hb ..) hsf;refine h _ (.of_move c M (.inl rfl) lo hsf (by obtain ⟨o,_,_,e,_⟩:=hn';exact ⟨o,e⟩)) { F with
   ns:=⟨_,hn',λy j w e1 e2 e3=>?_⟩
   cell:=λy j e1 e2=>?_
   offC:=λy cc e=>⟨(F.offC y cc e).1,(F.offC y cc e).2.1,zj (F.offC y cc e).2.2 M.size⟩
   len:=by refine gw (jg ..) ?_;exact F.len } (λr=>M.vr sf r)
  ·rcases lV hkl e3 with ⟨rfl,rfl⟩ | ⟨hne,e4⟩
   ·have:y=x:=F.slots y x j e2 hk;subst this;exact ⟨u,by simp,M.vr sf r⟩
   ·obtain ⟨w',a1,a2⟩:=hm y j w e1 e2 e4;have hyx:y≠x:=λq=>by subst q;replace e2:=hk▸e2;cases e2;exact hne rfl
    exact ⟨w',gw (Ub hyx ..) a1,M.vr sf a2⟩
  ·refine ex2 (F.cell y j e1 e2) λcc w q_h=>?_;refine an3 q_h λa1 a2 a3=>?_;refine ⟨cc,w,a1,a2.sameBut hs' ((F.offC y cc a1).2.1),λv' hv'=>?_⟩;rcases lV hkl hv' with ⟨rfl,rfl⟩ | ⟨hne,e4⟩
   ·have:y=x:=F.slots y x j e2 hk;subst this;replace e1:=hkd▸e1;cases e1
   ·obtain ⟨z,b1,b2⟩:=a3 v' e4;exact ⟨z,b1,M.vr sf b2⟩
 ·have hkl:k<J.length:=gw (F.len ..) (F.bound x k hk);refine ex2 (F.cell x k hkd hk) λcc w q_h=>?_;refine an3 q_h λa1 a2 a3=>?_;refine wpAny_storeName_cell F.kind (gw (F.kindOf ..) hkd) a1 a2 λh' hc' hs'=>?_;have hsf:iZ s.heap Y cc:=⟨(F.offC x cc a1).1,λo e hS=>by
   obtain ⟨o',e',hd⟩:=a2;replace e':=e▸e';cases e';exact hS.2.2 _ hd⟩
  have M:Move [cc] s { s with heap:=h' }:=⟨λb o hb e=>(hs'.2 b λq=>hb (by simp [q])).trans e,zu hs'.1.symm,rfl,rfl⟩;have sf:∀b∈[cc],iZ s.heap Y b:=λb hb=>gw (ze.mp hb ..) hsf;obtain ⟨m,n,hm⟩:=F.ns;refine h _ (.of_move c M (.inr ⟨x,a1⟩) lo hsf (by obtain ⟨o,e,_⟩:=hc';exact ⟨o,e⟩)) { F with
   ns:=⟨m,n.sameBut hs' (Ne.symm (F.offC x cc a1).2.1),λy j w' e1 e2 e3=>?_⟩
   cell:=λy j e1 e2=>?_
   offC:=λy c' e=>⟨(F.offC y c' e).1,(F.offC y c' e).2.1,zj (F.offC y c' e).2.2 M.size⟩
   len:=by refine gw (jg ..) ?_;exact F.len } (λr=>M.vr sf r)
  ·rcases lV hkl e3 with ⟨rfl,rfl⟩ | ⟨hne,e4⟩
   ·have:y=x:=F.slots y x j e2 hk;subst this;replace e1:=hkd▸e1;cases e1
   ·obtain ⟨w2,b1,b2⟩:=hm y j w' e1 e2 e4;exact ⟨w2,b1,M.vr sf b2⟩
  ·refine ex2 (F.cell y j e1 e2) λc2 w2 q_h=>?_;refine an3 q_h λb1 b2 b3=>?_;by_cases hyx:y=x
   ·subst hyx;replace b1:=a1▸b1;cases b1;replace e2:=hk▸e2;cases e2;refine ⟨cc,some u,a1,hc',λv' hv'=>?_⟩;rcases lV hkl hv' with ⟨_,rfl⟩ | ⟨hne,_⟩
    ·exact ⟨u,rfl,M.vr sf r⟩
    ·exact Ue rfl hne
   ·have hcc:c2≠cc:=λq=>hyx (F.apart y x cc (q▸b1) a1);refine ⟨c2,w2,b1,b2.sameBut hs' hcc,λv' hv'=>?_⟩;rcases lV hkl hv' with ⟨rfl,rfl⟩ | ⟨hne,e4⟩
    ·exact Ue (F.slots y x j e2 hk) hyx
    ·obtain ⟨z,d1,d2⟩:=b3 v' e4;exact ⟨z,d1,M.vr sf d2⟩
theorem SmS.mono{P P':PT Flow}{r:RS}(h:SmS X env cx P r s Y)(hp:∀Q E,P Q E s->P' Q E s):SmS X env cx P' r s Y:=λhne Q E hQ hE=>hp Q E (h hne Q E hQ hE)
theorem FF.all{h:Pe}{l:List zq}(f:FF X h Y l)(b:Pd)(hb:b∈l.filterMap (·.frame)):X.h₀.get? b=none/\b∉Y/\∃o es n,h.get? b=some o/\o.data=.dict es n:=by
 obtain ⟨e,he,hb⟩:=jh.mp hb;cases f e he with
 | mk _ k1 k2 k3 k4 k5=>
  obtain rfl:=Option.some.inj (k1.symm.trans hb);exact ⟨k2,k3,_,_,_,k4,k5⟩
structure FrIn(X:W)(fr:List Pd)(h:Pe)(Y:List Pd):Prop where
 all:∀b∈fr,X.h₀.get? b=none/\b∉Y/\∃o es n,h.get? b=some o/\o.data=.dict es n
theorem Eff.solid{g:Pe}{fr:List Pd}{h h':Pe}(ef:Eff g fr h h')(hf:FrIn X fr h Y):∀a o,h.get? a=some o->iO o->∃o',h'.get? a=some o'/\oP o o':=λa o e hS=>ef.like a o (λhm=>by obtain ⟨_,_,o',es,n',e',hd⟩:=hf.all a hm;replace e':=e▸e';cases e';exact hS.2.1 _ _ hd) e
theorem Eff.hr{g:Pe}{fr:List Pd}{h h':Pe}(ef:Eff g fr h h')(hf:FrIn X fr h Y)(R:HR X Y Z h):HR X Y Z h' where
 len:=R.len
 nodup:=R.nodup
 fresh:=R.fresh
 obj:=λi o a e1 e2=>by
  have same:∀x,h.get? a=some x->(∀fs,x.data≠.fields fs)->h'.get? a=some x:=λx e hx=>by
   obtain ⟨o',e',l⟩:=ef.like a _ (λhm=>(hf.all a hm).2.1 (ym e2)) e;rcases l with rfl | ⟨_,_,q,_⟩
   ·exact e'
   ·exact Ue q (hx _)
  cases R.obj i o a e1 e2 with
  | list e z r=>exact .list (same _ e λw q=>by cases q) z (r.each λx=>x.like (ef.solid hf) λw w e=>e)
  | dict e z r=>exact ex3 e λod es ep q=>.dict ⟨od,es,ep,same _ q.1 (λw q1=>by cases q.2.2.1.symm.trans q1),q.2⟩ z (r.like λx=>x.each λy=>y.like (ef.solid hf) λw w e=>e)
  | fro e z r f=>exact ex3 e λod es ep q=>.fro ⟨od,es,ep,same _ q.1 (λw q1=>by cases q.2.2.1.symm.trans q1),q.2⟩ z (r.like λx=>x.each λy=>y.like (ef.solid hf) λw w e=>e) λp hp=>ex2 (f p hp) λod es q=>⟨od,es,same _ q.1 (λw q1=>by cases q.2.2.1.symm.trans q1),q.2⟩
 fro:=R.fro
theorem Eff.fr{g:Pe}{fr:List Pd}{h':Pe}(ef:Eff g fr s.heap h')(hf:FrIn X fr s.heap Y)(hl:env.locals∈fr)(F:FR X env cx J s.heap Y):FR X env cx J h' Y:={ F with
 ns:=by
  obtain ⟨m,⟨o,es,ep,e,hd,rr⟩,hm⟩:=F.ns;obtain ⟨sl,e'⟩:=ef.fram _ o hl e;exact ⟨m,⟨_,es,ep,e',hd,rr⟩,λx k v h1 h2 h3=>by obtain ⟨u,a,b⟩:=hm x k v h1 h2 h3;exact ⟨u,a,b.like (ef.solid hf) λz z e=>e⟩⟩
 cell:=λx k h1 h2=>by
  refine ex2 (F.cell x k h1 h2) λcc u q_h=>?_;refine an3 q_h λa q_3 dd=>?_;obtain ⟨o,e,hd⟩:=q_3;obtain ⟨o',e',l⟩:=ef.like cc o (λhm=>by
   obtain ⟨_,_,o'',es,n',e'',hd'⟩:=hf.all cc hm;replace e'':=e▸e'';cases e'';replace hd':=hd▸hd';cases hd') e
  rcases l with rfl | ⟨_,_,q,_⟩
  ·exact ⟨cc,u,a,⟨_,e',hd⟩,λv hv=>by obtain ⟨y,p,q⟩:=dd v hv;exact ⟨y,p,q.like (ef.solid hf) λz z e=>e⟩⟩
  ·replace q:=hd▸q;cases q
 offC:=λx cc h=>⟨(F.offC x cc h).1,(F.offC x cc h).2.1,zj (F.offC x cc h).2.2 ef.size⟩ }
theorem StepE.eff{fr:List Pd}{h':Pe}(S:StepE X env s₀ Y₀ s Y Z)(ef:Eff s₀.heap fr s.heap h')(hf:FrIn X fr s.heap Y)(hB:Base X s₀.heap):StepE X env s₀ Y₀ { s with heap:=h' } Y Z where
 pers:=λb hb=>S.pers b (by
  cases e:s.heap.get? b with
  | none=>rfl
  | some o=>
   by_cases hm:b∈fr
   ·obtain ⟨sl,e'⟩:=ef.fram b o hm e;have hb':h'.get? b=none:=hb;replace e':=hb'▸e';cases e'
   ·obtain ⟨o',e',_⟩:=ef.like b o hm e;have hb':h'.get? b=none:=hb;replace e':=hb'▸e';cases e')
 hr:=ef.hr hf S.hr
 keep:=λb o hb hO e=>by
  obtain ⟨sl,e1,q⟩:=S.keep b o hb hO e;by_cases hm:b∈fr
  ·obtain ⟨sl',e2⟩:=ef.fram b _ hm e1;refine ⟨sl',e2,λhd=>?_⟩;obtain ⟨_,_,o',es,n',e',hd'⟩:=hf.all b hm;replace e':=e1▸e';cases e';exact Ue hd' (hd _ _)
  ·exact ⟨sl,ef.old b _ _ e hm e1,q⟩
 base:=⟨λb o e=>ef.old b o _ (hB.keep b o e) (λhm=>by replace e:=((hf.all b hm).1 ..)▸e;cases e) (S.base.keep b o e),za S.base.size ef.size,S.base.low⟩
 size:=za S.size ef.size
 ext:=S.ext
 gens:=S.gens
 os:=S.os
theorem FF.eff{g:Pe}{fr:List Pd}{h h':Pe}(ef:Eff g fr h h'){l:List zq}(hs:∀b∈l.filterMap (·.frame),b∈fr)(f:FF X h Y l):FF X h' Y l:=λe he=>by
 cases f e he with
 | mk a k1 k2 k3 k4 k5=>
  obtain ⟨sl,e'⟩:=ef.fram _ _ (hs _ (jh.mpr ⟨e,he,k1⟩)) k4;exact ⟨a,k1,k2,k3,e',k5⟩
theorem tB{g:Pe}{k:Nat}{e:Pa}(c:Cn X A d hn s Y Z)(F:FR X env cx J s.heap Y)(ho:gU A env)(S:StepE X env s₀ Y₀ s Y Z)(hB:Base X s₀.heap)(hz:g=s₀.heap)(x:XS X env g k e s.heap){Q:Unit->Pb->Prop}{E:Pa->Pb->Prop}(h:∀s' a,e=.ref a->StepE X env s₀ Y₀ s' Y Z->FR X env cx J s'.heap Y->Cn X A d hn s' Y Z->Fly g (.ref (X.ca k)) a (some (rawInt env.locals)) s'.heap->Q () s'):Un (Mo X) A (noteFrame e env) Q E s:=by
 obtain ⟨hl,outer,hfr,_⟩:=ho;obtain ⟨fs,e1,hff⟩:=c.fs;replace e1:=hfr▸e1;cases e1;refine ex2 (x) λa fl q_h=>?_;refine an3 q_h λq_2 f hfl=>?_;obtain rfl:=q_2;subst hz;have hin:FrIn X ((env::outer).filterMap (·.frame)) s.heap Y:=⟨hff.all⟩;have hlm:env.locals∈(env::outer).filterMap (·.frame):=jh.mpr ⟨env,zm,hl⟩;refine a3t hfr hff.fun hl S.size f ?_ λh' ef f'=>?_
 ·rcases hfl with h1 | h1 | ⟨L,h1,h2⟩
  ·exact .inl h1
  ·exact .inr (.inl h1)
  ·replace h1:=hl▸h1;cases h1;exact .inr (.inr h2)
 ·have S':=S.eff ef hin hB;have F':=ef.fr hin hlm F;exact h _ a rfl S' F' ⟨c.rm,S'.hr,S'.base,⟨_,hfr,hff.eff ef λz h=>h⟩,c.scr,λa h=>zj (c.fz a h) ef.size⟩ f'
theorem mU{g:Pe}{k:Nat}{a:Pd}{v:Pa}(c:Cn X A d hn s Y Z)(F:FR X env cx J s.heap Y)(ho:gU A env)(S:StepE X env s₀ Y₀ s Y Z)(hB:Base X s₀.heap)(hz:g=s₀.heap)(x:Fly g (.ref (X.ca k)) a (some v) s.heap)(f:Option Pd){Q:Unit->Pb->Prop}{E:Pa->Pb->Prop}(h:∀s',StepE X env s₀ Y₀ s' Y Z->FR X env cx J s'.heap Y->Cn X A d hn s' Y Z->Fly g (.ref (X.ca k)) a (some (f.elim Value.none λa=>rawInt a)) s'.heap->Q () s'):Un (Mo X) A (setFlight (.ref a) f) Q E s:=by
 obtain ⟨hl,outer,hfr,_⟩:=ho;obtain ⟨fs,e1,hff⟩:=c.fs;replace e1:=hfr▸e1;cases e1;subst hz;have hin:FrIn X ((env::outer).filterMap (·.frame)) s.heap Y:=⟨hff.all⟩;have hlm:env.locals∈(env::outer).filterMap (·.frame):=jh.mpr ⟨env,zm,hl⟩;refine a8b x f hff.fun λh' ef f'=>?_;have S':=S.eff ef hin hB;have F':=ef.fr hin hlm F;exact h _ S' F' ⟨c.rm,S'.hr,S'.base,⟨_,hfr,hff.eff ef λz h=>h⟩,c.scr,λa h=>zj (c.fz a h) ef.size⟩ f'
theorem a6w{g:Pe}{k:Nat}{e:Pa}(c:Cn X A d hn s Y Z)(F:FR X env cx J s.heap Y)(ho:gU A env)(S:StepE X env s₀ Y₀ s Y Z)(hB:Base X s₀.heap)(hz:g=s₀.heap)(x:XS X env g k e s.heap){E:Pa->Pb->Prop}(h:∀s',StepE X env s₀ Y₀ s' Y Z->FR X env cx J s'.heap Y->XS X env g k e s'.heap->E e s'):notedBy (Mo X) A env (cameBackBy (Mo X) A env E) e s:=by
 refine tB c F ho S hB hz x λs1 a he S1 F1 c1 f1=>?_;subst he;obtain ⟨hn',oe,vs,a0,e1,e2,e3,e4,T,oT,ts,e5,r⟩:=id f1;refine Ug (wpAny_field e1 e3 e5 ?_);refine gw (Ub (by simp) ..) ?_;refine mU c1 F1 ho S1 hB hz f1 env.frame λs2 S2 F2 c2 f2=>?_;replace f2:=(ho.1 ..)▸f2;exact h s2 S2 F2 ⟨a,_,rfl,f2,.inr (.inr ⟨_,ho.1,rfl⟩)⟩
theorem a2v{g:Pe}{k:Nat}{e:Pa}(c:Cn X A d hn s Y Z)(F:FR X env cx J s.heap Y)(ho:gU A env)(S:StepE X env s₀ Y₀ s Y Z)(hB:Base X s₀.heap)(hz:g=s₀.heap)(x:XS X env g k e s.heap){Q:Unit->Pb->Prop}{E:Pa->Pb->Prop}(h:∀s',StepE X env s₀ Y₀ s' Y Z->XR X g k e s'.heap->Q () s'):Un (Mo X) A (leaving env e) Q E s:=by
 unfold leaving;refine Ug (tB c F ho S hB hz x λs1 a he S1 F1 c1 f1=>?_);subst he;exact mU c1 F1 ho S1 hB hz f1 none λs2 S2 F2 c2 f2=>h s2 S2 ⟨a,rfl,f2⟩
end
section
variable{X:W}{A:Pf}{d:Nat}{hn:Bool}{s:Pb}{Y:List Pd}{Z:H}
theorem uL(y:Str)(u u':Pa)(es:List (Str×Pa))(hn:y∉es.map (·.1)):stored ((y,u)::es) y u'=(y,u')::es:=by unfold stored;refine gw (Ua (by simp) ..) ?_;simp only [wx,if_true];exact gw (map_store_of_not_mem es y u' hn ..) rfl
theorem sG(y x:Str)(u u':Pa)(es:List (Str×Pa))(hne:y≠x):stored ((y,u)::es) x u'=(y,u)::stored es x u':=by
 unfold stored;simp only [jc,hne,decide_false,Bool.false_or];split
 ·simp [hne]
 ·rfl
theorem ERs.put{h:Pe}{kvs:List (List Nat×V)}{l:List (Str×Pa)}(r:ERs X h Y kvs l)(hn:(l.map (·.1)).Nodup)(x:Str)(hx:x.length<=Mine.Internal.lim){v:V}{u:Pa}(q:VR X h Y v u):ERs X h Y (bP kvs (aC x) v) (stored l x u):=by
 obtain ⟨hk,hlm,hv⟩:=r
 induction kvs generalizing l with
 | nil=>cases l with
  | nil=>exact ⟨rfl,λp hp=>gw (ze.mp hp ..) hx,.cons q .nil⟩
  | cons _ _=>cases hk
 | cons p ps ih=>
  cases l with
  | nil=>cases hk
  | cons e es=>
   obtain ⟨k,v'⟩:=p;obtain ⟨y,u'⟩:=e;rw [wx,wg] at hn;rw [wx,wx] at hk hv;injection hk with hk hks
   cases hv with
   | cons hv hvs=>
    refine gw (show bP ((k,v')::_) (aC x) _=(if k=aC x then _ else _) from rfl) ?_;by_cases hxy:y=x
    ·subst hxy;rw [uL _ _ _ _ hn.1,Ua hk];refine ⟨?_,λp hp=>?_,.cons q hvs⟩
     ·exact gw (wx ..) (gw (wx ..) (gw hks (gw hk rfl)))
     ·rcases ye.mp hp with rfl | hp
      ·exact hx
      ·exact hlm p (zr _ hp)
    ·rw [sG _ _ _ _ _ hxy,Ub λq=>hxy (gO (hk.symm.trans q))];obtain ⟨i1,i2,i3⟩:=ih hn.2 hks (λp hp=>hlm p (zr _ hp)) hvs;refine ⟨?_,λp hp=>?_,.cons hv i3⟩
     ·exact gw (wx ..) (gw (wx ..) (gw i1 (Uf (·::_) hk)))
     ·rcases ye.mp hp with rfl | hp
      ·exact hlm _ zm
      ·exact i2 p hp
theorem iW{knd:KeyKind X.prog X.w Str}{h:Pe}{a:Pd}{l:List (Str×Pa)}(hd:h.DictOf knd a l):(l.map (·.1)).Nodup:=ex3 hd λz z z q=>q.2.2.2.2.2
theorem yV(c:Cn X A d hn s Y Z){i:Nat}{a:Pd}(hi:Y[i]?=some a){P:PT Unit}{kvs:List (List Nat×V)}{l l':List (Str×Pa)}{qs:List (List Nat×V)}(ho:Z[i]?=some (.dict qs))(hd:s.heap.DictOf (strKind X.prog X.w) a l)(r:ERs X s.heap Y kvs l')(h:∀Q E,(∀h' t,h'.DictOf (strKind X.prog X.w) a l'->Heap.SameBut a s.heap h'->Q () { s with heap:=h',toks:=t })->P Q E s):Sm X P (fN i kvs Z) (λz z z z=>True) s Y:=by
 unfold fN;refine ic ite_ (λhz=>?_) λz=>?_
 ·exact Sm.ok (a:=V.none) λQ E hQ=>h Q E λh' t hd' hs=>hQ _ _ _ (lU c hi ho hd r hz hd' hs) trivial
 ·exact Sm.stuck
theorem yJ{β:Type}(c:Cn X A d hn s Y Z){i:Nat}{a:Pd}(hi:Y[i]?=some a){P:PT β}{xs:List V}{l l':List Pa}{n:Nat}{b:β}{rel:Pe->List Pd->V->β->Prop}{ys:List V}(ho:Z[i]?=some (.list ys))(e:s.heap.get? a=some { cls:=.type "list",data:=.seq (jq l) n })(r:VRs X s.heap Y xs l')(hb:∀h Y,rel h Y .none b)(h:l'.length<=lim->∀Q E,(∀h' n' t,h'.get? a=some { cls:=.type "list",data:=.seq (jq l') n' }->Heap.SameBut a s.heap h'->Q b { s with heap:=h',toks:=t })->P Q E s):Sm X P (sE i xs Z) rel s Y:=by
 unfold sE;refine ic ite_ (λhz=>?_) λz=>?_
 ·refine Sm.ok (a:=V.none) λQ E hQ=>h (bw (r.length ..) hz) Q E λh' n' t e' hs=>?_;have hk':∀b o,s.heap.get? b=some o->iO o->h'.get? b=some o:=λb o eb hS=>(hs.2 b λq=>by
   replace eb:=e▸q▸eb;cases eb;exact hS.offList (.inl rfl)).trans eb
  exact hQ _ _ _ (Step.put c (s':={ s with heap:=h',toks:=t }) hi (λz q=>by cases ho.symm.trans q) hs rfl rfl (o:=.list xs) (.list e' (bw (r.length ..) hz) (r.mono hk' λz z e=>e))) (hb _ _)
 ·exact Sm.stuck
theorem aEq(c:Cn X A d hn s Y Z){x y z:V}{u v w:Pa}(hx:VR X s.heap Y x u)(hy:VR X s.heap Y y v)(hz:VR X s.heap Y z w):
  Sm X (Wp X A (setItem u v w)) (pF x y z Z) (λq q q q=>True) s Y:=by
 show Sm X _ (asR x (λl=>asS y λk=>onW l λkvs=>fN l (bP kvs k z)) Z) _ _ _;refine mP hx λi a e hi=>mF hy λx t e' hq=>?_;subst e e';exact tE c hi λkvs l ho hd r hl=>yV c hi ho hd (r.put (iW hd) x hq hz) λQ E hq=>wpAny_setItem_pairs (hsz:=hl) (strKind_is X.prog X.w x t) hd λh' hd' hs=>hq h' _ hd' hs
end
section
variable{X:W}{A:Pf}{d:Nat}{s s' s'' s₀:Pb}{Y Y' Y'' Y₀:List Pd}{Z Z' Z'' Z0:H}{env:zq}{cx cx':Cx}{J J':Env}{C:Calls}{G:GT}{own:List Pd}{it:It}{JJ:Pd}
theorem rZ{α:Type}{r:R α}{k:α->H->RS}{a:α}{Z:H}(e:r=.ok a Z):RS.ofE r J k=k a Z:=gw e rfl
theorem lX{α:Type}{r:R α}{k:α->H->RS}{c:Nat}{Z:H}(e:r=.exc c Z):RS.ofE r J k=.exc c J Z:=gw e rfl
theorem gQ{α:Type}{r:R α}{k:α->H->RS}(e:r=.stuck):RS.ofE r J k=.stuck:=gw e rfl
theorem SmS.bind{α β:Type}{P:PT β}{P2:β->PT Flow}{m:M α}{k:α->H->RS}{rel:Pe->List Pd->α->β->Prop}(c:Cn X A d true s Y Z)(F:FR X env cx J s.heap Y)(h1:Sm X P (m Z) rel s Y)(h2:∀a Z1 b s1 Y1,Cn X A d true s1 Y1 Z1->FR X env cx J s1.heap Y1->Step X s Y s1 Y1 Z1->rel s1.heap Y1 a b->SmS X env cx (P2 b) (k a Z1) s1 Y1):
  SmS X env cx (λQ E s=>P (λb s1=>P2 b Q E s1) E s) (RS.ofE (m Z) J k) s Y:=by
 intro hne Q E hQ hE;refine h1 (λe=>hne (gQ e)) _ _ (λa Z1 b s1 Y1 e1 S1 r1=>?_) λcc Z1 e s1 Y1 e1 S1 x1=>hE cc J Z1 e s1 Y1 (lX e1) S1.e (F.step c.hr S1) x1.s;have e:RS.ofE (m Z) J k=k a Z1:=rZ e1;exact h2 a Z1 b s1 Y1 (c.step S1) (F.step c.hr S1) S1 r1 (e▸hne) Q E (λf J' Z2 fl s2 Y2 e2 S2 F2 r2=>hQ f J' Z2 fl s2 Y2 (e.trans e2) (S1.e.trans S2) F2 r2)
  λcc J' Z2 y s2 Y2 e2 S2 F2 x2=>hE cc J' Z2 y s2 Y2 (e.trans e2) (S1.e.trans S2) F2 (x2.le S1.pers)
theorem SmS.ok{P:PT Flow}{f:Fl}(h:∀Q E,(∀fl s' Y',StepE X env s Y s' Y' Z->FR X env cx J s'.heap Y'->FlR X s'.heap Y' f fl->Q fl s')->P Q E s):SmS X env cx P (.ok f J Z) s Y:=
 λz Q E hQ z=>h Q E λfl s' Y' S F r=>hQ f J Z fl s' Y' rfl S F r
theorem SmS.stuck{P:PT Flow}:SmS X env cx P .stuck s Y:=λh=>Ue rfl h
theorem Cn.e(c:Cn X A d true s Y Z):StepE X env s Y s Y Z:=(Step.refl c.hr c.base).e
noncomputable def lE(X:W)(C:Calls)(G:GT)(d:Nat)(t:S):Prop:=
 ∀(cx:Cx) (st:Ph),TS G t cx st->∀(A:Pf) (env:zq) (J:Env) (s:Pb) (Y:List Pd) (Z:H),Cn X A d true s Y Z->FR X env cx J s.heap Y->Lo X env->gU A env ->
  SmS X env cx (λQ E s=>Un (Mo X) A (exec st env) Q E s) (evS X.ns C J Z t) s Y
noncomputable def kG(X:W)(C:Calls)(G:GT)(d:Nat)(ts:List S):Prop:=
 ∀(cx:Cx) (sts:List Ph),TSs G ts cx sts->∀(A:Pf) (env:zq) (J:Env) (s:Pb) (Y:List Pd) (Z:H),Cn X A d true s Y Z->FR X env cx J s.heap Y->Lo X env->gU A env ->
  SmS X env cx (λQ E s=>Un (Mo X) A (execs sts env) Q E s) (aH X.ns C J Z ts) s Y
theorem aAd:kG X C G d []:=by intro cx sts ht A env J s Y Z c F lo ho;have ht:sts=[]:=ht;subst ht;exact SmS.ok λQ E hQ=>wpAny_execs_nil (hQ _ _ _ c.e F .next)
theorem a4x:lE X C G d .dead:=by intro cx st hT A env J s Y Z c F lo ho;exact SmS.stuck
noncomputable def after(ns:List Int)(C:Calls)(ts:List S):RS->RS
 | .ok .next J' Z'=>aH ns C J' Z' ts
 | x=>x
theorem a5r{t:S}{ts:List S}(h1:lE X C G d t)(h2:kG X C G d ts):kG X C G d (t::ts):=by
 intro cx sts hT A env J s Y Z c F lo ho;refine ex2 (hT) λst r q_h=>?_;refine an3 q_h λhe e1 e2=>?_;subst he;show SmS X env cx _ (after X.ns C ts (evS X.ns C J Z t)) s Y;intro hne Q E hQ hE;refine wpAny_execs_cons (h1 cx st e1 A env J s Y Z c F lo ho (λe=>by replace hne:=e▸hne;exact hne rfl) _ _ (λf J' Z' fl s' Y' e' S' F' r'=>?_) λcc J' Z' y s' Y' e' S' F' x'=>?_)
 ·rw [e'] at hne hQ hE;cases r' with
  | next=>
   exact h2 cx r e2 A env J' s' Y' Z' (c.stepE S' F' ho) F' lo ho hne Q E (λf J'' Z'' fl s'' Y'' e'' S'' F'' r''=>hQ f J'' Z'' fl s'' Y'' e'' (S'.trans S'') F'' r'') λcc J'' Z'' y s'' Y'' e'' S'' F'' x''=>hE cc J'' Z'' y s'' Y'' e'' (S'.trans S'') F'' (x''.le S'.pers)
  | ret r=>exact hQ _ J' Z' _ s' Y' rfl S' F' (.ret r)
 ·replace hE:=e'▸hE;exact hE cc J' Z' y s' Y' rfl S' F' x'
theorem aAi{t:E}(hv:bL X C G d t):lE X C G d (.ret t):=by intro cx st hT A env J s Y Z c F lo ho;refine ex2 (hT) λv p q_h=>?_;obtain ⟨he,h1⟩:=q_h;subst he;exact (SmS.bind (m:=evE X.ns C J t) (k:=λv Z'=>.ok (.ret v) J Z') c F (hv cx v h1 A env J s Y Z c F) (P2:=λu Q E s=>Q (.ret u) s) λv Z1 u s1 Y1 c1 F1 S1 r=>SmS.ok λQ E hQ=>hQ _ _ _ c1.e F1 (.ret r)).mono λQ E h=>wpAny_Return_some h
theorem a2p(F:FR X env cx J s.heap Y):interactive env=false:=by unfold interactive;exact gw (F.kind ..) rfl
theorem a4p{t:E}(hv:bL X C G d t):lE X C G d (.expr t):=by intro cx st hT A env J s Y Z c F lo ho;refine ex2 (hT) λv p q_h=>?_;refine an3 q_h λhe hok h1=>?_;subst he;exact (SmS.bind (m:=evE X.ns C J t) (k:=λz Z'=>.ok .next J Z') c F (hv cx v h1 A env J s Y Z c F) (P2:=λu Q E s=>Q .next s) λv Z1 u s1 Y1 c1 F1 S1 r=>SmS.ok λQ E hQ=>hQ _ _ _ c1.e F1 .next).mono λQ E h=>wpAny_Expr_any h (a2p F) (h1.facts.swap (by cases t <;> first | rfl | cases hok) _ _ _)
theorem vA{a i t:E}(ha:bL X C G d a)(hi:bL X C G d i)(hv:bL X C G d t):lE X C G d (.T a i t):=by intro cx st hT A env J s Y Z c F lo ho;refine ex5 (hT) λu j sp v p q_h=>?_;refine an5 q_h λhe h1 h2 h3 hcp=>?_;subst he;exact (SmS.bind (m:=(evE X.ns C J t).bnd λv=>(evE X.ns C J a).bnd λx=>(evE X.ns C J i).bnd λk=>pF x k v) (k:=λz Z'=>.ok .next J Z') c F (rel:=λz z z z=>True) (P:=λQ E s=>Un (Mo X) A (eval v env) (λv s1=>Un (Mo X) A (eval u env) (λov s2=>Un (Mo X) A (eval j env) (λiv s3=>Un (Mo X) A (setItem ov iv v) Q E s3) E s2) E s1) E s) (Sm.go c F (hv cx v h3 A env J s Y Z c F) λz z z z z c1 F1 S1 r1=>Sm.go c1 F1 (ha cx u h1 A env J _ _ _ c1 F1) λz z z z z c2 F2 S2 r2=>Sm.go c2 F2 (hi cx j h2 A env J _ _ _ c2 F2) λz z z z z c3 F3 S3 r3=>aEq c3 (S3.vr c2.hr r2) r3 (S3.vr c2.hr (S2.vr c1.hr r1))) (P2:=λz Q E s=>Q .next s) λv Z1 u s1 Y1 c1 F1 S1 r=>SmS.ok λQ E hQ=>hQ _ _ _ c1.e F1 .next).mono λQ E h=>wpAny_Assign_Subscript h (h3.facts.swap hcp _ _ _)
theorem uM(L:Leaf X G C d){a t:E}{x:List Nat}(ha:bL X C G d a)(hv:bL X C G d t):lE X C G d (.Y a x t):=by intro cx st hT A env J s Y Z c F lo ho;refine ex5 (hT) λo nm ap v p q_h=>?_;refine an7 q_h λhe hx hm hl h1 h3 hcp=>?_;subst he hx;exact (SmS.bind (m:=(evE X.ns C J t).bnd λv=>(evE X.ns C J a).bnd λu=>iT u (aC nm) v) (k:=λz Z'=>.ok .next J Z') c F (rel:=λz z z z=>True) (P:=λQ E s=>Un (Mo X) A (eval v env) (λv s1=>Un (Mo X) A (eval o env) (λov s2=>Un (Mo X) A (setAttr ov nm v) Q E s2) E s1) E s) (Sm.go c F (hv cx v h3 A env J s Y Z c F) λz z z z z c1 F1 S1 r1=>Sm.go c1 F1 (ha cx o h1 A env J _ _ _ c1 F1) λz z z z z c2 F2 S2 r2=>L.seta _ _ _ _ nm A _ _ _ hm hl c2 r2 (S2.vr c1.hr r1)) (P2:=λz Q E s=>Q .next s) λv Z1 u s1 Y1 c1 F1 S1 r=>SmS.ok λQ E hQ=>hQ _ _ _ c1.e F1 .next).mono λQ E h=>plainObj_wpAny_Assign_Attribute h (h3.facts.swap hcp _ _ _)
theorem a8a{q:E}{x y:List S}(ht:a7x X C G d q)(ha:kG X C G d x)(hb:kG X C G d y):lE X C G d (.x q x y):=by
 intro cx st hT A env J s Y Z c F lo ho;refine ex4 (hT) λt a b p q_h=>?_;refine an4 q_h λhe e1 e2 e3=>?_;subst he;have he:evS X.ns C J Z (.x q x y)=RS.ofE ((evE X.ns C J q).bnd asB Z) J λb Z'=>if b then aH X.ns C J Z' x else aH X.ns C J Z' y:=by
  show RS.ofE (evE X.ns C J q Z) J _=_;unfold M.bnd;rcases evE X.ns C J q Z with ⟨v,Z'⟩ | ⟨k,Z'⟩ | _
  ·rcases v with _ | b | _ | _ | _ | _ | _ | _ | _ <;> first | rfl | (cases b <;> rfl)
  ·rfl
  ·rfl
 refine gw he ?_;refine (SmS.bind c F (ht cx t e1 A env J s Y Z c F) (P2:=λb' Q E s2=>if b' then Un (Mo X) A (execs a env) Q E s2 else Un (Mo X) A (execs b env) Q E s2) λb' Z1 b'' s1 Y1 c1 F1 S1 r=>?_).mono λQ E h=>wpAny_If h;cases r;cases b' with
 | true=>exact ha cx a e2 A env J s1 Y1 Z1 c1 F1 lo ho
 | false=>exact hb cx b e3 A env J s1 Y1 Z1 c1 F1 lo ho
theorem xP(F:FR X env cx J s.heap Y){x:Str}{k:Nat}(h:cx.slot x=some k):k<J.length:=by exact gw (F.len ..) (F.bound x k (lL h).1)
theorem pL(F:FR X env cx J s.heap Y){x:Str}{k:Nat}(h:cx.slot x=some k)(t:E):evS X.ns C J Z (.a k t)=RS.ofE (evE X.ns C J t Z) J λv Z'=>.ok .next (J.set k (some v)) Z':=by show RS.ofE _ _ _=_;exact Uf (RS.ofE _ J) (funext λv=>funext λZ'=>Ua (xP F h))
theorem mA(c:Cn X A d true s Y Z)(F:FR X env cx J s.heap Y)(lo:Lo X env){x:Str}{px p:Pos}{v:Pg}{k:Nat}{t:E}(hv:bL X C G d t)(hk:cx.slot x=some k)(h1:T G t cx v)(hsw:swapsWith v (some (.Name x px)) p.line env=pure false):
  SmS X env cx (λQ E s=>Un (Mo X) A (exec (.Assign [.Name x px] v p) env) Q E s) (RS.ofE (evE X.ns C J t Z) J λv Z'=>.ok .next (J.set k (some v)) Z') s Y:=
 (SmS.bind c F (hv cx v h1 A env J s Y Z c F) (P2:=λu Q E s1=>Un (Mo X) A (storeName env x u) (λz=>Q .next) E s1) λw Z1 u s1 Y1 c1 F1 S1 r=>
  SmS.ok λQ E hQ=>iQ c1 F1 lo hk r λs' S' F' z=>hQ _ _ _ S' F' .next).mono λQ E h=>wpAny_Assign_Name h hsw
theorem v9{k:Nat}{t:E}(hv:bL X C G d t)(hc:jF t=false):lE X C G d (.a k t):=by intro cx st hT A env J s Y Z c F lo ho;refine ex4 (hT) λx px v p q_h=>?_;refine an3 q_h λhe hk h1=>?_;subst he;exact gw (pL F hk ..) (mA c F lo hv hk h1 (h1.facts.swap hc _ _ _))
theorem nI(L:Leaf X G C d){k:Nat}{src:Src}{elt:E}{cond:Option E}(hP:SimC X C G d src elt cond):lE X C G d (.a k (pX src elt cond)):=by
 intro cx st hT A env J s Y Z c F lo ho;refine ex4 (hT) λx px v p q_h=>?_;refine an3 q_h λhe e1 h1=>?_;subst he;refine gw (pL F e1 ..) ?_;refine ex8 (a3v h1) λy py iter ifs sc q el cx' q_h=>?_;refine an6 q_h λq_8 hcx hpl h3 h4 h5=>?_;obtain rfl:=q_8;have hsw:∃b,swapsWith (.ListComp el [⟨.Name y py,iter,ifs,0⟩] sc q) (some (.Name x px)) p.line env=pure b/\(b=true->env.kindOf x=some .local):=by
  refine ⟨_,rfl,λhb=>?_⟩;simp only [gz,beq_iff_eq] at hb;exact hb.1.1.2
 obtain ⟨b,hsw,hloc⟩:=hsw;cases b with
 | false=>exact mA c F lo (oD L hP) e1 h1 hsw
 | true=>
  intro hne Q E hQ hE;refine gw (exec_Assign_Name_used _ _ _ _ hsw ..) ?_;refine Ug (wpAny_standAt (Ug ?_));show Un _ A (do let _ ←comprehension (.ListComp el [⟨.Name y py,iter,ifs,0⟩] sc q) sc env _ (newList []) false (eval iter env) (some (assign (.Name x px) env))) _ _ s;refine Ug (Um (qM L hP c F hcx hpl h3 h4 h5 (use:=some (assign (.Name x px) env)) (Q:=λt s'=>Q .next s') (E:=E) (λe=>hne (gQ e)) ?_ λk' Z' y' s' Y' e' S' x'=>hE k' J Z' y' s' Y' (lX e') S'.e (F.step c.hr S') x'.s) (λt s' hq=>Uh (Uh hq)) λt t e=>e);intro acc Z' s' Y' D' Cc k' ys m e' S' el r' z' n' d' hCm hD hC hDC;show Un _ A (assign (.Name x px) env (.ref D')) _ _ _;have eS:=S'.adopt c d' hD (o:=.list acc) (.list (l:=ys.toList) (n:=k') (by simpa using el) (bw (r'.length ..) z') (r'.mono (λt t e t=>e) fV));have c1:=c.step eS;have F1:=F.step c.hr eS;have hCm':Cc∉Y'++[D']:=λhm=>by
   rcases yh.mp hm with q | q
   ·exact hCm q
   ·exact hDC (ze.mp q).symm
  refine wpAny_assign_Name (iQ c1 F1 lo e1 (v:=.ref Z'.length) (.ref (by refine bw (S'.hr.len ..) (gw (zv (zf _) ..) ?_);simp)) λs2 S2 F2 t=>?_);have hlc:env.locals≠Cc:=by
   obtain ⟨m',n',_⟩:=F.ns;exact yq (zj n'.lt hC)
  have hOC:¬Own env Cc:=λh=>by
   rcases h with h | ⟨z,h⟩
   ·exact hlc h.symm
   ·exact Ue (F.offC z Cc h).2.2 (yf.mpr hC)
  have nC:s2.heap.Ns Cc m:=by
   refine ex3 (n') λo es ep q_h=>?_;refine an3 q_h λeo hd rr=>?_;obtain ⟨sl,e'',_⟩:=S2.keep Cc o hCm' hOC eo;exact ⟨_,es,ep,e'',hd,rr⟩
  refine ⟨m,nC,λh' hs'=>?_⟩;have hCm2:Cc∉Y'++[D']:=hCm';have M1:Move [Cc] s2 { s2 with heap:=h' }:=⟨λb o hb e=>(hs'.2 b λq=>hb (by simp [q])).trans e,zu hs'.1.symm,rfl,rfl⟩;have sf:=qX nC hCm2;have SE:StepE X env s Y s2 (Y'++[D']) (Z'++[.list acc]):=eS.e.trans S2;refine hQ .next _ (Z'++[.list acc]) .next _ (Y'++[D']) (rZ e') ⟨M1.hr sf SE.hr,λb o hb hO eb=>?_,⟨λb o eb=>M1.keep b o (λhm=>?_) (SE.base.keep b o eb),za SE.base.size M1.size,SE.base.low⟩,za SE.size M1.size,SE.ext,M1.gens.trans SE.gens,M1.os.trans SE.os,λb hb=>?_⟩ ?_ .next
  ·obtain ⟨sl,e'',q''⟩:=SE.keep b o hb hO eb;exact ⟨sl,M1.keep b _ (λhm=>Ue (yc eb) (yf.mpr (ze.mp hm▸hC))) e'',q''⟩
  ·have:=yc (c.base.keep b o eb);exact Ue this (yf.mpr (ze.mp hm▸hC))
  ·by_cases q:b=Cc
   ·subst q;exact zaa hC
   ·exact SE.pers b (by
     cases e:s2.heap.get? b with
     | none=>rfl
     | some o=>replace hb:=(M1.keep b o (by simpa using q) e ..)▸hb;cases hb)
  ·exact { F2 with
    ns:=by
     obtain ⟨mm,n2,hm2⟩:=F2.ns;exact ⟨mm,n2.sameBut hs' hlc,λz j w e1 e2 e3=>by obtain ⟨u,b1,b2⟩:=hm2 z j w e1 e2 e3;exact ⟨u,b1,M1.vr sf b2⟩⟩
    cell:=λz j e1 e2=>by
     refine ex2 (F2.cell z j e1 e2) λcc w q_h=>?_;refine an3 q_h λb1 b2 b3=>?_;exact ⟨cc,w,b1,b2.sameBut hs' (λq=>Ue (F.offC z cc b1).2.2 (yf.mpr (q▸hC))),λv' hv'=>by obtain ⟨u,d1,d2⟩:=b3 v' hv';exact ⟨u,d1,M1.vr sf d2⟩⟩
    offC:=λz cc h=>⟨(F2.offC z cc h).1,(F2.offC z cc h).2.1,zj (F2.offC z cc h).2.2 M1.size⟩ }
end
section
variable{X:W}{A:Pf}{d:Nat}{s s' s'' s₀:Pb}{Y Y' Y'' Y₀:List Pd}{Z Z' Z'' Z0:H}{env:zq}{cx cx':Cx}{J J' J0:Env}{C:Calls}{G:GT}{own:List Pd}{it:It}{JJ:Pd}
theorem StepE.move(S:StepE X env s₀ Y₀ s Y Z)(m:Move own s s')(hp:∀b∈own,iZ s.heap Y b)(hnew:∀b∈own,s₀.heap.objs.size<=b)(hB:Base X s₀.heap):StepE X env s₀ Y₀ s' Y Z where
 hr:=m.hr hp S.hr
 keep:=λb o hb hO e=>by
  obtain ⟨sl,e1,q⟩:=S.keep b o hb hO e;exact ⟨sl,m.keep b _ (λhm=>Ue (yc e) (yf.mpr (hnew b hm))) e1,q⟩
 base:=⟨λb o e=>m.keep b o (λhm=>Ue (yc (hB.keep b o e)) (yf.mpr (hnew b hm))) (S.base.keep b o e),za S.base.size m.size,S.base.low⟩
 size:=za S.size m.size
 ext:=S.ext
 gens:=m.gens.trans S.gens
 os:=m.os.trans S.os
 pers:=λb hb=>by
  by_cases q:b∈own
  ·exact zaa (hnew b q)
  ·exact S.pers b (by
    cases e:s.heap.get? b with
    | none=>rfl
    | some o=>replace hb:=(m.keep b o q e ..)▸hb;cases hb)
theorem JR.stepE(j:JR X s.heap Y it JJ own)(R:HR X Y Z s.heap)(S:StepE X env s Y s' Y' Z')(ho:∀b∈own,¬Own env b):JR X s'.heap Y' it JJ own:=
 j.keeps (λb hb o e=>by
  obtain ⟨sl,e1,q⟩:=S.keep b o ((j.priv b hb).off R) (ho b hb) e;obtain ⟨o',q_h⟩:=(j.priv b hb);refine an5 q_h λe' z z q' z=>?_;replace e':=e▸e';cases e';replace e1:=(q q' ..)▸e1;exact e1) S.get
structure LInv(X:W)(env:zq)(cx:Cx)(s₀:Pb)(Y₀:List Pd)(own:List Pd)(JJ:Pd)(ok:It->Prop)(go:Nat->It->Env->H->RS)(r₀:RS)(n:Nat)(s:Pb)(Y:List Pd)(Z:H)(it:It)(J:Env):Prop where
 step:StepE X env s₀ Y₀ s Y Z
 fr:FR X env cx J s.heap Y
 jr:JR X s.heap Y it JJ own
 go:go n it J Z=r₀
 ok:ok it
theorem a5n{target:Pg}{body:List Ph}{tgt:V->Env->Option Env}{bd:Env->H->RS}{r₀:RS}{n:Nat}{Q:Flow->Pb->Prop}{E:Pa->Pb->Prop}(c₀:Cn X A d true s₀ Y₀ Z0)(hno:∀b∈own,¬Own env b)(ho:gU A env)(hne:r₀≠.stuck)(hown:∀b∈own,s₀.heap.objs.size<=b)(hasg:∀v u J J' s Y Z,tgt v J=some J'->Cn X A d true s Y Z->FR X env cx J s.heap Y->VR X s.heap Y v u->∀(Q:Unit->Pb->Prop) (E:Pa->Pb->Prop),(∀s',StepE X env s Y s' Y Z->FR X env cx J' s'.heap Y->Q () s')->Un (Mo X) A (assign target env u) Q E s)(ok:It->Prop)(hnext:∀s Y Z it r,Cn X A d true s Y Z->JR X s.heap Y it JJ own->ok it->aS it Z=some r->(∀v it',r=some (v,it')->∃J J',tgt v J=some J')->∀Q E,(∀q s',lP X s Y JJ own r q s'->(∀v it',r=some (v,it')->ok it')->Q q s')->a1t X A target JJ Q E s)(hbody:∀J s Y Z,Cn X A d true s Y Z->FR X env cx J s.heap Y->SmS X env cx (λQ E s=>Un (Mo X) A (execs body env) Q E s) (bd J Z) s Y)(hQ:∀f J' Z' fl s' Y',r₀=.ok f J' Z'->StepE X env s₀ Y₀ s' Y' Z'->FR X env cx J' s'.heap Y'->FlR X s'.heap Y' f fl->Q fl s')(hE:∀k J' Z' e s' Y',r₀=.exc k J' Z'->StepE X env s₀ Y₀ s' Y' Z'->FR X env cx J' s'.heap Y'->XS X env s₀.heap k e s'.heap->E e s')(h:LInv X env cx s₀ Y₀ own JJ ok (forLoop tgt bd) r₀ n s Y Z it J):
  codeAny (Mo X) A (.forLoop target (.ref JJ) body [] env) (λr s'=>match r with | .ok f=>Q f s' | .error e=>cameBackBy (Mo X) A env E e s') s:=by
 refine codeAny_forLoop_any (λn s=>∃Y Z it J,LInv X env cx s₀ Y₀ own JJ ok (forLoop tgt bd) r₀ n s Y Z it J) ?_ n ⟨Y,Z,it,J,h⟩;clear h;rintro n s ⟨Y,Z,it,J,I⟩;have c:=c₀.stepE I.step I.fr ho;have hgo:=I.go;replace hgo:=(s8 ..)▸hgo;cases hnxt:aS it Z with
 | none=>replace hgo:=(hnxt ..)▸hgo;exact Ue hgo.symm hne
 | some r=>
  replace hgo:=(hnxt ..)▸hgo;have htg:∀v it',r=some (v,it')->∃m J',n=m+1/\tgt v J=some J'/\qN (bd J' Z) (forLoop tgt bd m it')=r₀:=λv it' hv=>by
   replace hgo:=hv▸hgo;cases n with
   | zero=>exact Ue hgo.symm hne
   | succ n=>
    have hgo:uH tgt bd J Z v (forLoop tgt bd n it')=r₀:=hgo;unfold uH at hgo;cases ht:tgt v J with
    | none=>replace hgo:=ht▸hgo;exact Ue hgo.symm hne
    | some J'=>replace hgo:=ht▸hgo;exact ⟨n,J',rfl,rfl,hgo⟩
  refine hnext s Y Z it r c I.jr I.ok hnxt (λv it' e=>by obtain ⟨_,J',_,h,_⟩:=htg v it' e;exact ⟨J,J',h⟩) (λq s1=>match q with
   | none=>Un (Mo X) A (execs [] env) (λf s3=>Q f s3) (notedBy (Mo X) A env λe s'=>cameBackBy (Mo X) A env E e s') s1
   | some v=>Un (Mo X) A (assign target env v) (λz s2=>Un (Mo X) A (execs body env) (λf s3=>match f with
      | .next | .cont=>∃m,m<n/\∃Y Z it J,LInv X env cx s₀ Y₀ own JJ ok (forLoop tgt bd) r₀ m s3 Y Z it J
      | .brk=>Q .next s3
      | .ret v=>Q (.ret v) s3) (notedBy (Mo X) A env λe s'=>cameBackBy (Mo X) A env E e s') s2) (notedBy (Mo X) A env λe s'=>cameBackBy (Mo X) A env E e s') s1) _ λq s1 hr hok=>?_
  obtain ⟨M1,hr⟩:=hr;have soft1:∀b∈own,iZ s.heap Y b:=λb hb=>(I.jr.priv b hb).isSoft c.hr;have S1:=I.step.move M1 soft1 hown c₀.base;have F1:=I.fr.move c.hr M1 I.jr.priv;cases r with
  | none=>
   cases q with
   | some _=>exact hr.elim
   | none=>exact wpAny_execs_nil (hQ .next J Z .next s1 Y hgo.symm S1 F1 .next)
  | some p=>
   obtain ⟨v,it'⟩:=p;cases q with
   | none=>exact hr.elim
   | some u=>
    obtain ⟨ru,j1⟩:=hr;obtain ⟨n,J',rfl,ht,hgo⟩:=htg v it' rfl;have c1:=c₀.stepE S1 F1 ho;refine hasg v u J J' s1 Y Z ht c1 F1 ru _ _ λs2 S2 F2=>?_;have S02:=S1.trans S2;have c2:=c₀.stepE S02 F2 ho;have j2:=j1.stepE c1.hr S2 hno;refine hbody J' s2 Y Z c2 F2 (λe=>by replace hgo:=e▸hgo;exact hne hgo.symm) _ _ (λf J'' Z'' fl s3 Y3 e3 S3 F3 r3=>?_) λcc J'' Z'' y s3 Y3 e3 S3 F3 x3=>(by
     replace hgo:=e3▸hgo;have S03:=S02.trans S3;exact a6w (c₀.stepE S03 F3 ho) F3 ho S03 c₀.base rfl (x3.le S02.pers) λs4 S4 F4 x4=>hE cc J'' Z'' y s4 Y3 hgo.symm S4 F4 x4)
    replace hgo:=e3▸hgo;cases r3 with
    | next=>exact ⟨n,yv _,Y3,Z'',it',J'',S02.trans S3,F3,j2.stepE c2.hr S3 hno,hgo,hok v it' rfl⟩
    | ret r=>exact hQ _ J'' Z'' _ s3 Y3 hgo.symm (S02.trans S3) F3 (.ret r)
theorem a7y(F:FR X env cx J s.heap Y)(h:∀b∈own,s.heap.objs.size<=b):∀b∈own,¬Own env b:=λb hb q=>by
 have h1:=h b hb;rcases q with rfl | ⟨x,q⟩
 ·obtain ⟨m,n',_⟩:=F.ns;exact Ue n'.lt (yf.mpr h1)
 ·exact Ue (F.offC x b q).2.2 (yf.mpr h1)
set_option tactic.hygienic true in
theorem rO{k k':Nat}{v:V}{J':Env}(h:m8 k k' v J=some J'):∃a b,v=.tup [a,b]/\J'=(J.set k (some a)).set k' (some b):=by
 cases v with
 | tup vs=>cases vs with
  | nil=>cases h
  | cons a vs=>cases vs with
   | nil=>cases h
   | cons b vs=>cases vs with
    | cons=>cases h
    | nil=>
     have h:(if k<J.length/\k'<J.length then some ((J.set k (some a)).set k' (some b)) else none)=some J':=h;revert h;exact ic ite_ (λz h=>⟨a,b,rfl,(Option.some.inj h).symm⟩) λz h=>by cases h
 | _=>cases h
theorem uB{h:Pe}{a b:V}{u:Pa}(r:VR X h Y (.tup [a,b]) u):∃t u1 u2 n,u=.ref t/\h.get? t=some { cls:=.type "tuple",data:=.seq #[u1,u2] n }/\VR X h Y a u1/\VR X h Y b u2:=by
 cases r with
 | @tup _ t l n e hz rs=>
  cases rs with
  | cons r1 rs=>
   cases rs with
   | cons r2 rs=>
    cases rs;exact ⟨t,_,_,n,rfl,e,r1,r2⟩
theorem uQ{x y:Str}{px py tp:Pos}{tk:Nat}{k k':Nat}{v:V}{u:Pa}{J':Env}(c:Cn X A d true s Y Z)(F:FR X env cx J s.heap Y)(lo:Lo X env)(ho:gU A env)(hk:cx.slot x=some k)(hk':cx.slot y=some k')(et:m8 k k' v J=some J')(r:VR X s.heap Y v u){Q:Unit->Pb->Prop}{E:Pa->Pb->Prop}(h:∀s',StepE X env s Y s' Y Z->FR X env cx J' s'.heap Y->Q () s'):Un (Mo X) A (assign (.Tuple [.Name x px,.Name y py] tk tp) env u) Q E s:=by
 refine ex2 (rO et) λa b q_h=>?_;obtain ⟨q_2,q_3⟩:=q_h;obtain rfl:=q_2;obtain rfl:=q_3;refine ex4 (uB r) λt u1 u2 n q_h=>?_;refine an4 q_h λq_4 e r1 r2=>?_;obtain rfl:=q_4;have ht:s.heap.IsTuple t #[u1,u2]:=⟨_,e,rfl,_,rfl⟩;refine gw (arm_assign_Tuple ..) ?_;refine Ug (wpAny_standAt ?_);unfold unpack;refine Ug (Uk (gY (wpAny_unpackItems_tuple (items:=#[u1,u2]) (c.rm.handled rfl) ht λh' he hz'=>?_)));have S1:Step X s Y { s with heap:=h' } Y Z:=Step.grow c (λb o e=>he b o (yq (yc e)) e) hz' rfl rfl;have c1:=c.step S1;have F1:=F.step c.hr S1;show Un _ A (do holding [u2] (assign (.Name x px) env u1);do holding [] (assign (.Name y py) env u2);pure ()) _ _ _;refine Ug (Uk (wpAny_assign_Name (iQ c1 F1 lo hk (S1.vr c.hr r1) λs2 S2 F2 k2=>?_)));have c2:=c1.stepE S2 F2 ho;exact Ug (Uk (wpAny_assign_Name (iQ c2 F2 lo hk' (k2 (S1.vr c.hr r2)) λs3 S3 F3 z=>Uh (h s3 ((S1.e.trans S2).trans S3) F3))))
theorem FlR.wb{h:Pe}{f:Fl}{fl:Flow}{g:Fz}(r:FlR X h Y f fl):FlR (X.wb g) h Y f fl:=by
 cases r with
 | next=>exact .next
 | ret r=>exact .ret r.wb
theorem a9l{r:RS}{f:Fl}(h:r=.ok f J Z):RS.thaw it r=.ok f J (thaw it Z):=by cases h;cases it <;> rfl
theorem a3q{r:RS}{k:Nat}(h:r=.exc k J Z):RS.thaw it r=.exc k J (thaw it Z):=by cases h;cases it <;> rfl
theorem vS{r:RS}(h:r=.stuck):RS.thaw it r=.stuck:=by cases h;cases it <;> rfl
theorem yN{target:Pg}{body:List Ph}{tgt:V->Env->Option Env}{tb:List S}{n:Nat}{f:Fz}{s1 s2:Pb}{Y1:List Pd}{Z1:H}{Q:Flow->Pb->Prop}{E:Pa->Pb->Prop}(h4:TSs G tb cx body)(hB:∀f,kG (X.wb f) C G d tb)(c:Cn X A d true s Y Z)(F:FR X env cx J s.heap Y)(lo:Lo X env)(ho:gU A env)(S1:Step X s Y s1 Y1 Z1)(c1:Cn (X.wb f) A d true s1 Y1 Z1)(j:JR (X.wb f) s2.heap Y1 it JJ own)(S2:Step (X.wb f) s1 Y1 s2 Y1 Z1)(hown:∀b∈own,s1.heap.objs.size<=b)(melt:a1s X f it Y1)(hasg:∀v u J J' s Y Z,tgt v J=some J'->Cn (X.wb f) A d true s Y Z->FR (X.wb f) env cx J s.heap Y->VR (X.wb f) s.heap Y v u->∀(Q:Unit->Pb->Prop) (E:Pa->Pb->Prop),(∀s',StepE (X.wb f) env s Y s' Y Z->FR (X.wb f) env cx J' s'.heap Y->Q () s')->Un (Mo X) A (assign target env u) Q E s)(ok:It->Prop)(hok:ok it)(hnext:∀s Y Z it r,Cn (X.wb f) A d true s Y Z->JR (X.wb f) s.heap Y it JJ own->ok it->aS it Z=some r->(∀v it',r=some (v,it')->∃J J',tgt v J=some J')->∀Q E,(∀q s',lP (X.wb f) s Y JJ own r q s'->(∀v it',r=some (v,it')->ok it')->Q q s')->a1t (X.wb f) A target JJ Q E s)(hne:RS.thaw it (forLoop tgt (λJ Z=>aH X.ns C J Z tb) n it J Z1)≠.stuck)(hQ:∀f J' Z' fl s' Y',RS.thaw it (forLoop tgt (λJ Z=>aH X.ns C J Z tb) n it J Z1)=.ok f J' Z'->StepE X env s Y s' Y' Z'->FR X env cx J' s'.heap Y'->FlR X s'.heap Y' f fl->Q fl s')(hE:∀k J' Z' e s' Y',RS.thaw it (forLoop tgt (λJ Z=>aH X.ns C J Z tb) n it J Z1)=.exc k J' Z'->StepE X env s Y s' Y' Z'->FR X env cx J' s'.heap Y'->XS X env s.heap k e s'.heap->E e s'):
  codeAny (Mo X) A (.forLoop target (.ref JJ) body [] env) (λr s'=>match r with | .ok f=>Q f s' | .error e=>cameBackBy (Mo X) A env E e s') s2:=by
 have F1:FR (X.wb f) env cx J s1.heap Y1:=(F.step c.hr S1).wb;have back:∀{s' Y' Z'},StepE (X.wb f) env s1 Y1 s' Y' Z'->StepE X env s Y s' Y' (thaw it Z'):=λS=>S1.e.trans ⟨melt S.get S.hr,S.keep,Base.wb (X:=X.wb f) (f:=X.fz) S.base,S.size,S.ext,S.gens,S.os,S.pers⟩;exact a5n (X:=X.wb f) (s₀:=s1) (n:=n) (J:=J) c1 (a7y F1 hown) ho (λe=>hne (vS e)) hown hasg ok hnext (λJ s Y Z c F=>hB f cx body h4 A env J s Y Z c F ⟨lo.l,lo.c⟩ ho)
  (λg J' Z' fl s' Y' e S F r=>hQ g J' _ fl s' Y' (a9l e) (back S) (FR.wb (X:=X.wb f) (f:=X.fz) F) (FlR.wb (X:=X.wb f) (g:=X.fz) r))
  (λk J' Z' y s' Y' e S F x=>hE k J' _ y s' Y' (a3q e) (back S) (FR.wb (X:=X.wb f) (f:=X.fz) F) (XS.le (X:=X) x S1.pers)) ⟨S2.e,F1.step c1.hr S2,j,rfl,hok⟩
theorem a5g{k:Nat}{src:Src}{tb:List S}(hI:zZ X C G d src)(hB:∀f,kG (X.wb f) C G d tb):lE X C G d (.Z k src tb):=by
 intro cx st hT A env J s Y Z c F lo ho;refine ex5 (hT) λx px iter body p q_h=>?_;refine an5 q_h λhe hk hpl h3 h4=>?_;subst he;show SmS X env cx _ (RS.ofE (cX X.ns C J src Z) J λq Z'=>RS.thaw q.1 (forLoop (dH k) (λJ Z=>aH X.ns C J Z tb) q.2 q.1 J Z')) s Y;intro hne Q E hQ hE;refine wpAny_For ?_ (oS h3 env);refine hI cx iter hpl h3 A env J s Y Z c F (λe=>hne (gQ e)) _ _ (λpr Z1 u s1 Y1 e1 S1 i1=>?_) λk Z1 y s1 Y1 e1 S1 xr=>hE k J Z1 y s1 Y1 (lX e1) S1.e (F.step c.hr S1) xr.s;have eq1:=rZ (J:=J) (k:=λ(q:It×Nat) Z'=>RS.thaw q.1 (forLoop (dH k) (λJ Z=>aH X.ns C J Z tb) q.2 q.1 J Z')) e1;rw [eq1] at hne hQ hE;refine tI (c.step S1) i1 (sS hpl e1) λf JJ own s2 hpi c1 j2 S2 hown melt=>?_;refine yN h4 hB c F lo ho S1 c1 j2 S2 hown melt (λv u J J' s Y Z et c F r Q E h=>?_) (λit=>jI it=true) hpi (λs Y Z it r c j hp hr z Q E h=>?_) hne hQ hE
 ·unfold dH at et;revert et;refine ic ite_ (λz et=>?_) λz et=>?_
  ·cases et;exact wpAny_assign_Name (iQ c F ⟨lo.l,lo.c⟩ hk r λs' a b z=>h s' a b)
  ·cases et
 ·refine yD c j hp hr λq s' hq=>?_;have:=h q s' hq λv it' e=>lI (gw hr (gw e rfl)) hp;cases q with
  | none=>exact this
  | some v=>exact Uh this
end
section
variable{X:W}{A:Pf}{d:Nat}{s s':Pb}{Y Y':List Pd}{Z Z':H}{env:zq}{cx:Cx}{J:Env}{C:Calls}{G:GT}{own:List Pd}{it:It}{JJ:Pd}
theorem a2x{k k':Nat}{src:Src}{tb:List S}(L:Leaf X G C d)(hP:yQ X C G d src)(hB:∀f,kG (X.wb f) C G d tb):lE X C G d (.forP k k' src tb):=by
 intro cx st hT A env J s Y Z c F lo ho;refine ex9 (hT) λx px y py tk tp iter body p q_h=>?_;refine an5 q_h λhe hk hk' h3 h4=>?_;subst he;show SmS X env cx _ (RS.ofE (cX X.ns C J src Z) J λq Z'=>RS.thaw q.1 (forLoop (m8 k k') (λJ Z=>aH X.ns C J Z tb) q.2 q.1 J Z')) s Y;intro hne Q E hQ hE;refine wpAny_For ?_ (oS h3 env);have go:∀(pr:It×Nat) Z1 s1 Y1 s2 JJ own f,cX X.ns C J src Z=.ok pr Z1->Step X s Y s1 Y1 Z1->Cn (X.wb f) A d true s1 Y1 Z1->JR (X.wb f) s2.heap Y1 pr.1 JJ own->Step (X.wb f) s1 Y1 s2 Y1 Z1->(∀b∈own,s1.heap.objs.size<=b)->a1s X f pr.1 Y1 ->
   codeAny (Mo X) A (.forLoop (.Tuple [.Name x px,.Name y py] tk tp) (.ref JJ) body [] env) (λr s'=>match r with | .ok f=>Q f s' | .error e=>cameBackBy (Mo X) A env E e s') s2:=by
  intro pr Z1 s1 Y1 s2 JJ own f e1 S1 c1 j S2 hown melt;have eq1:=rZ (J:=J) (k:=λ(q:It×Nat) Z'=>RS.thaw q.1 (forLoop (m8 k k') (λJ Z=>aH X.ns C J Z tb) q.2 q.1 J Z')) e1;rw [eq1] at hne hQ hE;refine yN h4 hB c F lo ho S1 c1 j S2 hown melt (λv u J J' s Y Z et c F r Q E h=>uQ c F ⟨lo.l,lo.c⟩ ho hk hk' et r h) (λw=>True) trivial (λs Y Z it r c j w hr ht Q E h=>a3l c j hr (λv it' e=>?_) λq s' hq=>h q s' hq λw w w=>trivial) hne hQ hE;refine ex2 (ht v it' e) λJ J' et=>?_;refine ex2 (rO et) λa b q_h=>?_;obtain ⟨q_2,_⟩:=q_h;obtain rfl:=q_2;exact ⟨_,rfl⟩
 cases hps:eX src with
 | true=>
  exact hP.i L cx iter hps h3 A env J s Y Z c F (λe=>hne (gQ e)) _ _ (λpr Z1 u s1 Y1 e1 S1 i1=>(tI (c.step S1) i1 (sS hps e1) λf JJ own s2 w c1 j2 S2 hown melt=>go pr Z1 s1 Y1 s2 JJ own f e1 S1 c1 j2 S2 hown melt)) λk Z1 y s1 Y1 e1 S1 xr=>hE k J Z1 y s1 Y1 (lX e1) S1.e (F.step c.hr S1) xr.s
 | false=>
  cases src with
  | enum t=>
   refine ex3 (h3) λq z p' q_h=>?_;refine an3 q_h λhe hg h1=>?_;subst he;refine oA (fv:=.type "enumerate") L c F hg (by decide +kernel) rfl h1 ?_;have hst:evE X.ns C J t Z≠.stuck:=λe=>hne (gQ (eJ e));refine hP cx z h1 A env J s Y Z c F hst _ _ (λv Z1 u s1 Y1 e1 S1 r1=>?_) λk Z1 y s1 Y1 e1 S1 xr=>hE k J Z1 y s1 Y1 (lX (nZ e1)) S1.e (F.step c.hr S1) xr.s;have c1:=c.step S1;cases hl:uO v Z1 with
   | none=>exact Ue (gQ ((gA e1).trans (by show bF ((uO v Z1).map _) Z1=_;exact gw hl rfl))) hne
   | some pr=>
    have e2:cX X.ns C J (.enum t) Z=.ok (.enum pr.1 0,pr.2) Z1:=(gA e1).trans (by show bF ((uO v Z1).map _) Z1=_;exact gw hl rfl);refine ex3 (a5d c1 hl r1) λa l n q_h=>?_;refine an4 q_h λq_3 hm w e=>?_;obtain rfl:=q_3;have Lh:s1.heap.IsList a l.toArray:=⟨_,e,rfl,_,rfl⟩;refine call_enumerate_list Lh λh' q1 q2 q3 q4=>?_;have S2:Step X s1 Y1 { s1 with heap:=h' } Y1 Z1:=Step.grow c1 q4 (by show _<=h'.objs.size;exact gw q3 (zt _ _)) rfl rfl;exact wpAny_pyIter_enum q1 (go _ Z1 s1 Y1 _ _ [s1.heap.objs.size+1,s1.heap.objs.size] X.fz e2 S1 c1 (.enum hm (uo _) q1 q2) S2 (iK ⟨yi _,zf _,trivial⟩) λw R=>R)
  | _=>cases hps
end
theorem cps{p:Prop}(h:∀G:Prop,(p->G)->G):p:=h p id
noncomputable def bmV:List Pa:=[.type "ValueError",.type "Exception",.type "BaseException",.type "object"]
structure XD where
 bm:List Pa
 N:Pd
 nm:Str
 q:Str
 bs:List Pa
 hdct:Bool
 sn:List Str
 sub:List Pa
 ab:Bool
 col:Option Bool
 dd:Option Pd
 k0:Option Pa
 k1:Option Pa
 k2:Option Pa
 k3:Option Pa
 k5:Option Pa
 mN:Str->Option Pa
noncomputable def XD.obj(x:XD)(C:Pd):Obj:=excClassObj x.nm x.q C x.N x.bs x.bm x.hdct x.sn x.sub x.ab x.col x.dd x.k0 x.k1 x.k2 x.k3 x.k5 "ValueError.__new__"
structure ClsAt(X:W)(c:Nat)(x:XD):Prop where
 obj:X.h₀.get? (X.ca c)=some (x.obj (X.ca c))
 ns:X.h₀.Ns x.N x.mN
 ini:x.mN "__init__"=none
 tail:OwnTail X.h₀ bmV x.bm
structure SLeaf(X:W)(G:GT)(sub:Nat->Nat->Bool):Prop where
 one:∀k,k≠0->sub gI k=decide (k=gI)
 isi:∀{A:Pf}{s:Pb}{a:Pd}{oe:Obj}{vs:Array Pa}{Q:Pa->Pb->Prop}{E:Pa->Pb->Prop} (k:Nat),k<G.cls.length->X.K.In s.heap->s.heap.get? a=some oe->IsX (.ref (X.ca gI)) oe->oe.data=.fields vs->(∀tk,Q (.bool (sub gI k)) { s with toks:=tk })->Un (Mo X) A (ya (.builtin "isinstance") [.ref a,.ref (X.ca k)]) Q E s
 isv:∀{A:Pf}{s:Pb}{a:Pd}{oe:Obj}{vs:Array Pa}{Q:Pa->Pb->Prop}{E:Pa->Pb->Prop},X.K.In s.heap->s.heap.get? a=some oe->IsX (.ref (X.ca gI)) oe->oe.data=.fields vs->(∀tk,Q (.bool true) { s with toks:=tk })->Un (Mo X) A (ya (.builtin "isinstance") [.ref a,.type "ValueError"]) Q E s
 cls:∀c,∃x,ClsAt X c x/\∀c',c'<G.cls.length->sub c c'=(Value.ref (X.ca c)::x.bm).contains (.ref (X.ca c'))
section
variable{X:W}{A:Pf}{d:Nat}{s s' s'' s₀:Pb}{Y Y' Y'' Y₀:List Pd}{Z Z' Z'' Z0:H}{env:zq}{cx cx':Cx}{J J' J0:Env}{C:Calls}{G:GT}{own:List Pd}{it:It}{JJ:Pd}
theorem Step.more(S:Step X s Y s' Y' Z')(hB:Base X s.heap){h':Pe}(k:∀b o,s'.heap.get? b=some o->h'.get? b=some o)(z:s.heap.objs.size<=h'.objs.size):Step X s Y { s' with heap:=h' } Y' Z' where
 hr:=S.hr.keeps k
 keep:=λb o hb e=>by obtain ⟨sl,e1,q⟩:=S.keep b o hb e;exact ⟨sl,k _ _ e1,q⟩
 base:=⟨λb o e=>k _ _ (S.base.keep b o e),za hB.size z,S.base.low⟩
 size:=z
 ext:=S.ext
 gens:=S.gens
 os:=S.os
theorem zU(L:Leaf X G C d)(T:SLeaf X G C.sub){k:Nat}:lE X C G d (.raise k):=by
 intro cx st hT A env J s Y Z c F lo ho;refine ex7 (hT) λx np m i ap cp p q_h=>?_;refine an4 q_h λhe hg hix hlen=>?_;subst he;show SmS X env cx _ (.exc k J Z) s Y;intro hne Q E hQ hE;obtain ⟨z,hz,-⟩:=T.cls k;refine ex2 (L.nm.ns) λmg mb q_h=>?_;refine an4 q_h λn1 n2 hcls w=>?_;have hl:Mine.Internal.T G (.k (.str (aC m))) cx (.Constant (.str m) i ap):=⟨_,_,_,rfl,Ua hlen⟩;have hts:Ts G [.k (.str (aC m))] cx [.Constant (.str m) i ap]:=⟨_,_,rfl,hl,rfl⟩;refine gY ?_;refine wpAny_Raise_call_subT (C:=X.ca k) (nm:=z.nm) (q:=z.q) (N:=z.N) (bs:=z.bs) (bm:=z.bm) (hdct:=z.hdct) (sn:=z.sn) (sub:=z.sub) (ab:=z.ab) (col:=z.col) (dd:=z.dd) (k0:=z.k0) (k1:=z.k1) (k2:=z.k2) (k3:=z.k3) (k5:=z.k5)
  PySem.F.excBase_ValueError (mN:=z.mN) (hz.tail.hasType PySem.F.excBase_ValueError.hasBase) (c.rm.handled rfl) (kB hts) hz.ini ?_
 refine fG c F n1 hg (hcls x k hix) ⟨rfl,?_⟩;refine sZ hts ?_;have hev:fK X.ns C J [.k (.str (aC m))] Z=.ok [.str (aC m)] Z:=rfl;refine hZ (p:=cp) (show kW X C G d [.k (.str (aC m))] from ⟨.plain (yT _) rfl,trivial⟩) hts c F (by refine gw hev ?_;intro q;cases q) _ _ (λvs Z1 us s1 Y1 e1 S1 r1=>?_) λk' Z1 y s1 Y1 e1 w w=>by replace e1:=hev▸e1;cases e1
 replace e1:=hev▸e1;cases e1;have hul:us.length=1:=bw (r1.length ..) rfl;refine ⟨rfl,by show us.length<=_;refine gw hul ?_;decide,S1.base.keep _ _ hz.obj,hz.ns.keeps S1.base.keep,hz.tail.keeps S1.base.keep,λh' e hm hz=>?_⟩;have S2:=S1.more c.base hm.keeps hz;obtain ⟨tt,q_h⟩:=(hm.there);refine an3 q_h λh1 h2 h3=>?_;exact hE k J Z (.ref e) _ Y1 rfl S2.e (F.step c.hr S2) ⟨e,none,rfl,⟨S1.pers _ hm.new,_,_,.ref tt,h1,⟨rfl,rfl⟩,rfl,rfl,rfl⟩,.inl rfl⟩
section
variable{M:Model}{A:Pf}{E:Pa->Pb->Prop}
theorem oI{h:Pe}{g:Array GenState}{d:Drawn}{t:Nat}{os:OsState}{e C C':Pd}{oe:Obj}{x x':XD}{Q:Bool->Pb->Prop}(hC:h.get? C=some (x.obj C))(hD:h.get? C'=some (x'.obj C'))(he:h.get? e=some oe)(hcls:oe.cls=.ref C)(hbase:x'.bm.contains (.type "BaseException")=true)(hq:Q ((Value.ref C::x.bm).contains (.ref C')) ⟨h,g,d,t,os⟩):Un M A (excMatches (.ref e) (.ref C')) Q E ⟨h,g,d,t,os⟩:=by
 have hcB:(Value.ref C'::x'.bm).contains (.type "BaseException")=true:=gw (List.contains_cons ..) (gw (hbase ..) (gw (zbr ..) rfl));unfold XD.obj at hC hD;have f:=tc_notTuple;generalize hb:(Value.ref C::x.bm).contains (.ref C')=b at hq;unfold excMatches
 repeat (first | (with_reducible refine wpAny_loadPart_at he ?_;rw [hcls]) | with_reducible refine wpAny_loadPart_at hD ?_ | (with_reducible refine wpAny_isSubtype_exc hD ?_;rw [hcB]) | (with_reducible refine wpAny_isSubtype_exc hC ?_;rw [hb]) | wp_step)
 all_goals (cases b <;> (wp_walk;exact hq))
end
theorem Cn.mark(c:Cn X A d true s Y Z)(a:Pd):Cn X (A.mark (some (.ref a))) d false s Y Z:=⟨⟨c.rm.depth,c.rm.units,(λh=>by cases h),by intro q;cases q⟩,c.hr,c.base,c.fs,c.scr,c.fz⟩
theorem gU.mark(h:gU A env)(a:Pd):gU (A.mark (some (.ref a))) env:=h
end
structure HI(X:W)(A:Pf)(d:Nat)(hn:Bool)(env:zq)(cx:Cx)(J:Env)(s₀:Pb)(Y₀:List Pd)(a:Pd)(y:Str)(on:Bool)(s:Pb)(Y:List Pd)(Z:H)(m:Str->Option Pa):Prop where
 c:Cn X A d hn s Y Z
 F:FR X env cx J s.heap Y
 S:StepE X env s₀ Y₀ s Y Z
 o:∃oe vs,s.heap.get? a=some oe/\IsX (.ref (X.ca gI)) oe/\oe.data=.fields vs
 n:s.heap.Ns env.locals m
 y:on=true->m y=some (.ref a)
section
variable{X:W}{A:Pf}{d:Nat}{hn:Bool}{s s' s₀:Pb}{Y Y₀:List Pd}{Z:H}{env:zq}{cx:Cx}{J:Env}{C:Calls}{G:GT}{a:Pd}{x y:Str}{on on':Bool}{m:Str->Option Pa}{Q:Pa->Pb->Prop}{E:Pa->Pb->Prop}
theorem HI.grow(H:HI X A d hn env cx J s₀ Y₀ a y on s Y Z m)(k:∀b o,s.heap.get? b=some o->s'.heap.get? b=some o)(z:s.heap.objs.size<=s'.heap.objs.size)(hg:s'.gens=s.gens)(ho:s'.os=s.os):HI X A d hn env cx J s₀ Y₀ a y on s' Y Z m:=
 have S1:Step X s Y s' Y Z:=Step.grow H.c k z hg ho
 ⟨H.c.step S1,H.F.step H.c.hr S1,H.S.trans S1.e,ex2 H.o λoe vs q=>⟨oe,vs,k _ _ q.1,q.2⟩,H.n.keeps k,H.y⟩
theorem HI.toks(H:HI X A d hn env cx J s₀ Y₀ a y on s Y Z m)(t:Nat):HI X A d hn env cx J s₀ Y₀ a y on { s with toks:=t } Y Z m:=H.grow (λz z e=>e) (zf _) rfl rfl
theorem HI.push(H:HI X A d hn env cx J s₀ Y₀ a y on s Y Z m)(o:Obj)(t:Nat):HI X A d hn env cx J s₀ Y₀ a y on { s with heap:=s.heap.push o,toks:=t } Y Z m:=H.grow (λz z e=>zo _ e) (by show _<=(s.heap.push o).objs.size;exact gw (wk ..) (yi _)) rfl rfl
theorem HI.name(H:HI X A d hn env cx J s₀ Y₀ a y on s Y Z m){p:Pos}{u:Pa}(hl:cx.kinds.lookup x=some .local)(hd:x≠"__debug__")(hu:m x=some u)(h:Q u s):Un (Mo X) A (eval (.Name x p) env) Q E s:=
 wpAny_Name (wpAny_loadName_local H.F.kind (gw (H.F.kindOf ..) hl) H.n hu h) (beq_eq_false_iff_ne.mpr hd)
theorem HI.frame(H:HI X A d hn env cx J s₀ Y₀ a y on s Y Z m)(lo:Lo X env)(ho:gU A env){m':Str->Option Pa}{h':Pe}{t:Nat}(hn':h'.Ns env.locals m')(hs':Heap.SameBut env.locals s.heap h')(hm:∀z j w,cx.slots.lookup z=some j->J[j]?=some (some w)->m' z=m z):
  Cn X A d hn { s with heap:=h',toks:=t } Y Z/\FR X env cx J h' Y/\StepE X env s₀ Y₀ { s with heap:=h',toks:=t } Y Z/\∃oe vs,h'.get? a=some oe/\IsX (.ref (X.ca gI)) oe/\oe.data=.fields vs:=by
 have F:=H.F;have hsf:iZ s.heap Y env.locals:=qX H.n F.offL _ (ze.mpr rfl);have M:Move [env.locals] s { s with heap:=h',toks:=t }:=⟨λb o hb e=>(hs'.2 b λq=>hb (q▸m0)).trans e,zu hs'.1.symm,rfl,rfl⟩;have sf:∀b∈[env.locals],iZ s.heap Y b:=λb hb=>gw (ze.mp hb ..) hsf;have S1:StepE X env s Y { s with heap:=h',toks:=t } Y Z:=.of_move H.c M (.inl rfl) lo hsf (by obtain ⟨o,_,_,e,_⟩:=hn';exact ⟨o,e⟩);have F':FR X env cx J h' Y:={ F with
  ns:=⟨m',hn',λz j w e1 e2 e3=>by
   obtain ⟨mo,no,ho⟩:=F.ns;obtain ⟨u,a1,a2⟩:=ho z j w e1 e2 e3;exact ⟨u,(hm z j w e2 e3).trans ((congrFun ((Heap.Ns.eq_nsMap H.n).trans (Heap.Ns.eq_nsMap no).symm) z).trans a1),M.vr sf a2⟩⟩
  cell:=λz j e1 e2=>by
   refine ex2 (F.cell z j e1 e2) λcc w q_h=>?_;refine an3 q_h λa1 a2 a3=>?_;exact ⟨cc,w,a1,a2.sameBut hs' ((F.offC z cc a1).2.1),λv hv=>by obtain ⟨u,b1,b2⟩:=a3 v hv;exact ⟨u,b1,M.vr sf b2⟩⟩
  offC:=λz cc e=>⟨(F.offC z cc e).1,(F.offC z cc e).2.1,zj (F.offC z cc e).2.2 M.size⟩ }
 refine ⟨H.c.stepE S1 F' ho,F',H.S.trans S1,ex2 H.o λoe vs q=>⟨oe,vs,(hs'.2 a λh=>?_).trans q.1,q.2⟩⟩;subst h;refine ex3 H.n λo es ep r=>?_;cases q.1.symm.trans r.1;cases q.2.2.symm.trans r.2.1
theorem uX{t:Nat}{w:V}(h:jQ J t=true)(e:J[t]?=some (some w)):False:=by unfold jQ at h;replace h:=e▸h;cases h
theorem HI.store(H:HI X A d hn env cx J s₀ Y₀ a y on s Y Z m)(lo:Lo X env)(ho:gU A env){t:Nat}{u:Pa}(hs:cx.slot x=some t)(hl:cx.kinds.lookup x=some .local)(ht:jQ J t=true)(hy:(if y=x then some u else m y)=some (.ref a)){Q:Unit->Pb->Prop}(h:∀s' m',HI X A d hn env cx J s₀ Y₀ a y true s' Y Z m'->m' x=some u->(∀b o,b≠env.locals->s.heap.get? b=some o->s'.heap.get? b=some o)->Q () s'):Un (Mo X) A (storeName env x u) Q E s:=by
 refine wpAny_storeName_local (gw (H.F.kindOf ..) hl) H.n (λh' hn' hs'=>?_) (gw (H.F.kind ..) rfl);refine an4 (H.frame (t:=s.toks+1) lo ho hn' hs' λz j w e1 e2=>Ub λq=>?_) λc' F' S' o'=>h _ _ ⟨c',F',S',o',hn',λv=>hy⟩ (Ua rfl) λb o hb e=>(hs'.2 b hb).trans e;subst q;cases (lL hs).1.symm.trans e1;exact uX ht e2
noncomputable def NL(h:Pe)(n:Nat)(L:Pd):Prop:=∃c,h.get? L=some { cls:=.type "list",data:=.seq (wf n (.bool false)).toArray c }
theorem HI.off(H:HI X A d hn env cx J s₀ Y₀ a y on s Y Z m){n:Nat}{L:Pd}(l:NL s.heap n L):L≠env.locals:=λq=>by subst q;obtain ⟨c,e⟩:=l;refine ex3 H.n λo es ep r=>?_;cases e.symm.trans r.1;cases r.2.1
theorem HI.call(L:Leaf X G C d)(H:HI X A d hn env cx J s₀ Y₀ a y true s Y Z m){w:Pa}{q pa b p:Pos}(hg:cx.glob "isinstance"=true)(hl:cx.kinds.lookup y=some .local)(hd:y≠"__debug__")(hw:∀{Q:Pa->Pb->Prop},Q w s->Un (Mo X) A (eval (.Name x b) env) Q E s)(h:Un (Mo X) A (ya (.builtin "isinstance") [.ref a,w]) Q E s):Un (Mo X) A (eval (.Call (.Name "isinstance" q) [.Name y pa,.Name x b] [] p) env) Q E s:=by
 refine ex2 (L.nm.ns) λmg mb q_h=>?_;refine an7 q_h λn1 n2 z z hbi z z=>?_;obtain ⟨e1,e2⟩:=hbi "isinstance" (.builtin "isinstance") (by decide +kernel);exact Call_ (dD H.c H.F n1 n2 hg e1 e2 (PySem.W.callWith_of (P:=λz=>True) rfl (λz z=>⟨_,.inr (.inl rfl),PySem.W.Looks.of_pure rfl⟩) (evalArgs_plain (spliced_cons (H.name hl hd (H.y rfl) (spliced_cons (hw (spliced_nil ⟨trivial,h⟩))))))))
theorem HI.isi(L:Leaf X G C d)(T:SLeaf X G C.sub)(H:HI X A d hn env cx J s₀ Y₀ a y true s Y Z m)(hl:cx.kinds.lookup y=some .local)(hd:y≠"__debug__"){k:Nat}{e:Pg}(hT:IsT G cx y k e)(h:∀tk,Q (.bool (C.sub gI k)) { s with toks:=tk }):Un (Mo X) A (eval e env) Q E s:=by refine ex5 hT λq pa x b p r=>?_;refine an4 r λhe hg hx hc=>?_;subst he;refine ex2 (L.nm.ns) λmg mb q_h=>?_;refine an4 q_h λn1 n2 hcls z=>?_;exact ex2 H.o λoe vs r=>H.call L hg hl hd (λh=>fG H.c H.F n1 hx (hcls x k hc) h) (T.isi k (zc.mp hc).1 (L.nm.kin.keeps H.c.base.keep) r.1 r.2.1 r.2.2 h)
theorem HI.isv(L:Leaf X G C d)(T:SLeaf X G C.sub)(H:HI X A d hn env cx J s₀ Y₀ a y true s Y Z m)(hl:cx.kinds.lookup y=some .local)(hd:y≠"__debug__"){e:Pg}(hT:aDu cx y e)(h:∀tk,Q (.bool true) { s with toks:=tk }):Un (Mo X) A (eval e env) Q E s:=by refine ex4 hT λq pa b p r=>?_;refine an3 r λhe hg hx=>?_;subst he;refine ex2 (L.nm.ns) λmg mb q_h=>?_;refine an7 q_h λn1 n2 z z hbi z z=>?_;obtain ⟨e1,e2⟩:=hbi "ValueError" (.type "ValueError") (by decide +kernel);exact ex2 H.o λoe vs r=>H.call L hg hl hd (λh=>dD H.c H.F n1 n2 hx e1 e2 h) (T.isv (L.nm.kin.keeps H.c.base.keep) r.1 r.2.1 r.2.2 h)
theorem HI.args(L:Leaf X G C d)(T:SLeaf X G C.sub)(hl:cx.kinds.lookup y=some .local)(hd:y≠"__debug__"){p:Pos}{ks:List Nat}:∀{es:List Pg}{s:Pb}{Q:List Pa->Pb->Prop},HI X A d hn env cx J s₀ Y₀ a y true s Y Z m->a6s G cx y ks es->(ks.all λk=>k != 0&&k != gI)=true->(∀tk,Q (wf ks.length (.bool false)) { s with toks:=tk }) ->
  Un (Mo X) A (spliced (backTo p (Ul es env))) Q E s:=by
 induction ks with
 | nil=>intro es s Q H h _ hQ;cases h;exact args_nil (hQ s.toks)
 | cons k ks ih=>
  intro es s Q H h hk hQ;refine ex2 h λe r q=>?_;refine an3 q λq1 h1 h2=>?_;subst q1;obtain ⟨k1,k2⟩:=zz.mp (show ((k != 0&&k != gI)&&ks.all λk=>k != 0&&k != gI)=true from hk);obtain ⟨k3,k4⟩:=zz.mp k1;exact args_cons (H.isi L T hl hd h1 λtk=>(gw ((T.one k (bne_iff_ne.mp k3)).trans (Ud (bne_iff_ne.mp k4))) (ih (H.toks tk) h2 k2 λtk=>hQ tk))) (by obtain ⟨_,_,_,_,_,rfl,_⟩:=h1;rfl)
theorem HI.list(L:Leaf X G C d)(T:SLeaf X G C.sub)(H:HI X A d hn env cx J s₀ Y₀ a y true s Y Z m)(hl:cx.kinds.lookup y=some .local)(hd:y≠"__debug__"){ks:List Nat}{e:Pg}(hT:LsT G cx y ks e)(hk:(ks.all λk=>k != 0&&k != gI)=true)(hz:ks.length<=sizeLine)(h:∀s' D,HI X A d hn env cx J s₀ Y₀ a y true s' Y Z m->NL s'.heap ks.length D->(∀b o,s.heap.get? b=some o->s'.heap.get? b=some o)->Q (.ref D) s'):Un (Mo X) A (eval e env) Q E s:=by
 refine ex2 hT λl p q=>?_;obtain ⟨q1,h1⟩:=q;subst q1;exact List_ (H.args L T hl hd h1 hk λtk=>wpAny_newObj_type (h _ _ (H.push _ tk) ⟨_,yn _ rfl⟩ λz z e=>zo _ e) (by show (wf ks.length (Value.bool false)).toArray.size<=sizeLine;rw [yp,js];exact hz))
theorem HI.add(H:HI X A d hn env cx J s₀ Y₀ a y true s Y Z m){D D':Pd}{n n':Nat}(l:NL s.heap n D)(l':NL s.heap n' D')(hz:n+n'<=sizeLine)(h:∀s' B,HI X A d hn env cx J s₀ Y₀ a y true s' Y Z m->NL s'.heap (n+n') B->Q (.ref B) s'):Un (Mo X) A (binaryOp .Add (.ref D) (.ref D')) Q E s:=by
 obtain ⟨c,e⟩:=l;obtain ⟨c',e'⟩:=l';have q:(wf n (Value.bool false)).toArray++(wf n' (Value.bool false)).toArray=(wf (n+n') (Value.bool false)).toArray:=by rw [List.append_toArray,List.replicate_append_replicate]
 exact P.add_list e e' (gw q (h _ _ (H.push _ s.toks) ⟨_,yn _ rfl⟩)) (by rw [yp,yp,js,js];exact hz)
theorem zI{x:Str}{v:V}(h:u8 (.str x)=some v):v=.str (aC x):=by
 by_cases q:(aC x).length<=4096
 ·exact (Option.some.inj ((Ua q).symm.trans h)).symm
 ·cases (Ub q).symm.trans h
theorem HI.noes(H:HI X A d hn env cx J s₀ Y₀ a y true s Y Z m){D:Pd}{n:Nat}(hl:cx.kinds.lookup x=some .local)(hd:x≠"__debug__")(hx:m x=some (.ref D))(hL:NL s.heap n D){e:Pg}(hT:aBt G cx x e)(h:∀tk,Q (.bool true) { s with toks:=tk }):Un (Mo X) A (eval e env) Q E s:=by
 obtain ⟨c,hL⟩:=hL;refine ex3 hT λl r p q=>?_;refine an3 q λq1 h1 h2=>?_;subst q1;refine ex5 h1 λq ap i ip p' r'=>?_;obtain ⟨q1,hli⟩:=r';subst q1;refine ex3 h2 λk j jp q=>?_;obtain ⟨q1,hk⟩:=q;subst q1;have hk0:k=.int 0:=by cases k <;> first | (cases zI hk;done) | (cases hk;done) | skip;cases hk;rfl
 subst hk0;refine wpAny_Compare1 (wpAny_Call_method_lateS rfl rfl (gw hli (beq_self_eq_true _)) (H.name hl hd hx ⟨"list","list.count",PySem.F.plainAttrs_list,PySem.F.slot_list_count,PySem.F.type_list_count,⟨_,hL,rfl⟩,(λb e=>by cases e;exact ⟨_,hL,rfl⟩),?_⟩)) rfl;refine fW (G:=G) (cx:=cx) (ts:=[.k (.bool true)]) ⟨_,_,rfl,⟨_,_,_,rfl,rfl⟩,rfl⟩ rfl (args_cons (Constant_bool (args_nil ?_)));refine call_meets PySem.F.slot_list_count ⟨_,hL,rfl⟩ PySem.F.entry_list_count (PySem.F.args_list_count_2 _ _) (list_countAt D _ c none _ (.bool true) λv=>false) ⟨hL,λz hz=>?_,?_⟩
 ·cases List.eq_of_mem_replicate (List.mem_toArray.mp hz);exact EqAt.bool_bool false true
 ·exact gw (show ((wf n (Value.bool false)).toArray.toList.countP λv=>false)=0 from List.countP_eq_zero.mpr λv v q=>by cases q) (wpAny_Constant_int (RcAt.int_int 0 _ 0 _ X.prog X.w _ _ (h _)))
theorem HI.last(L:Leaf X G C d)(T:SLeaf X G C.sub)(H:HI X A d hn env cx J s₀ Y₀ a y true s Y Z m)(hl:cx.kinds.lookup y=some .local)(hd:y≠"__debug__")(hlx:cx.kinds.lookup x=some .local)(hdx:x≠"__debug__"){D:Pd}{n k:Nat}{e:Pg}{w:V}(hx:m x=some (.ref D))(hL:NL s.heap n D)(hT:aDe G cx x y k e)(hw:J[k]?=some (some w))(h:∀tk,Q (.bool (dX w)) { s with toks:=tk }):Un (Mo X) A (eval e env) Q E s:=by
 refine ex5 hT λea eb ec ee p3 q3=>?_;refine an5 q3 λq1 g1 g2 g3 g4=>?_;subst q1;refine BoolOp_and ?_;refine ex3 g1 λl3 r3 p3 q3=>?_;refine an3 q3 λq1 k1 k2=>?_;subst q1;obtain ⟨u,ru,hu⟩:=a4u (A:=A) H.F k1 hw;refine wpAny_Compare1 (hu _ _ ?_) (k2.facts.marks _);refine ex3 k2 λkk i ip q=>?_;obtain ⟨q1,hk⟩:=q;subst q1;have hkk:kk=.none:=by cases kk <;> first | rfl | (cases zI hk;done) | (cases hk;done)
 subst hkk;refine Constant_none (is_none_gen ?_);refine gw (ru.none_iff ..) ?_;generalize dX w=b at h;cases b with
 | false=>exact Ui (h _)
 | true=>
  exact Ui (BoolOp_and (H.isi L T hl hd g2 λtk=>(gw ((T.one 8 (by decide)).trans (Uc rfl)) (Ui (BoolOp_and ((H.toks tk).isv L T hl hd g3 λtk=>Ui (BoolOp_one ((H.toks tk).noes hlx hdx hx hL g4 h))))))))
theorem HI.chk(L:Leaf X G C d)(T:SLeaf X G C.sub)(H:HI X A d hn env cx J s₀ Y₀ a y true s Y Z m)(lo:Lo X env)(ho:gU A env){k t:Nat}{b:List Ph}{w:V}(hl:cx.kinds.lookup y=some .local)(hT:aAh G cx y k t b)(hw:J[k]?=some (some w))(ht:jQ J t=true){Q:Flow->Pb->Prop}(h:∀s' m',HI X A d hn env cx J s₀ Y₀ a y true s' Y Z m'->Q (.ret (.bool (dX w))) s'):Un (Mo X) A (execs b env) Q E s:=by
 refine ex9 hT λx xp u p xq v q z r rr=>?_;refine an7 rr λq1 hs hx hxy hdx hdy rr=>?_;refine an3 rr λh1 h2 h3=>?_;subst q1;refine wpAny_execs_cons (wpAny_Assign_Name (H.list L T hl hdy h1 rfl (by decide) λs1 D1 H1 l1 o=>H1.store lo ho hs hx ht ((Ub hxy.symm).trans (H.y rfl)) λs2 m2 H2 hm2 k2=>?_) (by obtain ⟨_,_,rfl,_⟩:=h1;rfl));have l2:NL s2.heap 4 D1:=l1.imp λo e=>k2 _ _ (H1.off l1) e;refine ex3 h2 λl2' r2 p2 q2=>?_;refine an3 q2 λq1 hn2 h2'=>?_;subst q1;obtain ⟨np,rfl⟩:=hn2;exact wpAny_execs_cons (wpAny_Assign_Name (wpAny_BinOp (H2.name hx hdx hm2 (H2.list L T hl hdy h2' rfl (by decide) λs3 D3 H3 l3 k3=>H3.add (l2.imp λo e=>k3 _ _ e) l3 (by decide) λs4 D4 H4 l4=>H4.store lo ho hs hx ht ((Ub hxy.symm).trans (H2.y rfl)) λs5 m5 H5 hm5 k5=>(wpAny_execs_cons (wpAny_Return_some (H5.last L T hl hdy hx hdx hm5 (l4.imp λo e=>k5 _ _ (H4.off l4) e) h3 hw λtk=>h _ _ (H5.toks tk))))))))
end
section
variable{X:W}{A:Pf}{d:Nat}{s s' s₀:Pb}{Y Y' Y₀:List Pd}{Z Z':H}{env:zq}{cx:Cx}{J J':Env}{C:Calls}{G:GT}{k:Nat}{a:Pd}{R:Result->Pb->Prop}{b:List Ph}{hp:Pos}
theorem aDp(hB:Base X s₀.heap)(ho:gU A env){v:V}(hb:∃e p,b=[.Return (some e) p]/\T G (.k v) cx e)(c:Cn X A d false s Y Z)(F:FR X env cx J s.heap Y)(S:StepE X env s₀ Y₀ s Y Z)(f:Fly s₀.heap (.ref (X.ca k)) a (some .none) s.heap)(hQ:∀fl s' Y',StepE X env s₀ Y₀ s' Y' Z->FR X env cx J s'.heap Y'->FlR X s'.heap Y' (.ret v) fl->R (.ok fl) s'):codeAny (Mo X) A (.handlers (.ref a) [.ExceptHandler none none b hp] env) R s:=by
 refine ex2 hb λr rp q=>?_;obtain ⟨q,h2⟩:=q;subst q;refine codeAny_handlers_suite (mU c F ho S hB rfl f none λs3 S3 F3 c3 f3=>?_);refine wpAny_execs_cons (wpAny_Return_some (wT c3 h2 (by intro q;cases q) _ _ (λw Z1 u s4 Y4 e4 S4 r4=>?_) λz z z z z e4=>by cases e4));cases e4;exact hQ _ s4 Y4 (S3.trans S4.e) (F3.step c3.hr S4) (.ret r4)
theorem aBs(hB:Base X s₀.heap)(lo:Lo X env)(ho:gU A env){j:Nat}{v:V}(hb:∃x px e p,b=[.Assign [.Name x px] e p]/\cx.slot x=some j/\T G (.k v) cx e)(c:Cn X A d false s Y Z)(F:FR X env cx J s.heap Y)(S:StepE X env s₀ Y₀ s Y Z)(f:Fly s₀.heap (.ref (X.ca k)) a (some .none) s.heap)(hQ:∀s' Y',j<J.length->StepE X env s₀ Y₀ s' Y' Z->FR X env cx (J.set j (some v)) s'.heap Y'->R (.ok .next) s'):codeAny (Mo X) A (.handlers (.ref a) [.ExceptHandler none none b hp] env) R s:=by
 refine ex4 hb λy py r rp q=>?_;refine an3 q λq hk h2=>?_;subst q;refine codeAny_handlers_suite (mU c F ho S hB rfl f none λs3 S3 F3 c3 f3=>?_);refine wpAny_execs_cons (wpAny_Assign_Name (wT c3 h2 (by intro q;cases q) _ _ (λw Z1 u s4 Y4 e4 S4 r4=>?_) λz z z z z e4=>by cases e4) (h2.facts.swap rfl _ _ _));cases e4;exact iQ (c3.step S4) (F3.step c3.hr S4) lo hk r4 λs5 S5 F5 z=>wpAny_execs_nil (hQ s5 Y4 (xP F hk) ((S3.trans S4.e).trans S5) F5)
theorem aDc(L:Leaf X G C d)(T:SLeaf X G C.sub)(hB:Base X s₀.heap)(lo:Lo X env)(ho:gU A env){j t u:Nat}{w:V}{y:Str}{B:Pf}{Q:Flow->Pb->Prop}{E:Pa->Pb->Prop}(hy:cx.slot y=some u)(hly:cx.kinds.lookup y=some .local)(hT:aAh G cx y j t b)(hj:J[j]?=some (some w))(ht:jQ J t=true)(hu:jQ J u=true)(c:Cn X A d false s Y Z)(F:FR X env cx J s.heap Y)(S:StepE X env s₀ Y₀ s Y Z)(f:Fly s₀.heap (.ref (X.ca gI)) a (some .none) s.heap)(hQ:∀s' Y',StepE X env s₀ Y₀ s' Y' Z->FR X env cx J s'.heap Y'->Q (.ret (.bool (dX w))) s')(hR:∀f s',Un (Mo X) B (do bindName env y .none;unbindBehindTheSuite env y hp) (λx s3=>Q f s3) E s'->R (.ok f) s'):codeAny (Mo X) A (.handlers (.ref a) [.ExceptHandler none (some y) b hp] env) R s:=by
 have hb:∃b0 br,b=b0::br:=ex9 hT λx x x x x x x x x q=>⟨_,_,q.1⟩;refine ex2 hb λb0 br q=>?_;subst q;refine codeAny_handlers_suite_as (mU c F ho S hB rfl f none λs3 S3 F3 c3 f3=>?_);obtain ⟨m,nn,-⟩:=F3.ns;have H0:HI X A d false env cx J s₀ Y₀ a y false s3 Y Z m:=⟨c3,F3,S3,ex3 f3.obj λoe vs x q=>⟨oe,vs,q.1,q.2.1,q.2.2.1⟩,nn,λq=>by cases q⟩;refine H0.store lo ho hy hly hu (Ua rfl) λs4 m₄ H1 x x=>H1.chk L T lo ho hly hT hj ht λs5 m5 H5=>hR _ _ ?_;refine wpAny_nameGoes_keeps (gw (H5.F.kindOf ..) hly) H5.n (gw (H5.F.kind ..) rfl) λh6 v hn6 hs6=>?_;refine an4 (H5.frame (t:=s5.toks+1) lo ho hn6 hs6 λz i w e1 e2=>Ub λq=>?_) λc6 F6 S6 x=>hQ _ Y S6 F6;subst q;cases (lL hy).1.symm.trans e1;exact uX hu e2
theorem a7t{j t u:Nat}(h:evH (.chk j t u) k J Z≠.stuck):∃w,J[j]?=some (some w)/\k=gI/\jQ J t=true/\jQ J u=true/\evH (.chk j t u) k J Z=.ok (.ret (.bool (dX w))) J Z:=by
 unfold evH at h ⊢;dsimp only at h ⊢;rcases hj:J[j]? with _ | _ | w
 ·rw [hj] at h;exact Ue rfl h
 ·rw [hj] at h;exact Ue rfl h
 ·rw [hj] at h;by_cases hc:k=gI/\jQ J t=true/\jQ J u=true
  ·exact ⟨w,rfl,hc.1,hc.2.1,hc.2.2,Ua hc⟩
  ·exact Ue (Ub hc) h
theorem aGv(L:Leaf X G C d)(T:SLeaf X G C.sub){k:Nat}(hB:Base X s₀.heap)(lo:Lo X env)(ho:gU A env){ths:List (Nat×Hd)}:∀{hs:List ExceptHandler},THs G cx ths hs ->
  ∀{s:Pb}{Y:List Pd}{Z:H}{J:Env}{a:Pd},Cn X A d true s Y Z->FR X env cx J s.heap Y->StepE X env s₀ Y₀ s Y Z->Fly s₀.heap (.ref (X.ca k)) a (some .none) s.heap ->
  p8 C.sub k J Z ths≠.stuck->∀{Q:Flow->Pb->Prop}{E:Pa->Pb->Prop},
  (∀f J' Z' fl s' Y',p8 C.sub k J Z ths=.ok f J' Z'->StepE X env s₀ Y₀ s' Y' Z'->FR X env cx J' s'.heap Y'->FlR X s'.heap Y' f fl->Q fl s')->Un (Mo X) A (handleBy (.ref a) env hs) Q E s:=by
 induction ths with
 | nil=>intro _ _ _ _ _ _ _ _ _ _ _ hne;exact Ue rfl hne
 | cons h ths ih=>
  obtain ⟨j,h⟩:=h;intro hs ht s Y Z J a c F S f hne Q E hQ;refine ex6 ht λx xp n b hp hr q=>?_;refine an5 q λhe hg hix hb hr'=>?_;subst he;refine ex2 (L.nm.ns) λmg mb q_h=>?_;refine an4 q_h λn1 n2 hcls r=>?_;obtain ⟨z,hz,hsub⟩:=T.cls k;obtain ⟨z',hz',-⟩:=T.cls j;refine wpAny_handleBy_cons (codeAny_handlers_test (fG (c.mark a) F n1 hg (hcls x j hix) ?_)) (by intro q;cases q);refine ex3 f.obj λoe vs r q=>?_;refine oI (c.base.keep _ _ hz.obj) (c.base.keep _ _ hz'.obj) q.1 q.2.1.1 (hz'.tail.hasType PySem.F.excBase_ValueError.hasBase) ?_;refine bw (hsub j (zc.mp hix).1) ?_;have e:p8 C.sub k J Z ((j,h)::ths)=if C.sub k j then evH h k J Z else p8 C.sub k J Z ths:=rfl;cases hb':C.sub k j with
  | false=>
   replace e:=hb'▸e;exact ih hr' c F S f (λq=>hne (e.trans q)) λf J' Z' fl s' Y' q=>hQ f J' Z' fl s' Y' (e.trans q)
  | true=>
   replace e:=hb'▸e;cases h with
   | ret v=>
    obtain ⟨rfl,hb⟩:=hb;exact aDp hB (ho.mark a) hb (c.mark a) F S f λfl s' Y'=>hQ _ J Z fl s' Y' e
   | set i v=>
    obtain ⟨rfl,hb⟩:=hb;exact aBs hB lo (ho.mark a) hb (c.mark a) F S f λs' Y' hi S' F'=>hQ _ _ Z _ s' Y' (e.trans (Ua hi)) S' F' .next
   | chk i t u=>
    obtain ⟨y,rfl,hy,hly,hT⟩:=hb;obtain ⟨w,hw⟩:=a7t λq=>hne (e.trans q);refine an5 hw λhj hk ht hu ev=>?_;subst hk;exact aDc L T hB lo (ho.mark a) hy hly hT hj ht hu (c.mark a) F S f (λs' Y' S' F'=>hQ _ J Z _ s' Y' (e.trans ev) S' F' (.ret (.bool _))) λr r h=>h
theorem a7l(L:Leaf X G C d)(T:SLeaf X G C.sub){tb:List Mine.Internal.S}{ths:List (Nat×Hd)}(hb:kG X C G d tb):lE X C G d (.try tb ths):=by
 intro cx st hT A env J s Y Z c F lo ho;refine ex4 hT λbody h0 hs p q=>?_;refine an3 q λhe h1 h2=>?_;subst he;have hev:∀r,aH X.ns C J Z tb=r->evS X.ns C J Z (.try tb ths)=match r with | .exc c J' Z'=>p8 C.sub c J' Z' ths | r=>r:=λr e=>by subst e;rfl
 intro hne Q E hQ hE;refine wpAny_Try_except (hb cx body h1 A env J s Y Z c F lo ho (λe=>hne (hev _ e)) _ _ (λf J' Z' fl s' Y' e' S' F' r'=>?_) λk J' Z' y s' Y' e' S' F' x'=>?_)
 ·cases r' with
  | next=>exact wpAny_execs_nil (hQ _ J' Z' _ s' Y' (hev _ e') S' F' .next)
  | ret r=>exact hQ _ J' Z' _ s' Y' (hev _ e') S' F' (.ret r)
 ·have e2:=hev _ e';refine tB (c.stepE S' F' ho) F' ho S' c.base rfl x' λs1 a he S1 F1 c1' f1=>?_;subst he;exact mU c1' F1 ho S1 c.base rfl f1 none λs2 S2 F2 c2 f2=>aGv L T c.base lo ho h2 c2 F2 S2 f2 (λq=>hne (e2.trans q)) λf J' Z' fl s' Y' q=>hQ f J' Z' fl s' Y' (e2.trans q)
end
section
variable{X:W}{d:Nat}{G:GT}{C:Calls}
structure LL(X:W)(G:GT)(C:Calls)(d:Nat):Prop where
 l:∀f,Leaf (X.wb f) G C d
 t:∀f,SLeaf (X.wb f) G C.sub
theorem a1w{P:E->Prop}{e:E}(h:jF e=true)(h1:∀s t,P (.comp s t))(h2:∀s t c,P (.J s t c)):P e:=by cases e <;> first | (cases h;done) | exact h1 _ _ | exact h2 _ _ _
mutual
theorem a3b(L:LL X G C d):∀(t:S) (f:Fz),lE (X.wb f) C G d t
 | .a k e,f=>by
  cases hc:jF e with
  | false=>exact v9 (aR L.l e f).ev hc
  | true=>
   refine a1w (P:=λe=>lE (X.wb f) C G d (.a k e)) hc (λz z=>?_) λz z z=>?_
   ·exact nI (L.l f) (cond:=none) ⟨(gR L.l _ f).i (L.l f),λg=>(aR L.l _ g).ev,λz z h=>by cases h⟩
   ·exact nI (L.l f) (cond:=some _) ⟨(gR L.l _ f).i (L.l f),λg=>(aR L.l _ g).ev,λg z h=>Option.some.inj h▸(aR L.l _ g).tr⟩
 | .Y a x e,f=>uM (L.l f) (aR L.l a f).ev (aR L.l e f).ev
 | .T a i e,f=>vA (aR L.l a f).ev (aR L.l i f).ev (aR L.l e f).ev
 | .expr e,f=>a4p (aR L.l e f).ev
 | .ret e,f=>aAi (aR L.l e f).ev
 | .x c a b,f=>a8a (aR L.l c f).tr (fI L a f) (fI L b f)
 | .Z k src b,f=>a5g ((gR L.l src f).i (L.l f)) λg=>fI L b g
 | .forP k k' src b,f=>a2x (L.l f) (gR L.l src f) λg=>fI L b g
 | .raise c,f=>zU (L.l f) (L.t f)
 | .dead,f=>a4x
 | .try b hs,f=>a7l (L.l f) (L.t f) (fI L b f)
theorem fI(L:LL X G C d):∀(ts:List S) (f:Fz),kG (X.wb f) C G d ts
 | [],_=>aAd
 | t::ts,f=>a5r (a3b L t f) (fI L ts f)
end
end
theorem w4{p:Str×Pi}{r:List (Str×Pi)}{i k:Nat}{x:Str}{G:Prop}(h:(x,k)∈aT (p::r) i)(h1:gL p.2=true->x=p.1->k=i->G)(h2:gL p.2=true->(x,k)∈aT r (i+1)->G)(h3:gL p.2=false->(x,k)∈aT r i->G):G:=by
 replace h:(x,k)∈cond (gL p.2) ((p.1,i)::aT r (i+1)) (aT r i):=h;cases e:gL p.2 with
 | false=>replace h:=e▸h;exact h3 e h
 | true=>replace h:=e▸h;exact (ye.mp h).elim (λq=>h1 e (Uf Prod.fst q) (Uf Prod.snd q)) (h2 e)
theorem wQ{l:List (Str×Pi)}{i:Nat}{x:Str}{k:Nat}(h:(x,k)∈aT l i):i<=k:=by
 induction l generalizing i with
 | nil=>cases h
 | cons p r ih=>exact w4 h (λz z e=>zu e.symm) (λz q=>gu (ih q)) λz=>ih
theorem jO{l:List (Str×Pi)}{i:Nat}{x:Str}{k:Nat}(h:(x,k)∈aT l i):(aT l i)[k-i]?=some (x,k):=by
 induction l generalizing i with
 | nil=>cases h
 | cons p r ih=>
  show (cond (gL p.2) ((p.1,i)::aT r (i+1)) (aT r i))[k-i]?=_;refine w4 h (λe e1 e2=>?_) (λe q=>gw e ?_) λe q=>gw e (ih q)
  ·subst e1 e2;exact gw e (gw (vz ..) rfl)
  ·exact gw (show k-i=(k-(i+1))+1 from (Nat.sub_add_cancel (vx (wQ q))).symm) (ih q)
theorem qB{l:List (Str×Pi)}{i:Nat}{x:Str}{k:Nat}(h:(x,k)∈aT l i):(x,NameKind.local)∈l∨(x,NameKind.cell)∈l:=by
 induction l generalizing i with
 | nil=>cases h
 | cons p r ih=>
  have up:(x,NameKind.local)∈r∨(x,NameKind.cell)∈r->(x,NameKind.local)∈p::r∨(x,NameKind.cell)∈p::r:=Or.imp (zr _) (zr _);refine w4 h (λe e1 z=>?_) (λz q=>up (ih q)) λz q=>up (ih q);obtain ⟨y,kd⟩:=p;subst e1;cases kd with
  | «local»=>exact .inl zm
  | cell=>exact .inr zm
  | _=>cases e
theorem rG(l:List (Str×Pi))(i:Nat):((aT l i).map (·.1)).Sublist (l.map (·.1)):=by
 induction l generalizing i with
 | nil=>exact .refl _
 | cons p r ih=>
  show ((cond (gL p.2) ((p.1,i)::aT r (i+1)) (aT r i)).map (·.1)).Sublist _;cases gL p.2 with
  | true=>exact (ih _).cons_cons _
  | false=>exact (ih _).cons _
theorem yA{p:Str×Pi}{r:List (Str×Pi)}{n:Nat}{acc:List (Str×Pd)}{P:List (Str×Pd)->Prop}(h1:p.2=.cell->P (cellsFrom (n+1) r ((p.1,n)::acc)))(h2:p.2≠.cell->P (cellsFrom n r acc)):P (cellsFrom n (p::r) acc):=by
 show P (if (p.2 == .cell)=true then cellsFrom (n+1) r ((p.1,n)::acc) else cellsFrom n r acc);by_cases h:p.2=.cell
 ·exact gw (Ua (beq_iff_eq.mpr h) ..) (h1 h)
 ·exact gw (Ub (λq=>h (beq_iff_eq.mp q)) ..) (h2 h)
theorem lF{l:List (Str×Pi)}{n:Nat}{acc:List (Str×Pd)}{x:Str}(h:(x,NameKind.cell)∈l∨(acc.lookup x).isSome=true):((cellsFrom n l acc).lookup x).isSome=true:=by
 induction l generalizing n acc with
 | nil=>exact h.elim (λq=>by cases q) id
 | cons p r ih=>
  refine yA (P:=λl=>(l.lookup x).isSome=true) (λhk=>ih ?_) λhk=>ih (h.imp (λq=>(ye.mp q).resolve_left λe=>hk (Uf Prod.snd e).symm) id);refine gw (wj ..) ?_;cases hx:x == p.1 with
  | true=>exact .inr rfl
  | false=>exact h.imp (λq=>(ye.mp q).resolve_left λe=>vg (hx.symm.trans (beq_iff_eq.mpr (Uf Prod.fst e)))) id
theorem a3u{l:List (Str×Pi)}{n:Nat}{acc:List (Str×Pd)}{x:Str}{c:Pd}:(cellsFrom n l acc).lookup x=some c->acc.lookup x=some c∨n<=c:=by
 induction l generalizing n acc with
 | nil=>exact .inl
 | cons p r ih=>
  refine yA (P:=λl=>l.lookup x=some c->_) (λhk h=>?_) λz=>ih;rcases ih h with q | q
  ·have q:(match x == p.1 with | true=>some n | false=>acc.lookup x)=some c:=q;cases hx:x == p.1 with
   | true=>replace q:=hx▸q;exact .inr (zu (Option.some.inj q))
   | false=>replace q:=hx▸q;exact .inl q
  ·exact .inr (gu q)
theorem a1b{kd:Str->Option Pi}{x:Str}{names:List Str}{us:List Pa}{m:Str->Option Pa}(h:x∉names):bindL kd (names.zip us) m x=m x:=by
 induction names generalizing us m with
 | nil=>rfl
 | cons n names ih=>
  cases us with
  | nil=>rfl
  | cons u us=>
   refine (ih λq=>h (zr _ q)).trans ?_;refine ic ite_ (λz=>?_) λz=>?_
   ·exact Ub λ(e:x=n)=>h (e▸zm)
   ·rfl
theorem zX{kd:Str->Option Pi}{x:Str}{names:List Str}{us:List Pa}{m:Str->Option Pa}(h:x∉names):bindC kd (names.zip us) m x=m x:=by
 induction names generalizing us m with
 | nil=>rfl
 | cons n names ih=>
  cases us with
  | nil=>rfl
  | cons u us=>
   refine (ih λq=>h (zr _ q)).trans ?_;refine ic ite_ (λz=>?_) λz=>?_
   ·rfl
   ·exact Ub λ(e:x=n)=>h (e▸zm)
theorem a5y{kd:Str->Option Pi}{x:Str}{u:Pa}(hk:kd x=some .local){names:List Str}{us:List Pa}{m:Str->Option Pa}{k:Nat}(hn:names.Nodup)(h1:names[k]?=some x)(h2:us[k]?=some u):bindL kd (names.zip us) m x=some u:=by
 induction names generalizing us m k with
 | nil=>cases h1
 | cons n names ih=>
  cases us with
  | nil=>cases h2
  | cons v us=>
   cases k with
   | zero=>
    obtain rfl:=Option.some.inj h1;obtain rfl:=Option.some.inj h2;exact (a1b (wg.mp hn).1).trans (gw (Ua hk ..) (Ua rfl))
   | succ k=>exact ih (wg.mp hn).2 h1 h2
theorem a6i{kd:Str->Option Pi}{x:Str}{u:Pa}(hk:kd x≠some .local){names:List Str}{us:List Pa}{m:Str->Option Pa}{k:Nat}(hn:names.Nodup)(h1:names[k]?=some x)(h2:us[k]?=some u):bindC kd (names.zip us) m x=some u:=by
 induction names generalizing us m k with
 | nil=>cases h1
 | cons n names ih=>
  cases us with
  | nil=>cases h2
  | cons v us=>
   cases k with
   | zero=>
    obtain rfl:=Option.some.inj h1;obtain rfl:=Option.some.inj h2;exact (zX (wg.mp hn).1).trans (gw (Ub hk ..) (Ua rfl))
   | succ k=>exact ih (wg.mp hn).2 h1 h2
noncomputable def aFv(X:W)(G:GT)(i:Nat)(fn:Fn):Prop:=∃o fd body,X.h₀.get? (X.fa i)=some o/\o.data=.func fd/\X.h₀.CodeRec fd.code fd.qualname/\fd.body=.stmts body/\fd.closure=[]/\fd.globals=Uj/\fd.builtins=builtinsNs /\
 (∀vals:List Pa,vals.length=fd.params.args.length->bindArgs fd ⟨vals,[]⟩=pure ((fd.params.args.map (·.arg)).zip vals))/\TFn G fn fd.params body fd.scope
section
variable{X:W}{A:Pf}{d:Nat}{s s' s'' s₀:Pb}{Y Y' Y'' Y₀:List Pd}{Z Z' Z'' Z0:H}{env:zq}{cx cx':Cx}{J J' J0:Env}{C:Calls}{G:GT}
theorem FF.lt{h:Pe}{l:List zq}(f:FF X h Y l)(e:zq)(he:e∈l)(L:Pd)(hL:e.frame=some L):L<h.objs.size:=by
 cases f e he with
 | mk _ k1 _ _ k4 _=>obtain rfl:=Option.some.inj (k1.symm.trans hL);exact yc k4
theorem Step.close(S:Step X s₀ Y₀ s Y Z)(S':StepE X env s Y s' Y' Z')(h:∀b,Own env b->s₀.heap.objs.size<=b):Step X s₀ Y₀ s' Y' Z':=by
 obtain ⟨ν,rfl,hν⟩:=S.ext;obtain ⟨ν',rfl,hν'⟩:=S'.ext;refine ⟨S'.hr,λb o hb e=>?_,S'.base,za S.size S'.size,⟨ν++ν',gw (zh ..) rfl,λa ha=>?_⟩,S'.gens.trans S.gens,S'.os.trans S.os⟩
 ·obtain ⟨sl,e1,q1⟩:=S.keep b o hb e;have hlt:=yc e;have hb':b∉Y₀++ν:=λhm=>by
   rcases yh.mp hm with h1 | h1
   ·exact hb h1
   ·exact Ue hlt (yf.mpr (hν b h1))
  obtain ⟨sl',e2,q2⟩:=S'.keep b _ hb' (λhO=>Ue hlt (yf.mpr (h b hO))) e1;exact ⟨sl',e2,λhd=>(q2 hd).trans (q1 hd)⟩
 ·rcases yh.mp ha with h1 | h1
  ·exact hν a h1
  ·exact za S.size (hν' a h1)
noncomputable abbrev Pc(X:W)(A:Pf)(f:Pa)(us:List Pa):PT Pa:=λQ E s=>codeAny (Mo X) A (.call f ⟨us,[]⟩) (λr s'=>match r with | .ok (.ret v)=>Q v s' | .ok _=>False | .error e=>E e s') s
noncomputable abbrev upA(A:Pf)(u:Nat):Pf:={ A with depth:=A.depth+u,units:=A.units+u }
theorem aCk(u:Nat)(hu:u<=2){i:Nat}{fn:Fn}(hf:aFv X G i fn)(hlim:X.h₀.NoLimit)(hB:kG X C G d fn.body)(c:Cn X A (d+1) true s Y Z){vs:List V}{us:List Pa}(r:VRs X s.heap Y vs us):
  Sm X (Pc X (upA A u) (.ref (X.fa i)) us) (evF X.ns C fn vs Z) (Rl X) s Y:=by
 refine cps λGG KK=>?_;refine ex3 (hf) λo fd body q_h=>?_;refine an9 q_h λh1 h2 h3 h4 h5 h6 h7 h8 h9=>?_;obtain ⟨t1,q_h⟩:=(h9);refine an7 q_h λt2 t3 t4 t5 t6 t7 t8=>?_;refine KK ?_;unfold evF;rw [t7,t8];refine ic ite_ (λhlen=>?_) λz=>?_
 ·intro hne Q E hQ hE;have hul:us.length=fd.params.args.length:=by rw [←r.length];exact hlen
  have hbind:=h8 us hul;generalize hnm:fd.params.args.map (·.arg)=names at hbind t1;have hnl:names.length=fd.params.args.length:=by rw [←hnm,zb]
  have hnat:∀x k,(x,k)∈aT fd.scope.names 0->k<names.length->names[k]?=some x:=λx k hm hk=>by
   rw [←t1,List.getElem?_take,Ua (by rw [←hnl];exact hk),yk];have:=jO hm;simp only [fk] at this;exact gw (this ..) rfl
  have hmem:∀x∈names,∃k,(x,k)∈aT fd.scope.names 0:=λx hxm=>by
   replace hxm:=t1▸hxm;obtain ⟨p,hp,rfl⟩:=vu.mp (wn hxm);exact ⟨p.2,hp⟩
  have hnd:names.Nodup:=by
   exact bw t1 (List.Nodup.sublist (gq _ _) (List.Nodup.sublist (rG _ _) t2))
  have hkindof:∀x∈names,fd.scope.names.lookup x=some .local∨(fd.scope.names.lookup x=some .cell/\((cellsFrom (s.heap.objs.size+1) fd.scope.names []).lookup x).isSome=true):=λx hxm=>by
   obtain ⟨k,hk⟩:=hmem x hxm;rcases qB hk with q | q
   ·exact .inl (i5 t2 q)
   ·exact .inr ⟨i5 t2 q,lF (.inl q)⟩
  refine codeAny_call_cells (A:=upA A u) (by have:=c.rm.depth;show A.depth+u<_;(first | lia | omega)) (c.base.keep _ _ h1) h2 (hlim.keeps c.base.keep) (h3.keeps c.base.keep) h4 hbind h5 (λx hxm=>?_) (λs1 I=>?_) t5 t4 t3
  ·obtain ⟨a,b'⟩:=x;exact hkindof a (List.of_mem_zip hxm).1
  ·generalize hE':callEnvC fd s.heap.objs.size (X.fa i)=env at I;have eL:env.locals=s.heap.objs.size:=by rw [←hE'];rfl
   have eS:env.scope=fd.scope:=by rw [←hE'];rfl
   have eC:env.cells=cellsFrom (s.heap.objs.size+1) fd.scope.names []:=by rw [←hE'];rfl
   have eG:env.globals=Uj:=bw hE' h6;have eB:env.builtins=builtinsNs:=bw hE' h7;have eF:env.frame=some s.heap.objs.size:=bw hE' rfl;have hns:=I.toInCall.ns;obtain ⟨h',tk,rfl⟩:=I.toInCall.same;have hsz:s.heap.objs.size<=h'.objs.size:=by
    have:=hns.lt;replace this:=eL▸this;exact yd this
   have S1:Step X s Y { s with heap:=h',toks:=tk } Y Z:=Step.grow c I.toInCall.keep hsz rfl rfl;have hLm:env.locals∉Y:=λhm=>by replace hm:=eL▸hm;exact xg _ (c.hr.lt hm)
   have hcell:∀x cc,env.cells.lookup x=some cc->s.heap.objs.size<cc:=λx cc hc=>by
    replace hc:=eC▸hc;rcases a3u hc with q | q
    ·cases q
    ·exact q
   have hown:∀bb,Own env bb->s.heap.objs.size<=bb:=λbb hb=>by
    rcases hb with rfl | ⟨x,hb⟩
    ·exact gw eL (zf _)
    ·exact yd (hcell x bb hb)
   have hz:∀a o,X.h₀.get? a=some o->a<s.heap.objs.size:=λa o e=>yc (c.base.keep a o e);have r1:VRs X h' Y vs us:=S1.vrs c.hr r;have hkd:∀x,env.kindOf x=fd.scope.names.lookup x:=λx=>by show env.scope.names.lookup x=_;rw [eS]
   have hval:∀(k:Nat) (v:V),(vs.map some++wf ((aT fd.scope.names 0).length-fd.params.args.length) (none:Option V))[k]?=some (some v)->k<names.length/\∃u,us[k]?=some u/\VR X h' Y v u:=λk v hv=>by
    by_cases hk:k<vs.length
    ·rw [xn (by rw [zb];exact hk),yk] at hv;obtain ⟨w,hw,e⟩:=zk.mp hv;cases e;exact ⟨gw hnl (bw (hlen ..) hk),r1.get hw⟩
    ·rw [zv (by rw [zb];exact ur hk)] at hv;replace hv:=(List.getElem?_replicate ..)▸hv;split at hv <;> cases hv
   have F1:FR X env ⟨fd.scope.names,aT fd.scope.names 0,(aT fd.scope.names 0).length⟩ (vs.map some++wf ((aT fd.scope.names 0).length-fd.params.args.length) none) h' Y:={
    kind:=gw eS t3
    globals:=eG
    builtins:=eB
    names:=gw eS rfl
    ns:=⟨_,hns,λx k v e1 e2 e3=>by
     obtain ⟨hk,u,hu,rv⟩:=hval k v e3;exact ⟨u,a5y (by rw [hkd];exact e1) hnd (hnat x k (bZ e2) hk) hu,rv⟩⟩
    cell:=λx k e1 e2=>by
     obtain ⟨cc,hc⟩:=uj.mp (lF (n:=s.heap.objs.size+1) (acc:=[]) (.inl (bZ e1)));replace hc:=eC▸hc;refine ⟨cc,_,hc,I.cell x cc hc,λv hv=>?_⟩;obtain ⟨hk,u,hu,rv⟩:=hval k v hv;exact ⟨u,a6i (by rw [hkd];rw [show List.lookup x fd.scope.names=some NameKind.cell from e1];simp) hnd (hnat x k (bZ e2) hk) hu,rv⟩
    cells:=λx e1=>gw eC (lF (.inl (bZ e1)))
    apart:=λx y cc a1 a2=>name_of_addr I.apart (bZ a1) (bZ a2)
    offL:=hLm
    offC:=λx cc hc=>⟨λhm=>Ue (c.hr.lt hm) (yf.mpr (yd (hcell x cc hc))),gw eL (wq (hcell x cc hc)),(I.cell x cc hc).lt⟩
    slots:=λx y k a1 a2=>by
     have b1:=jO (bZ a1);have b2:=jO (bZ a2);replace b2:=b1▸b2;cases b2;rfl
    bound:=λx k a1=>by
     have b1:=jO (bZ a1);have:=(zc.mp b1).1;simpa using this
    len:=by
     refine gw (zd ..) (gw (zb ..) (gw (js ..) (gw (hlen ..) ?_)));have:fd.params.args.length<=(aT fd.scope.names 0).length:=by
      have e:=Uf List.length t1;replace e:=(zb ..)▸(xo ..)▸hnl▸e
      (first | lia | omega)
     show fd.params.args.length+((aT fd.scope.names 0).length-fd.params.args.length)=(aT fd.scope.names 0).length
     (first | lia | omega) }
   obtain ⟨fs,hfs,hff⟩:=c.fs;have c1:Cn X ((upA A u).deeper env) d true { s with heap:=h',toks:=tk } Y Z:={
    rm:={
     depth:=by have:=c.rm.depth;show A.depth+u+1+4*d+4<_;(first | lia | omega)
     units:=by have:=c.rm.units;show A.units+u+3+40*d+40<_;(first | lia | omega)
     handled:=c.rm.handled
     nb:=c.rm.nb }
    hr:=S1.hr
    base:=S1.base
    fs:=by
     refine ⟨env::fs,by show A.frames.map _=_;exact gw hfs rfl,ui.mpr ⟨?_,S1.ff hff⟩⟩;refine ex3 (hns) λoL es ep q_h=>?_;refine an3 q_h λe1 e2 z=>?_;refine ⟨gw eS (gw t3 (λe=>(by cases e))),gw eF (gw eL rfl),?_,hLm,e1,e2⟩;cases hg:X.h₀.get? env.locals with
     | none=>rfl
     | some oo=>have:=hz _ _ hg;replace this:=eL▸this;exact Ue this (xg _)
    scr:=c.scr
    fz:=λa h=>zj (c.fz a h) S1.size }
   have lo:Lo X env:=⟨gw eL c.base.size,λx a ha=>yd (yt c.base.size (hcell x a ha))⟩;have ho:gU ((upA A u).deeper env) env:=⟨gw eF (gw eL rfl),fs,by show A.frames.map _=_;exact gw hfs rfl,λen hm L hL hO=>by
    have:L<s.heap.objs.size:=hff.lt en hm L hL;exact Ue this (yf.mpr (hown L hO))⟩
   refine hB ⟨fd.scope.names,aT fd.scope.names 0,_⟩ body t6 ((upA A u).deeper env) env _ _ Y Z c1 F1 lo ho (λe=>by replace hne:=e▸hne;exact hne rfl) _ _ (λf J' Z' fl s' Y' e' S' F' r'=>?_) λcc J' Z' y s' Y' e' S' F' x'=>?_
   ·have SS:=S1.close S' hown;replace hQ:=e'▸hQ;cases r' with
    | next=>exact hQ .none Z' .none s' Y' rfl SS .none
    | ret rr=>exact hQ _ Z' _ s' Y' rfl SS rr
   ·replace hE:=e'▸hE;exact a2v (c1.stepE S' F' ho) F' ho S' c1.base rfl x' λs2 S2 xr=>hE cc Z' y s2 Y' rfl (S1.close S2 hown) (xr.le S1.pers)
 ·exact Sm.stuck
end
section
open PySem.W
variable{prog:Program}{w:World}{A:Pf}{E:Pa->Pb->Prop}{s:Pb}{K:PySem.W.Frag}{C e:Pd}{o:Obj}
end
section
variable{X:W}{A:Pf}{d:Nat}{s s' s'' s₀:Pb}{Y Y' Y'' Y₀:List Pd}{Z Z' Z'' Z0:H}{env:zq}{cx cx':Cx}{J J' J0:Env}{C:Calls}{G:GT}
theorem Cn.ok0(c:Cn X A d true s Y Z){v:V}{u:Pa}{t:Sem Pa}(r:VR X s.heap Y v u)(h:∀(Q:Pa->Pb->Prop) (E:Pa->Pb->Prop),(∀tk,Q u { s with toks:=tk })->Un (Mo X) A t Q E s):Sm X (Wp X A t) (.ok v Z) (Rl X) s Y:=
 Sm.ok λQ E hQ=>h Q E λtk=>hQ _ _ _ (c.same tk) r
theorem Cn.ok1(c:Cn X A d true s Y Z){v:V}{u:Pa}{t:Sem Pa}(r:VR X s.heap Y v u)(h:∀(Q:Pa->Pb->Prop) (E:Pa->Pb->Prop),(∀h' tk,(∀b o,s.heap.get? b=some o->h'.get? b=some o)->Q u { s with heap:=h',toks:=tk })->Un (Mo X) A t Q E s):Sm X (Wp X A t) (.ok v Z) (Rl X) s Y:=
 Sm.ok λQ E hQ=>gY (h _ _ λh' tk k hz=>by
  have S:Step X s Y { s with heap:=h',toks:=tk } Y Z:=Step.grow c k hz rfl rfl;exact hQ _ _ _ S (S.vr c.hr r))
theorem Cn.madeL(c:Cn X A d true s Y Z){xs:List V}{t:Sem Pa}(hl:xs.length<=lim)(h:∀(Q:Pa->Pb->Prop) (E:Pa->Pb->Prop),(∀D h' tk n l,s.heap.objs.size<=D->(∀b o,s.heap.get? b=some o->h'.get? b=some o)->h'.get? D=some { cls:=.type "list",data:=.seq (jq l) n }->VRs X h' Y xs l->Q (.ref D) { s with heap:=h',toks:=tk })->Un (Mo X) A t Q E s):
  Sm X (Wp X A t) (.ok (.ref Z.length) (Z++[.list xs])) (Rl X) s Y:=
 Sm.ok λQ E hQ=>gY (h _ _ λD h' tk n l hD k e r hz=>by
  have S:Step X s Y { s with heap:=h',toks:=tk } Y Z:=Step.grow c k hz rfl rfl;have hno:D∉Y:=λhm=>Ue (c.hr.lt hm) (yf.mpr hD);exact hQ _ _ (Y++[D]) (S.adopt c hno hD (.list e (bw (r.length ..) hl) (r.mono (λz z e z=>e) fV))) (.ref (c.newRef D)))
open IsiPair in
theorem aEa(c:Cn X A d true s Y Z){t:Ty}{v:V}{u:Pa}(r:VR X s.heap Y v u):Sm X (Wp X A (ya (.builtin "isinstance") [u,a6h t])) (zT t v Z) (Rl X) s Y:=by
 cases r with
 | int i tk=>cases t with
  | int=>exact c.ok0 (.bool _) λQ E h=>int_int (h s.toks)
  | bool=>exact c.ok0 (.bool _) λQ E h=>int_bool (h _)
  | _=>exact Sm.stuck
 | str x tk z=>cases t with
  | str=>exact c.ok0 (.bool _) λQ E h=>str_str (h s.toks)
  | _=>exact Sm.stuck
 | tup e z rr=>cases t with
  | tuple _=>exact c.ok0 (.bool _) λQ E h=>tuple_tuple e rfl (h s.toks)
  | _=>exact Sm.stuck
 | ref hm=>cases t with
  | list=>exact gE c hm λxs l n ho e rr hz=>c.ok0 (.bool _) λQ E h=>list_list e rfl (h s.toks)
  | _=>exact Sm.stuck
 | _=>exact Sm.stuck
theorem aEk(c:Cn X A d true s Y Z){v:V}{u:Pa}(r:VR X s.heap Y v u):Sm X (Wp X A (ya (.builtin "len") [u])) (aFw X.ns v Z) (Rl X) s Y:=by
 have hl:lim=16777216:=rfl;cases r with
 | ref hm=>
  exact gE c hm λxs l n ho e rr hz=>c.ok0 (u:=.int l.toArray.size (s.toks+1)) (gw (yp ..) (bw (rr.length ..) (.int _ _))) λQ E h=>call_len_list ⟨_,e,rfl,_,rfl⟩ (gw (yp ..) (vp (xd.mpr hz) (by decide))) (h _)
 | @tup vs a l n e z rr=>exact c.ok0 (v:=.int vs.length) (u:=.int l.toArray.size (s.toks+1)) (gw (yp ..) (bw (rr.length ..) (.int _ _))) λQ E h=>PyProof.Rows.len_tuple ⟨_,e,rfl,_,rfl⟩ (gw (yp ..) (vp (xd.mpr z) (by decide))) (h _)
 | str x tk z=>exact c.ok0 (v:=.int (aC x).length) (u:=.int x.length (s.toks+1)) (bw (bC ..) (.int _ _)) λQ E h=>len_str (by (first | lia | omega)) (h _)
 | scr=>
  obtain ⟨vs,q_h⟩:=(c.scr);refine an3 q_h λL hi hz=>?_;exact c.ok0 (v:=.int X.ns.length) (u:=.int vs.toArray.size (s.toks+1)) (gw (yp ..) (gw (hi.length ..) (.int _ _))) λQ E h=>call_len_list (c.isScr L) (gw (yp ..) (vp (xd.mpr hz) (by decide))) (h _)
 | _=>exact Sm.stuck
theorem vK{h:Pe}:∀{xs:List V}{l:List Pa}{bs:List Bool},fR xs=some bs->VRs X h Y xs l->l=bs.map Value.bool:=by
 intro xs
 induction xs with
 | nil=>
  intro l bs e r;cases r;cases e;rfl
 | cons x xs ih=>
  intro l bs e r;cases r with
  | cons r rs=>
   cases r <;> first | (cases e;done) | skip
   obtain ⟨b,hb,rfl⟩:=zk.mp e;exact gw (ih hb rs ..) rfl
theorem rB{l:Pd}{items:Array Pa}{A:Pf}{Q:Pa->Pb->Prop}{E:Pa->Pb->Prop}(hl:s.heap.IsList l items)(h:∀s2:Pb,s2={ s with heap:=s.heap.push { cls:=.type "list_iterator",data:=.fields #[.ref l,.int 0 0] } }->(s2.heap.IsListIter s.heap.objs.size l 0/\s2.heap.IsList l items)->l≠s.heap.objs.size->Q (.ref s.heap.objs.size) s2):
  Un (Mo X) A (pyIter (.ref l)) Q E s:=by
 have hlt:l<s.heap.objs.size:=by obtain ⟨_,e,_⟩:=hl;exact yc e
 exact wpAny_pyIter_list hl (h _ rfl ⟨⟨_,yn _ rfl,rfl,rfl⟩,hl.push _⟩ (yq hlt))
theorem rQ(bs:List Bool):(zs bs.length).map (λi=>(bs[i]?).getD false)=bs:=by refine List.ext_getElem (by simp) λi h1 h2=>?_;simp [zg h2]
theorem qV{bs:List Bool}:∀(i:Nat) (v:Pa) (s':Pb) (Q':Bool->Pb->Prop) (E':Pa->Pb->Prop),(bs.map Value.bool).toArray[i]?=some v->Q' ((bs[i]?).getD false) s'->Un (Mo X) A (truthy v) Q' E' s':=by intro i v s' Q' E' hP hQ';replace hP:=(yk ..)▸(vf ..)▸hP;obtain ⟨b,hb',rfl⟩:=zk.mp hP;replace hQ':=hb'▸hQ';exact Ui hQ'
theorem aDg(c:Cn X A d true s Y Z){v:V}{u:Pa}(r:VR X s.heap Y v u):Sm X (Wp X A (ya (.builtin "all") [u])) (biV X.ns .all v Z) (Rl X) s Y:=by
 refine mP r λi a e0 hm=>?_;subst e0;refine gE c hm λxs l n ho e rr hz=>cM λw he=>?_;obtain ⟨bs,hb,rfl⟩:=zk.mp he;have hl:=vK hb rr;subst hl;refine c.ok1 (.bool _) λQ E h=>?_;have L:s.heap.IsList a (bs.map Value.bool).toArray:=⟨_,e,rfl,_,rfl⟩;refine call_all_walk (rB L λs2 e2 st hne=>?_);subst e2;refine ⟨_,_,_,_,_,_,λi=>(bs[i]?).getD false,rfl,Walks.list (A:=A.in1) (c.rm.handled rfl) _ a hne _,st,λi v s' Q' E'=>qV i v s' Q' E',λh' tk hk=>?_⟩;have:((zs (bs.map Value.bool).toArray.size).all λi=>(bs[i]?).getD false)=bs.all id:=by
  exact gw (yp ..) (gw (zb ..) (bw (Function.id_comp (λi=>(bs[i]?).getD false)) (bw (List.all_map ..) (gw (rQ ..) rfl))))
 refine gw (this ..) ?_;refine h h' tk λb o eb=>hk b o (λhm'=>?_) (zo _ eb);replace eb:=(ze.mp hm' ..)▸eb;exact xg _ (yc eb)
theorem aEn(c:Cn X A d true s Y Z){v:V}{u:Pa}(r:VR X s.heap Y v u):Sm X (Wp X A (ya (.builtin "any") [u])) (biV X.ns .any v Z) (Rl X) s Y:=by
 refine mP r λi a e0 hm=>?_;subst e0;refine gE c hm λxs l n ho e rr hz=>cM λw he=>?_;obtain ⟨bs,hb,rfl⟩:=zk.mp he;have hl:=vK hb rr;subst hl;refine c.ok1 (.bool _) λQ E h=>?_;have L:s.heap.IsList a (bs.map Value.bool).toArray:=⟨_,e,rfl,_,rfl⟩;refine call_any_walk (rB L λs2 e2 st hne=>?_);subst e2;refine ⟨_,_,_,_,_,_,λi=>(bs[i]?).getD false,rfl,Walks.list (A:=A.in1) (c.rm.handled rfl) _ a hne _,st,λi v s' Q' E'=>qV i v s' Q' E',λh' tk hk=>?_⟩;have:((zs (bs.map Value.bool).toArray.size).any λi=>(bs[i]?).getD false)=bs.any id:=by
  exact gw (yp ..) (gw (zb ..) (bw (Function.id_comp (λi=>(bs[i]?).getD false)) (bw (List.any_map ..) (gw (rQ ..) rfl))))
 refine gw (this ..) ?_;refine h h' tk λb o eb=>hk b o (λhm'=>?_) (zo _ eb);replace eb:=(ze.mp hm' ..)▸eb;exact xg _ (yc eb)
theorem eU{xs:List V}{P:PT Pa}{rel:Pe->List Pd->V->Pa->Prop}(h:xs.length<=lim->Sm X P (.ok (.ref Z.length) (Z++[.list xs])) rel s Y):Sm X P (fY xs Z) rel s Y:=by
 unfold fY;refine ic ite_ (λz=>?_) λz=>?_
 ·exact h ‹_›
 ·exact Sm.stuck
theorem qL(c:Cn X A d true s Y Z){a:Pd}{xs:List V}{l:List Pa}{T:String}{n:Nat}(hT:T="list"∨T="tuple")(e:s.heap.get? a=some { cls:=.type T,data:=.seq l.toArray n })(rr:VRs X s.heap Y xs l):
  Sm X (Wp X A (ya (.type "list") [.ref a])) (fY xs Z) (Rl X) s Y:=
 eU λhz=>c.madeL hz λQ E h=>call_list_seq a hT e rfl rfl (λh' c' k hD=>h _ h' s.toks c' l (zf _) k hD (rr.mono (λz z e z=>k _ _ e) λz z e=>e)) (gw (yp ..) (bw (rr.length ..) hz))
theorem ERs.at{h:Pe}{kvs:List (List Nat×V)}{l:List (Str×Pa)}(r:ERs X h Y kvs l)(j:Nat)(k:Str)(x:Pa)(e:l[j]?=some (k,x)):(kvs.map λp=>V.str p.1)[j]?=some (.str (aC k))/\k.length<=Mine.Internal.lim:=by
 have h1:(kvs.map (·.1))[j]?=some (aC k):=by refine gw (r.keys ..) (gw (yk ..) (gw e ?_));rfl
 rw [yk] at h1 ⊢;obtain ⟨p,hp,q⟩:=zk.mp h1;exact gw hp (bw q ⟨rfl,r.lim _ (ym e)⟩)
theorem VRs.of_get{h:Pe}{xs:List V}{l:List Pa}(e:xs.length=l.length)(hg:∀(j:Nat) (u:Pa),l[j]?=some u->∃x,xs[j]?=some x/\VR X h Y x u):VRs X h Y xs l:=by
 induction xs generalizing l with
 | nil=>obtain rfl:=yr e.symm;exact .nil
 | cons x xs ih=>
  cases l with
  | nil=>cases e
  | cons u l=>
   obtain ⟨y,h1,h2⟩:=hg 0 u rfl;cases h1;exact .cons h2 (ih (Nat.succ.inj e) λj w hw=>hg (j+1) w hw)
theorem uW{h:Pe}{kvs:List (List Nat×V)}{l:List (Str×Pa)}{acc:Array Pa}(rr:ERs X h Y kvs l)(hI:ItemsOf (λi v=>∃k x,l[i]?=some (k,x)/\(strKind X.prog X.w).is k v=true) acc l.length)(h':Pe):VRs X h' Y (kvs.map λp=>V.str p.1) acc.toList:=by refine VRs.of_get (gw (zb ..) (gw (rr.length ..) (gw (yu ..) hI.1.symm))) λj u hu=>?_;refine ex2 (hI.2 j u (by refine bw (xy ..) ?_;exact hu)) λk' x' q_h=>?_;obtain ⟨h1,h2⟩:=q_h;obtain ⟨h3,h4⟩:=rr.at j k' x' h1;obtain ⟨tk',rfl⟩:=Value.isStrOf_shape h2;exact ⟨_,h3,.str _ _ h4⟩
theorem uS(c:Cn X A d true s Y Z){i:Nat}{a:Pd}{kvs:List (List Nat×V)}(ho:Z[i]?=some (.dict kvs))(hm:Y[i]?=some a):
  Sm X (Wp X A (ya (.type "list") [.ref a])) (fY (kvs.map λp=>V.str p.1) Z) (Rl X) s Y:=by
 obtain ⟨l,q_h⟩:=(c.dict ho hm);refine an3 q_h λD rr hz=>?_;obtain ⟨ep,DA⟩:=D.dictAt;exact eU λhl=>c.madeL hl λQ E h=>PySem.W.kdl_call (PySem.W.kdl_dict (ep:=ep) (c.noSys hm)) (c.rm.handled rfl) DA hz λh' tk acc c' k hD hI=>h _ h' tk c' acc.toList (zf _) k (by simpa using hD) (uW rr hI h')
theorem a9s(c:Cn X A d true s Y Z){v:V}{u:Pa}(r:VR X s.heap Y v u):Sm X (Wp X A (ya (.type "list") [u])) (biV X.ns .list v Z) (Rl X) s Y:=by
 cases r with
 | @ref i a hm=>
  show Sm X _ ((bF (match Z[i]? with | some (.list xs)=>some xs | some (.dict kvs)=>some (kvs.map λp=>V.str p.1) | _=>none)).bnd fY Z) _ _ _;rcases ho:Z[i]? with _ | ⟨xs⟩ | ⟨kvs⟩ | ⟨kvs⟩
  ·exact Sm.stuck
  ·refine ex2 (c.list ho hm) λl n q_h=>?_;refine an3 q_h λe rr hz=>?_;exact qL c (.inl rfl) e rr
  ·exact uS c ho hm
  ·exact Sm.stuck
 | tup e z rr=>exact qL c (.inr rfl) e rr
 | _=>exact Sm.stuck
theorem z4(c:Cn X A d true s Y Z){i:Nat}{a:Pd}{kvs:List (List Nat×V)}(ho:Z[i]?=some (.dict kvs))(hm:Y[i]?=some a):Sm X (Wp X A (ya (.type "dict") [.ref a])) (i6 kvs Z) (Rl X) s Y:=by
 obtain ⟨l,q_h⟩:=(c.dict ho hm);refine an3 q_h λD rr hz=>?_;unfold i6;refine ic ite_ (λz=>?_) λz=>?_
 ·refine Sm.ok λQ E hQ=>kt_call_dict (c.noSys hm) D hz λh' hD hs=>?_;have k:∀b o,s.heap.get? b=some o->h'.get? b=some o:=λb o e=>(hs.2 b (yq (yc e))).trans (zo _ e);have S1:Step X s Y { s with heap:=h' } Y Z:=Step.grow c k (by show _<=h'.objs.size;exact gw (hs.1 ..) (gw (wk ..) (yi _))) rfl rfl;have hno:s.heap.objs.size∉Y:=λhm=>xg _ (c.hr.lt hm);exact hQ _ _ (Y++[s.heap.objs.size]) (S1.adopt c hno (zf _) (.dict hD hz (rr.like λq=>(S1.vrs c.hr q).mono (λz z e z=>e) fV))) (.ref (c.newRef _))
 ·exact Sm.stuck
end
end Mine.Internal
set_option autoImplicit false
namespace Mine.Internal
open PySem PyProof PyProof.Rows
noncomputable abbrev SK:KeyKind:=PyProof.Rows.strKind
noncomputable def ky(x:Keyed):List Nat:=(SK.keyOf x.1).getD []
noncomputable def lk(x y:Keyed):Bool:=SK.blt (ky x) (ky y)
noncomputable def Kd(x:Keyed):Prop:=∃a,SK.keyOf x.1=some a
noncomputable def mrg(xs ys:List Keyed):List Keyed:=List.merge xs ys λx y=>!lk y x
noncomputable def Up2(l:List Keyed):Prop:=l.Pairwise λx y=>lk y x=false
theorem lW{x y z:Keyed}(h:lk y x=false)(g:lk z y=false):lk z x=false:=KeyOrd.kle_trans (O:=SK.toKeyOrd) h g
theorem aFn{x y z:Keyed}(h:lk x y=true)(g:lk z y=false):lk x z=true:=KeyOrd.klt_of_klt_of_kle (O:=SK.toKeyOrd) h g
theorem pI{x y z:Keyed}(h:lk y x=false)(g:lk y z=true):lk x z=true:=KeyOrd.klt_of_kle_of_klt (O:=SK.toKeyOrd) h g
theorem uF{x y:Keyed}(h:lk x y=true):lk y x=false:=KeyOrd.klt_asymm (O:=SK.toKeyOrd) h
theorem a4y(x:Keyed):lk x x=false:=KeyOrd.kle_refl (O:=SK.toKeyOrd) _
theorem iH(l:List Keyed):mrg l []=l:=List.merge_right ..
theorem jM(l:List Keyed):mrg [] l=l:=List.nil_merge ..
theorem xK{x y:Keyed}(e:lk y x=false)(l m:List Keyed):mrg (x::l) (y::m)=x::mrg l (y::m):=(zbj ..).trans (Ua (gw e rfl))
theorem xW{x y:Keyed}(e:lk y x=true)(l m:List Keyed):mrg (x::l) (y::m)=y::mrg (x::l) m:=(zbj ..).trans (Ub (by refine gw e ?_;exact vg))
theorem a4t{a d:List Keyed}(c:List Keyed)(h:∀x∈a,∀y∈d,lk y x=false):mrg (a++c) d=a++mrg c d:=by
 induction a with
 | nil=>rfl
 | cons x a ih=>
  obtain ⟨h,h'⟩:=ui.mp h;cases d with
  | nil=>exact gw (iH ..) (gw (iH ..) rfl)
  | cons y d=>exact (xK (h y zm) _ _).trans (Uf (x::·) (ih h'))
theorem y9{c b:List Keyed}(d:List Keyed)(h:∀x∈c,∀y∈b,lk y x=true):mrg c (b++d)=b++mrg c d:=by
 induction b with
 | nil=>rfl
 | cons y b ih=>
  have ih:=ih λx hx y' hy=>h x hx y' (zr _ hy);cases c with
  | nil=>exact gw (jM ..) (gw (jM ..) rfl)
  | cons x c=>exact (xW (h x zm y zm) _ _).trans (Uf (y::·) ih)
theorem aAu(c d a b:List Keyed)(h1:∀x∈a,∀y∈d,lk y x=false)(h2:∀x∈c,∀y∈b,lk y x=true):mrg (a++c) (b++d)=mrg a b++mrg c d:=by
 induction a generalizing b with
 | nil=>exact gw (jM ..) (y9 d h2)
 | cons x a ih=>
  obtain ⟨h1,h1'⟩:=ui.mp h1
  induction b with
  | nil=>exact gw (iH ..) (a4t c (ui.mpr ⟨h1,h1'⟩))
  | cons y b ihb=>
   cases e:lk y x with
   | false=>rw [xK e];exact (xK e _ _).trans (Uf (x::·) (ih (y::b) h1' h2))
   | true=>rw [xW e];exact (xW e _ _).trans (Uf (y::·) (ihb λx' hx y' hy=>h2 x' hx y' (zr _ hy)))
theorem a2s{a b c:List Keyed}(h:∀x∈c,∀y∈b,lk y x=true):mrg (a++c) b=mrg a b++c:=by have:=aAu c [] a b (λz z z h=>by cases h) h;rwa [iH,yw] at this
theorem wR{a b d:List Keyed}(h:∀x∈a,∀y∈d,lk y x=false):mrg a (b++d)=mrg a b++d:=by have:=aAu [] d a b h (λz h=>by cases h);rwa [jM,yw] at this
theorem pW(a b:List Keyed):(mrg a b).Perm (a++b):=List.merge_perm_append ..
theorem aCj{a b:List Keyed}(ha:Up2 a)(hb:Up2 b):Up2 (mrg a b):=by
 have n:∀{x y:Keyed},(!lk y x)=true↔lk y x=false:=λ{x y}=>by rw [vn]
 exact (List.pairwise_merge (le:=λx y=>!lk y x) (λx y z h g=>n.mpr (lW (n.mp h) (n.mp g))) (λx y=>by
  cases h:lk y x
  ·rfl
  ·rw [uF h];rfl) a b (ha.imp n.mpr) (hb.imp n.mpr)).imp n.mp
structure Cw where
 prog:Program
 w:World
 A:Pf
 E:Pa->Pb->Prop
 s:Pb
noncomputable abbrev So:=StateT SortSt Sem
noncomputable def Ws(c:Cw){α:Type}(m:So α)(Q:α->SortSt->Prop)(st:SortSt):Prop:=wpS (model c.prog c.w) c.A c.E c.s m Q st
noncomputable def nx(c:Cw){α β:Type}(k:α->So β)(Q:β->SortSt->Prop)(a:α)(st:SortSt):Prop:=Ws c (k a) Q st
section
variable{c:Cw}{α β:Type}{st:SortSt}
theorem aF{m:So α}{k:α->So β}{Q:β->SortSt->Prop}(h:Ws c m (nx c k Q) st):Ws c (m >>= k) Q st:=wpS_bind h
theorem aD{a:α}{Q:α->SortSt->Prop}(h:Q a st):Ws c (pure a) Q st:=wpS_pure h
theorem jC{Q:SortSt->SortSt->Prop}(h:Q st st):Ws c get Q st:=wpS_get h
theorem i0{f:SortSt->SortSt}{Q:PUnit->SortSt->Prop}(h:Q ⟨⟩ (f st)):Ws c (modify f) Q st:=wpS_modify h
theorem aEj{t:SortSt}{Q:PUnit->SortSt->Prop}(h:Q ⟨⟩ t):Ws c (set t) Q st:=by unfold Ws wpS;exact gw (StateT.run_set ..) (Uh ⟨rfl,h⟩)
theorem kK{r:String}{Q:Unit->SortSt->Prop}(h:Q () st):Ws c (liftM (rule r)) Q st:=wpS_lift (wpAny_rule ⟨rfl,h⟩)
theorem bQ{p:Prop}{_:Decidable p}{x y:So α}{Q:α->SortSt->Prop}(h1:p->Ws c x Q st)(h2:¬p->Ws c y Q st):Ws c (if p then x else y) Q st:=by
 by_cases h:p
 ·exact gw (Ua h ..) (h1 h)
 ·exact gw (Ub h ..) (h2 h)
theorem dP{m n:Nat}{x y:So α}{Q:α->SortSt->Prop}(h1:m=n->Ws c x Q st)(h2:¬m=n->Ws c y Q st):Ws c (if (m == n)=true then x else y) Q st:=
 bQ (λe=>h1 (beq_iff_eq.mp e)) λe=>h2 λq=>e (beq_iff_eq.mpr q)
theorem bO{arr:Array Keyed}{i:Nat}{x:Keyed}{Q:Keyed->SortSt->Prop}(hx:arr[i]?=some x)(h:Q x st):Ws c (elem' arr i) Q st:=by unfold Ws;exact gw (elem'_eq ..) (gw hx (wpS_pure h))
theorem vJ{x y:Keyed}{Q:Option Bool->SortSt->Prop}(hk:kindOf st=oneType')(hx:Kd x)(hy:Kd y)(h:Q (some (lk x y)) st):Ws c (lt' x y) Q st:=by
 obtain ⟨a,ha⟩:=hx;obtain ⟨b,hb⟩:=hy;have e:lk x y=SK.blt a b:=by unfold lk ky;exact gw ha (gw hb rfl)
 replace h:=e▸h;unfold Ws;refine gw (lt'_eq ..) ?_;exact wpS_bind (wpS_get (gw hk (gw (keyLt'_oneType ..) (wpS_bind (wpS_lift (wpAny_attempt (strKind_oneLt c.prog c.w c.A _ c.s _ _ a b ha hb ⟨rfl,wpS_pure h⟩)))))))
noncomputable def lp(γ J:Type)(I:Nat->γ->SortSt->Prop)(F:γ->SortSt->Prop)(D:J->SortSt->Prop)(i:Nat):ForInStep (Option J×γ)->SortSt->Prop
 | .done (some o,_),st=>D o st
 | .done (none,c),st=>F c st
 | .yield (none,c),st=>I (i+1) c st
 | .yield (some _,_),_=>False
theorem fB{γ J:Type}{a b:Nat}{g:γ}{f:Nat->Option J×γ->So (ForInStep (Option J×γ))}{k:Option J×γ->So α}{Q:α->SortSt->Prop}(I:Nat->γ->SortSt->Prop)(F:γ->SortSt->Prop)(D:J->SortSt->Prop)(h:I a g st)(hs:∀i st,a<=i->i<b->∀g,I i g st->Ws c (f i (none,g)) (lp γ J I F D i) st)(he:∀g st,I (max a b) g st->F g st)(hd:∀o g st,D o st->Ws c (k (some o,g)) Q st)(hk:∀st g,F g st->Ws c (k (none,g)) Q st):
  Ws c (forIn [a:b] ((none,g):Option J×γ) f >>= k) Q st:=by
 refine wpS_bind (wpS_mono (wpS_forRange (I:=λi p st=>p.1=none/\I i p.2 st) (Q:=λp st=>match p with | (some o,_)=>D o st | (none,g)=>F g st) (λi p st h1 h2 h3=>?_) (λp st h3=>?_) ⟨rfl,h⟩) λp st h3=>?_)
 ·obtain ⟨_,g⟩:=p;obtain ⟨rfl,h3⟩:=h3;refine wpS_mono (hs i st h1 h2 g h3) λr st' h4=>?_;rcases r with ⟨_ | o,g⟩ | ⟨_ | o,g⟩
  ·exact h4
  ·exact h4
  ·exact ⟨rfl,h4⟩
  ·exact h4.elim
 ·obtain ⟨_,g⟩:=p;obtain ⟨rfl,h3⟩:=h3;exact he g st h3
 ·obtain ⟨_ | o,g⟩:=p
  ·exact hk st g h3
  ·exact hd o g st h3
theorem aIm{α β:Type}{P:α×β->Prop}(h:∀a b,P (a,b))(x:α×β):P x:=h x.1 x.2
theorem aIn{α β γ:Type}{P:α×β×γ->Prop}(h:∀a b c,P (a,b,c))(x:α×β×γ):P x:=h x.1 x.2.1 x.2.2
theorem aFj{α β γ δ:Type}{P:α×β×γ×δ->Prop}(h:∀a b c d,P (a,b,c,d))(x:α×β×γ×δ):P x:=h x.1 x.2.1 x.2.2.1 x.2.2.2
theorem a6t{α β γ δ ε:Type}{P:α×β×γ×δ×ε->Prop}(h:∀a b c d e,P (a,b,c,d,e))(x:α×β×γ×δ×ε):P x:=h x.1 x.2.1 x.2.2.1 x.2.2.2.1 x.2.2.2.2
theorem a9o{α β γ δ ε ζ:Type}{P:α×β×γ×δ×ε×ζ->Prop}(h:∀a b c d e f,P (a,b,c,d,e,f))(x:α×β×γ×δ×ε×ζ):P x:=h x.1 x.2.1 x.2.2.1 x.2.2.2.1 x.2.2.2.2.1 x.2.2.2.2.2
end
structure Sk(xs:Array Keyed)(pn:Array (Nat×Nat×Nat))(st:SortSt):Prop where
 kind:kindOf st=oneType'
 failed:failedOf st=none
 arr:arrOf st=xs
 pend:pendingOf st=pn
noncomputable def gal:Bool->Keyed->Array Keyed->Nat->Nat->Nat->So (Option Nat):=sortPriv% PySem.Builtin.gallop
noncomputable def mLo:Array Keyed->Array Keyed->So (Array Keyed):=sortPriv% PySem.Builtin.mergeLo
noncomputable def mHi:Array Keyed->Array Keyed->So (Array Keyed):=sortPriv% PySem.Builtin.mergeHi
section
variable{c:Cw}{α β:Type}{st:SortSt}
theorem rU{a b:Nat}(h:a<b):a<=a+(b-a) / 2/\a+(b-a) / 2<b:=
 ⟨zt _ _,Nat.lt_of_lt_of_eq (gd (Nat.div_lt_self (vx h) (yv 1)) a) (ul (yd h))⟩
theorem a3o{n:Nat}{f:Nat->Option β×Nat×Nat->So (ForInStep (Option β×Nat×Nat))}{k:Option β×Nat×Nat->So α}{Q:α->SortSt->Prop}(m:Nat->Nat->Nat)(hm:∀{a b},a<b->a<=m a b/\m a b<b)(p:Nat->Bool)(hp:∀i j,i<=j->j<n->p j=true->p i=true)(hf:∀x lo hi (R:ForInStep (Option β×Nat×Nat)->SortSt->Prop),(¬lo<hi->R (.done (none,lo,hi)) st)->(lo<hi->m lo hi<n->(p (m lo hi)=true->R (.yield (none,m lo hi+1,hi)) st)/\(p (m lo hi)=false->R (.yield (none,lo,m lo hi)) st))->hi<=n->Ws c (f x (none,lo,hi)) R st){lo hi:Nat}(h1:lo<=hi)(h2:hi<=n)(h3:∀i,i<lo->p i=true)(h4:∀i,hi<=i->i<n->p i=false)(h:∀r,r<=n->(∀i,i<r->p i=true)->(∀i,r<=i->i<n->p i=false)->Ws c (k (none,r,r)) Q st):Ws c (forIn [0:n] ((none,lo,hi):Option β×Nat×Nat) f >>= k) Q st:=by
 have out:∀{a b:Nat},b<=a->a<=b->b<=n->(∀i,i<a->p i=true)->(∀i,b<=i->i<n->p i=false)->Ws c (k (none,a,b)) Q st:=λg0 g1 g2 g3 g4=>by
  obtain rfl:=kg g1 g0;exact h _ g2 g3 g4
 refine fB (I:=λx g st'=>st'=st/\g.1<=g.2/\g.2<=n/\g.2+x<=n+g.1/\(∀i,i<g.1->p i=true)/\∀i,g.2<=i->i<n->p i=false) (F:=λg st'=>st'=st/\Ws c (k (none,g)) Q st) (D:=λz z=>False) ⟨rfl,h1,h2,Nat.le_add_right_of_le h2,h3,h4⟩ ?_ ?_ (λz z z e=>e.elim) ?_
 ·rintro x st' - hx g ⟨rfl,g1,g2,g3,g4,g5⟩;refine hf x g.1 g.2 _ (λe=>⟨rfl,out (ur e) g1 g2 g4 g5⟩) (λe e0=>?_) g2;obtain ⟨m1,m2⟩:=hm e;refine ⟨λep=>⟨rfl,m2,g2,?_,λi hi=>hp i _ (yz hi) e0 ep,g5⟩,λep=>⟨rfl,m1,yd e0,?_,g4,λi h1 h2=>?_⟩⟩
  ·exact za (zw g3) (zw (yg m1 n))
  ·exact za (wz _ x▸yx m2 x) g3
  ·cases e:p i
   ·rfl
   ·replace ep:=(hp _ i h1 h2 e ..)▸ep;exact ep
 ·rintro g st' ⟨rfl,g1,g2,g3,g4,g5⟩;replace g3:=(uz g.2 ..)▸(jw (yj n) ..)▸g3;exact ⟨rfl,out (gk g3) g1 g2 g4 g5⟩
 ·rintro st' g ⟨rfl,e⟩;exact e
theorem aAs{n mx:Nat}{f:Nat->Option β×Nat×Nat->So (ForInStep (Option β×Nat×Nat))}{k:Option β×Nat×Nat->So α}{Q:α->SortSt->Prop}(q:Nat->Bool)(hf:∀x a o (R:ForInStep (Option β×Nat×Nat)->SortSt->Prop),(¬o<mx->R (.done (none,a,o)) st)->(o<mx->(q o=false->R (.done (none,a,o)) st)/\(q o=true->R (.yield (none,o,2*o+1)) st))->Ws c (f x (none,a,o)) R st)(h0:q 0=true)(h1:0<mx)(h2:mx<=n)(h:∀a o,a<min o mx->min o mx<=mx->q a=true->(min o mx=mx∨q (min o mx)=false)->Ws c (k (none,a,o)) Q st):
  Ws c (forIn [0:n] ((none,0,1):Option β×Nat×Nat) f >>= k) Q st:=by
 have o1:∀{a o},a<mx->a<o->q a=true->¬o<mx->Ws c (k (none,a,o)) Q st:=λ{a o} g2 g1 g3 e=>by
  have e:=vq (ur e);exact h a o (gw e g2) (ju ..) g3 (.inl e)
 refine fB (I:=λx g st'=>st'=st/\g.1<g.2/\x<g.2/\g.1<mx/\q g.1=true) (F:=λg st'=>st'=st/\Ws c (k (none,g)) Q st) (D:=λz z=>False) ⟨rfl,Nat.zero_lt_one,Nat.zero_lt_one,h1,h0⟩ ?_ ?_ (λz z z e=>e.elim) ?_
 ·rintro x st' - hx g ⟨rfl,g1,g2,g3,g4⟩;have lt2:g.2<2*g.2+1:=Nat.lt_succ_of_le (Nat.le_mul_of_pos_left _ (jm 1));refine hf x g.1 g.2 _ (λe=>⟨rfl,o1 g3 g1 g4 e⟩) λe=>⟨λe'=>⟨rfl,?_⟩,λe'=>⟨rfl,lt2,yt g2 lt2,e,e'⟩⟩;have m:=yo (yd e);exact h g.1 g.2 (gw m g1) (ju ..) g4 (.inr (gw m e'))
 ·rintro g st' ⟨rfl,g1,g2,g3,g4⟩;replace g2:=(jw (yj n) ..)▸g2;exact ⟨rfl,o1 g3 g1 g4 (yf.mpr (za h2 (yd g2)))⟩
 ·rintro st' g ⟨rfl,e⟩;exact e
noncomputable def bey(l:Bool)(k x:Keyed):Bool:=if l=true then lk x k else !lk k x
theorem aGp{arr:Array Keyed}{i:Nat}{l:Bool}{k x:Keyed}{f g:Keyed->So (Option Bool)}{Q:Option Bool->SortSt->Prop}(hk:kindOf st=oneType')(hx:arr[i]?=some x)(hx':Kd x)(hy:Kd k)(hf:f x=lt' x k)(hg:g x=(do let r ←lt' k x;pure (r.map λb=>!b)))(h:Q (some (bey l k x)) st):
  Ws c (do let x ←elem' arr i;if l=true then f x else g x) Q st:=by
 refine aF (bO hx ?_);cases l
 ·show Ws _ (g x) _ _;exact gw hg (aF (vJ hk hy hx' (aD h)))
 ·show Ws _ (f x) _ _;exact gw hf (vJ hk hx' hy h)
end
section
variable{c:Cw}{st:SortSt}{l:Bool}{k:Keyed}{arr:Array Keyed}{base n hint:Nat}{Q:Option Nat->SortSt->Prop}
theorem aFu(hk:kindOf st=oneType')(hy:Kd k)(p:Nat->Bool)(hp:∀i,i<n->∃x,arr[base+i]?=some x/\Kd x/\bey l k x=p i)(hm:∀i j,i<=j->j<n->p j=true->p i=true)(hh:hint<n)(h:∀r,r<=n->(∀i,i<r->p i=true)->(∀i,r<=i->i<n->p i=false)->Q (some r) st):Ws c (gal l k arr base n hint) Q st:=by
 have hb:∀{i:Nat}{f g:Keyed->So (Option Bool)}{Q:Option Bool->SortSt->Prop},i<n->(∀x,f x=lt' x k)->(∀x,g x=(do let r ←lt' k x;pure (r.map λb=>!b)))->Q (some (p i)) st ->
   Ws c (do let x ←elem' arr (base+i);if l=true then f x else g x) Q st:=λhi hf hg hq=>by
  obtain ⟨x,q_h⟩:=(hp _ hi);refine an3 q_h λhx kx e=>?_;exact aGp hk hx kx hy (hf x) (hg x) (e▸hq)
 have hm':∀i j,i<=j->j<n->p i=false->p j=false:=λi j h1 h2 h3=>by
  cases e:p j
  ·rfl
  ·replace h3:=(hm i j h1 h2 e ..)▸h3;exact h3
 have hn:hint+(n-hint)=n:=ul (yd hh);refine aF (hb hh (λz=>rfl) (λz=>rfl) (bQ (λhr=>?_) λhr=>?_))
 ·refine aAs (mx:=n-hint) (λo=>p (hint+o)) (λx a o R h1 h2=>bQ (p:=o ≥ n-hint) (λe=>aD (h1 (yf.mpr e))) λe=>aF (hb (i:=hint+o) (za8 (wc e)) (λz=>rfl) (λz=>rfl) (bQ (p:=(!p (hint+o))=true)
   (λe2=>aD ((h2 (wc e)).1 (vn _▸e2))) λe2=>aD ((h2 (wc e)).2 (Bool.not_eq_false _▸vn _▸e2))))) hr (vx hh) (vk ..) λa o g1 g2 g3 g4=>?_
  refine a3o (lo:=hint+a+1) (hi:=hint+min o (n-hint)) _ rU p hm (λx lo hi R h1 h2 h3=>bQ (p:=lo ≥ hi) (λe=>aD (h1 (yf.mpr e))) λe=>?_) (gd g1 hint) (za (yg g2 hint) (zu hn)) (λi hi=>hm i (hint+a) (yz hi) (za8 (zj g1 g2)) g3) (λi h1 h2=>?_) λr h1 h2 h3=>aD (h r h1 h2 h3)
  ·have e':=wc e;have el:=zj (rU e').2 h3;exact aF (hb el (λz=>rfl) (λz=>rfl) (bQ (p:=p (lo+(hi-lo) / 2)=true) (λe2=>aD ((h2 e' el).1 e2)) λe2=>aD ((h2 e' el).2 (ww.mpr e2))))
  ·rcases g4 with g | g
   ·replace h1:=hn▸g▸h1;exact Ue h2 (yf.mpr h1)
   ·exact hm' _ i h1 h2 g
 ·have hr':p hint=false:=ww.mpr hr;refine aAs (mx:=hint+1) (λo=>!p (hint-o)) (λx a o R h1 h2=>bQ (p:=o ≥ hint+1) (λe=>aD (h1 (yf.mpr e))) λe=>aF (hb (i:=hint-o) (yt (vk ..) hh) (λz=>rfl) (λz=>rfl) (bQ (p:=p (hint-o)=true)
   (λe2=>aD ((h2 (wc e)).1 (gw e2 rfl))) λe2=>aD ((h2 (wc e)).2 (gw (ww.mpr e2 ..) rfl))))) (by show (!p (hint-0))=true;exact gw (fk ..) (gw hr' rfl)) (jm _) hh λa o g1 g2 g3 g4=>?_
  have g3:p (hint-a)=false:=vn _▸g3;refine a3o (lo:=hint+1-min o (hint+1)) (hi:=hint-a) _ rU p hm (λx lo hi R h1 h2 h3=>bQ (p:=lo ≥ hi) (λe=>aD (h1 (yf.mpr e))) λe=>?_) (Nat.succ_sub_succ hint a▸Nat.sub_le_sub_left g1 (hint+1)) (za (vk ..) (yd hh)) (λi hi=>?_) (λi h1 h2=>hm' (hint-a) i h1 h2 g3) λr h1 h2 h3=>aD (h r h1 h2 h3)
  ·have e':=wc e;have el:=zj (rU e').2 h3;exact aF (hb el (λz=>rfl) (λz=>rfl) (bQ (p:=p (lo+(hi-lo) / 2)=true) (λe2=>aD ((h2 e' el).1 e2)) λe2=>aD ((h2 e' el).2 (ww.mpr e2))))
  ·rcases g4 with g | g
   ·replace hi:=(vz ..)▸g▸hi;exact Ue hi (xi i)
   ·exact hm i _ (jx (yz (Nat.add_lt_of_lt_sub hi))) (yt (vk ..) hh) (by cases e:p (hint-min o (hint+1)) with | true=>rfl | false=>replace g:=e▸g;cases g)
structure Rn(arr:Array Keyed)(base n:Nat)(ZZ:List Keyed):Prop where
 z:(arr.toList.drop base).take n=ZZ
 l:ZZ.length=n
 k:∀x∈ZZ,Kd x
 u:Up2 ZZ
theorem Rn.at{ZZ:List Keyed}(h:Rn arr base n ZZ){i:Nat}(hi:i<n):∃x,arr[base+i]?=some x/\Kd x/\ZZ[i]?=some x:=by obtain ⟨x,e⟩:∃x,ZZ[i]?=some x:=⟨_,zg (h.l.symm▸hi)⟩;exact ⟨x,(bw (xy ..) (bw (zai ..) (bw (ve hi ..) (gw (h.z ..) (gw e rfl))))),h.k _ (ym e),e⟩
theorem vO{ZZ:List Keyed}(h:Up2 ZZ){i j:Nat}{x y:Keyed}(hij:i<=j)(hx:ZZ[i]?=some x)(hy:ZZ[j]?=some y):lk y x=false:=by
 obtain ⟨h1,rfl⟩:=zc.mp hx;obtain ⟨h2,rfl⟩:=zc.mp hy;rcases jd hij with h' | rfl
 ·exact gj.mp h i j h1 h2 h'
 ·exact a4y _
theorem a6n{ZZ:List Keyed}{r:Nat}{x:Keyed}(h:x∈ZZ.take r):∃i:Nat,i<r/\ZZ[i]?=some x:=by
 obtain ⟨i,hi⟩:=jt.mp h;replace hi:=(List.getElem?_take ..)▸hi;revert hi;refine ic ite_ (λz hi=>?_) λz hi=>?_
 ·exact ⟨i,‹_›,hi⟩
 ·cases hi
theorem a5o{ZZ:List Keyed}{r:Nat}{x:Keyed}(h:x∈ZZ.drop r):∃i:Nat,r<=i/\ZZ[i]?=some x:=by obtain ⟨i,hi⟩:=jt.mp h;replace hi:=(zai ..)▸hi;exact ⟨r+i,zt ..,hi⟩
theorem a4l{ZZ:List Keyed}(hr:Rn arr base n ZZ)(hk:kindOf st=oneType')(hy:Kd k)(hh:hint<n)(up:∀x y,lk y x=false->bey l k y=true->bey l k x=true)(h:∀r,r<=n->(∀x∈ZZ.take r,bey l k x=true)->(∀x∈ZZ.drop r,bey l k x=false)->Q (some r) st):Ws c (gal l k arr base n hint) Q st:=by
 refine aFu hk hy (λi=>(ZZ[i]?).any (bey l k)) (λi hi=>?_) (λi j h1 h2 h3=>?_) hh λr h0 h1 h2=>h r h0 (λx hx=>?_) λx hx=>?_
 ·obtain ⟨x,q_h⟩:=(hr.at hi);refine an3 q_h λhx kx e=>?_;exact ⟨x,hx,kx,gw e rfl⟩
 ·obtain ⟨x,q_h⟩:=(hr.at (yt h1 h2));refine an3 q_h λz z hx=>?_;obtain ⟨y,q_h⟩:=(hr.at h2);refine an3 q_h λz z hy=>?_;replace h3:=hy▸h3;exact gw hx (up x y (vO hr.u h1 hx hy) h3)
 ·obtain ⟨i,hi,e⟩:=a6n hx;have:=h1 i hi;replace this:=e▸this;exact this
 ·obtain ⟨i,hi,e⟩:=a5o hx;have:=h2 i hi (hr.l▸(zc.mp e).1);replace this:=e▸this;exact this
theorem wG{ZZ:List Keyed}(hr:Rn arr base n ZZ)(hk:kindOf st=oneType')(hy:Kd k)(hh:hint<n)(h:∀r,r<=n->(∀x∈ZZ.take r,lk k x=false)->(∀x∈ZZ.drop r,lk k x=true)->Q (some r) st):Ws c (gal false k arr base n hint) Q st:=
 a4l hr hk hy hh (λx y e e'=>by
  have e':(!lk k y)=true:=e';show (!lk k x)=true;rw [vn] at e' ⊢;exact lW e e') λr h0 h1 h2=>h r h0 (λx hx=>vn _▸h1 x hx) λx hx=>Bool.not_eq_false' _▸h2 x hx
theorem v8{ZZ:List Keyed}(hr:Rn arr base n ZZ)(hk:kindOf st=oneType')(hy:Kd k)(hh:hint<n)(h:∀r,r<=n->(∀x∈ZZ.take r,lk x k=true)->(∀x∈ZZ.drop r,lk x k=false)->Q (some r) st):Ws c (gal true k arr base n hint) Q st:=
 a4l hr hk hy hh (λx y e e'=>pI e e') h
end
structure Mg(a b:Array Keyed):Prop where
 ka:∀x∈a.toList,Kd x
 kb:∀x∈b.toList,Kd x
 ua:Up2 a.toList
 ub:Up2 b.toList
 first:∀x∈a.toList,∀y,b[0]?=some y->lk y x=true
 last:∀x,a[a.size-1]?=some x->∀y∈b.toList,lk y x=true
 pa:0<a.size
 pb:0<b.size
section
variable{a b:Array Keyed}{L:List Keyed}{out:Array Keyed}{ia ib k:Nat}{x y:Keyed}
theorem iG{l:Array Keyed}{i:Nat}(kd:∀x∈l.toList,Kd x)(h:i<l.size):∃x,l[i]?=some x/\Kd x:=⟨_,gl h,kd _ (Array.getElem_mem_toList h)⟩
theorem eW{l:Array Keyed}{i:Nat}{x:Keyed}(h:l[i]?=some x):l.toList.drop i=x::l.toList.drop (i+1):=by replace h:=(xy ..)▸h;obtain ⟨h1,rfl⟩:=zc.mp h;exact xf h1
theorem a6f(l:Array Keyed)(i k:Nat):(l.extract i (i+k)).toList=(l.toList.drop i).take k:=by exact gw (jy ..) (gw (kl ..) (gw (xe ..) rfl))
theorem kQ(l:Array Keyed)(i:Nat):(l.extract i l.size).toList=l.toList.drop i:=by exact gw (jy ..) (gw (kl ..) (xu (gw (ue ..) (gw (yu ..) (zf _)))))
noncomputable def Pm(a b:Array Keyed)(L:List Keyed)(out:Array Keyed)(ia ib:Nat):Prop:=out.toList++mrg (a.toList.drop ia) (b.toList.drop ib)=L
theorem Pm.ta(h:Pm a b L out ia ib)(hx:a[ia]?=some x)(hy:b[ib]?=some y)(e:lk y x=false):Pm a b L (out.push x) (ia+1) ib:=by unfold Pm at *;replace h:=(eW hy ..)▸(xK e ..)▸(eW hy ..)▸(eW hx ..)▸h;exact bw h (gw (jl ..) (gw (zh ..) rfl))
theorem Pm.tb(h:Pm a b L out ia ib)(hx:a[ia]?=some x)(hy:b[ib]?=some y)(e:lk y x=true):Pm a b L (out.push y) ia (ib+1):=by unfold Pm at *;replace h:=(eW hx ..)▸(xW e ..)▸(eW hy ..)▸(eW hx ..)▸h;exact bw h (gw (jl ..) (gw (zh ..) rfl))
theorem aAt{l:Array Keyed}{i:Nat}(u:Up2 l.toList)(h:l[i]?=some x):∀y∈l.toList.drop i,lk y x=false:=λy hy=>by
 have u:=List.Pairwise.drop (i:=i) u;rw [eW h] at u hy;rcases ye.mp hy with rfl | hy
 ·exact a4y _
 ·exact (List.pairwise_cons.mp u).1 y hy
theorem Pm.as(h:Pm a b L out ia ib)(ub:Up2 b.toList)(hy:b[ib]?=some y)(hk:∀x∈(a.toList.drop ia).take k,lk y x=false):Pm a b L (out++a.extract ia (ia+k)) (ia+k) ib:=by unfold Pm at *;replace h:=(zah ..)▸(a4t _ λx hx z hz=>lW (hk x hx) (aAt ub hy z hz))▸(yb k (a.toList.drop ia) ..)▸h;exact gw (wa ..) (gw (a6f ..) (gw (zh ..) h))
theorem Pm.bs(h:Pm a b L out ia ib)(ua:Up2 a.toList)(hx:a[ia]?=some x)(hk:∀y∈(b.toList.drop ib).take k,lk y x=true):Pm a b L (out++b.extract ib (ib+k)) ia (ib+k):=by unfold Pm at *;replace h:=(zah ..)▸(y9 _ λz hz y hy=>aFn (hk y hy) (aAt ua hx z hz))▸(yb k (b.toList.drop ib) ..)▸h;exact gw (wa ..) (gw (a6f ..) (gw (zh ..) h))
theorem iS{l:Array Keyed}{i:Nat}(e:i=l.size):l.toList.drop i=[]:=uw (gw (yu ..) (gw e (zf _)))
theorem Pm.doneA(h:Pm a b L out ia ib)(e:ia=a.size):(out++a.extract ia a.size++b.extract ib b.size).toList=L:=by unfold Pm at h;replace h:=(jM ..)▸(iS e ..)▸h;exact gw (wa ..) (gw (wa ..) (gw (kQ ..) (gw (kQ ..) (gw (iS e ..) (gw (yw ..) h)))))
theorem Pm.doneB(h:Pm a b L out ia ib)(e:ib=b.size):(out++a.extract ia a.size++b.extract ib b.size).toList=L:=by unfold Pm at h;replace h:=(iH ..)▸(iS e ..)▸h;exact gw (wa ..) (gw (wa ..) (gw (kQ ..) (gw (kQ ..) (gw (iS e ..) (gw (yw ..) h)))))
theorem Pm.lastA(h:Pm a b L out ia ib)(g:Mg a b)(e:ia+1=a.size):(out++b.extract ib b.size++a.extract ia a.size).toList=L:=by obtain ⟨x,hx,-⟩:=iG g.ka (i:=ia) (e▸yv ia);unfold Pm at h;have hb:=y9 (c:=[x]) (b:=b.toList.drop ib) [] λz hz y hy=>gw (ze.mp hz ..) (g.last x (e▸hx) y (ug hy));replace hb:=(iH ..)▸(yw ..)▸hb;replace h:=hb▸(iS e ..)▸(eW hx ..)▸h;exact gw (wa ..) (gw (wa ..) (gw (kQ ..) (gw (kQ ..) (gw (eW hx ..) (gw (iS e ..) (gw (zh ..) h))))))
theorem Rn.dr{l:Array Keyed}(kd:∀x∈l.toList,Kd x)(u:Up2 l.toList)(i:Nat):Rn l i (l.size-i) (l.toList.drop i):=by have e:(l.toList.drop i).length=l.size-i:=gw (ue ..) (gw (yu ..) rfl);exact ⟨xu (zu e),e,λx hx=>kd x (ug hx),u.drop⟩
end
structure Mc where
 a:Array Keyed
 b:Array Keyed
 xs:Array Keyed
 pn:Array (Nat×Nat×Nat)
noncomputable def Mc.L(m:Mc):List Keyed:=mrg m.a.toList m.b.toList
noncomputable def Dn(m:Mc)(o:Array Keyed)(st:SortSt):Prop:=Sk m.xs m.pn st/\o.toList=m.L
structure Lv(m:Mc)(x:Nat)(out:Array Keyed)(ia ib:Nat)(st:SortSt):Prop where
 pm:Pm m.a m.b m.L out ia ib
 ha:ia+1<m.a.size
 hb:ib<m.b.size
 hx:x<=ia+ib
 sk:Sk m.xs m.pn st
noncomputable def up1(x y:Nat):Nat:=Nat.casesOn y x λz=>x+1
theorem a3c(x y:Nat):x<=up1 x y:=by
 cases y with
 | zero=>exact zf _
 | succ y=>exact yi _
theorem zB{y:Nat}(h:0<y)(x:Nat):up1 x y=x+1:=by
 cases y with
 | zero=>cases h
 | succ y=>rfl
theorem Lv.le{m:Mc}{x:Nat}{out:Array Keyed}{ia ib y:Nat}{st:SortSt}(v:Lv m (up1 x y) out ia ib st):x<=ia+ib:=za (a3c x y) v.hx
section
variable{c:Cw}{α:Type}{st:SortSt}
theorem yO{JJ:Nat->So α}{p:Prop}{_:Decidable p}{m1 m2:Nat}{Q:α->SortSt->Prop}(h:∀m,Ws c (JJ m) Q st):Ws c (if p then JJ m1 else JJ m2) Q st:=bQ (λz=>h m1) λz=>h m2
theorem yB{β γ:Type}{JJ:β->γ->So α}{p:Prop}{_:Decidable p}{x:So α}{o:β}{i:γ}{Q:α->SortSt->Prop}(C:β->γ->Prop)(h:∀o i,C o i->Ws c (JJ o i) Q st)(hy:¬p->C o i)(hx:(∀o i,C o i->Ws c (JJ o i) Q st)->p->Ws c x Q st):Ws c (if p then x else JJ o i) Q st:=bQ (hx h) λe=>h _ _ (hy e)
theorem pK{m n:Nat}(h:m<n)(e:¬m+1=n):m+1<n:=xm h e
theorem aHw{m:Mc}(g:Mg m.a m.b){Q:Array Keyed->SortSt->Prop}(hs:Sk m.xs m.pn st)(h:∀r st',Dn m r st'->Q r st'):Ws c (mLo m.a m.b) Q st:=by
 refine aF (kK ?_);obtain ⟨x0,hx0,kx0⟩:=iG g.ka g.pa;obtain ⟨y0,hy0,ky0⟩:=iG g.kb g.pb;have p0:Pm m.a m.b m.L #[y0] 0 1:=Pm.tb (out:=#[]) (ib:=0) rfl hx0 hy0 (g.first x0 (zbk.mpr (Array.mem_of_getElem? hx0)) _ hy0);refine aF (bO hy0 (dP (m:=1) (λe=>aD (h _ _ ⟨hs,p0.doneB e⟩)) λe1=>dP (m:=0+1) (λe=>aD (h _ _ ⟨hs,p0.lastA g e⟩)) λe2=>aF (jC ?_)));refine fB (I:=λx g st=>Lv m x g.1 g.2.1 g.2.2.1 st) (F:=λz z=>False) (D:=Dn m) ⟨p0,pK g.pa e2,pK g.pb e1,yj _,hs⟩ (λx st z z=>aFj λout ia ib mg v=>?_) ?_ (λo g st d=>aD (h o st d)) (λz z e=>e.elim)
 ·refine fB (I:=λy g st=>Lv m (up1 x y) g.1 g.2.1 g.2.2.1 st) (F:=λg st=>Lv m (x+1) g.1 g.2.1 g.2.2.1 st) (D:=Dn m) v (λy st z z=>a6t λout ia ib ac bc v=>?_) ?_ (λo g st d=>aD d) (λst=>a6t λout ia ib ac bc v=>?_)
  ·obtain ⟨p,hp,kp⟩:=iG g.ka (xl v.ha);obtain ⟨q,hq,kq⟩:=iG g.kb v.hb;refine aF (bO hq (aF (bO hp (aF (vJ v.sk.kind kq kp (bQ (λe=>aF (bO hq ?_)) λe=>aF (bO hp ?_)))))))
   ·have v':=v.pm.tb hp hq e;refine dP (m:=ib+1) (λe=>aD ⟨v.sk,v'.doneB e⟩) λe=>?_;have w:Lv m (x+1) (out.push q) ia (ib+1) st:=⟨v',v.ha,pK v.hb e,zw v.le,v.sk⟩;exact bQ (λz=>aD w) λz=>aD w
   ·have v':=v.pm.ta hp hq (ww.mpr e);refine dP (m:=ia+1+1) (λe=>aD ⟨v.sk,v'.lastA g e⟩) λe=>?_;have w:Lv m (x+1) (out.push p) (ia+1) ib st:=⟨v',pK v.ha e,v.hb,Nat.succ_add ia ib▸zw v.le,v.sk⟩;exact bQ (λz=>aD w) λz=>aD w
  ·exact λz z v=>zB (zj (Nat.add_pos_left g.pa _) (ku ..)) x▸v
  ·refine aF (kK ?_);refine fB (I:=λz g st=>Lv m (x+1) g.1 g.2.1 g.2.2.1 st) (F:=λg st=>Lv m (x+1) g.1 g.2.1 g.2.2.1 st) (D:=Dn m) v (λy st z z=>a9o λout ia ib mg ac bc v=>?_) (λz z v=>v) (λo g st d=>aD d) (λst=>a9o λout ia ib mg ac bc v=>?_)
   ·extract_lets -underBinder s1 o1 s2 i1 s3 b1 s4 m1 s5 a1 c1 jp;refine yO (JJ:=jp ()) λmm=>?_;obtain ⟨q,hq,kq⟩:=iG g.kb v.hb;have hai:=xl v.ha;refine aF (i0 (aF (bO hq (aF (wG (Rn.dr g.ka g.ua ia) v.sk.kind kq (vx hai) λk hk h1 h2=>?_)))));have pk:=v.pm.as g.ub hq h1;replace h2:=(zah ..)▸h2;dsimp -zeta only [nx];extract_lets -underBinder ac jp2 o2 i2;refine yB (JJ:=jp2 ()) (λo i=>Lv m (x+1) o i ib st/\∀p∈m.a.toList.drop i,lk q p=true) (λo i w=>?_) (λe=>?_) λH z=>?_
    ·obtain ⟨v,hp⟩:=w;obtain ⟨p,ep,kp⟩:=iG g.ka (xl v.ha);have pb:=v.pm.tb ep hq (hp p (eW ep▸zm));refine aF (bO hq (dP (m:=ib+1) (λe=>aD ⟨⟨v.sk.1,v.sk.2,v.sk.3,v.sk.4⟩,pb.doneB e⟩) λe=>?_));have hb:=pK v.hb e;refine aF (bO ep (aF (v8 (Rn.dr g.kb g.ub (ib+1)) v.sk.kind kp (vx hb) λk hk h1 h2=>?_)));have pk:=pb.bs g.ua ep h1;replace h2:=(zah ..)▸h2;dsimp -zeta only [nx];extract_lets -underBinder bc jp3 o3 i3;refine yB (JJ:=jp3 ()) (λo j=>Pm m.a m.b m.L o i j/\j<m.b.size/\ib<j/\∀y∈m.b.toList.drop j,lk y p=false) (λo j w=>?_) (λe=>?_) λH z=>?_
     ·obtain ⟨u1,u2,u3,u4⟩:=w;obtain ⟨y,hy,-⟩:=iG g.kb u2;have pa:=u1.ta ep hy (u4 y (eW hy▸zm));refine aF (bO ep (dP (m:=i+1+1) (λe=>aD ⟨⟨v.sk.1,v.sk.2,v.sk.3,v.sk.4⟩,pa.lastA g e⟩) λe=>?_));have w:∀{st':SortSt},Sk m.xs m.pn st'->Lv m (x+1) (o.push p) (i+1) j st':=λsk=>⟨pa,pK v.ha e,u2,za v.hx (yy (yi i) (yd u3)),sk⟩;exact bQ (λz=>aD (w ⟨v.sk.1,v.sk.2,v.sk.3,v.sk.4⟩)) λz=>aD (w ⟨v.sk.1,v.sk.2,v.sk.3,v.sk.4⟩)
     ·obtain rfl:k=0:=jj e;exact ⟨pb,hb,yv _,h2⟩
     ·exact dP (m:=ib+1+k) (λe=>aD ⟨⟨v.sk.1,v.sk.2,v.sk.3,v.sk.4⟩,pk.doneB e⟩) λe=>H _ _ ⟨pk,xm (za9 (yd hb) hk) e,zj (yv ib) (zt ..),h2⟩
    ·obtain rfl:k=0:=jj e;exact ⟨v,h2⟩
    ·refine dP (m:=ia+k+1) (λe=>aD ⟨⟨v.sk.1,v.sk.2,v.sk.3,v.sk.4⟩,pk.lastA g e⟩) λe=>dP (m:=ia+k) (λe=>aD ⟨⟨v.sk.1,v.sk.2,v.sk.3,v.sk.4⟩,pk.doneA e⟩) λe2=>H _ _ ⟨⟨pk,pK (xm (za9 (yd hai) hk) e2) e,v.hb,za v.hx (yx (zt ..) ib),v.sk⟩,h2⟩
   ·exact aF (i0 (aD ⟨v.pm,v.ha,v.hb,v.hx,v.sk.1,v.sk.2,v.sk.3,v.sk.4⟩))
 ·exact λz z v=>Ue (za (ku ..) v.hx) (zaz (Nat.add_lt_add (xl v.ha) v.hb))
end
section
variable{a b:Array Keyed}{L R:List Keyed}{out:Array Keyed}{na nb k:Nat}{x y:Keyed}
theorem iD(l:Array Keyed)(m n:Nat):(l.extract m n).toList=(l.toList.take n).drop m:=by exact gw (jy ..) (gw (kl ..) (gw (List.drop_take ..) rfl))
theorem bM{l:Array Keyed}{n:Nat}(h0:0<n)(h:l[n-1]?=some x):l.toList.take n=l.toList.take (n-1)++[x]:=by obtain ⟨n,rfl⟩:=Nat.exists_eq_succ_of_ne_zero (wq h0);refine gw (List.take_add_one ..) (gw (xy ..) (gw (show l[n]?=some x from h) ?_));rfl
theorem xU{l:Array Keyed}{n:Nat}(u:Up2 l.toList)(h0:0<n)(h:l[n-1]?=some x):∀y∈l.toList.take n,lk x y=false:=λy hy=>by
 have u:=List.Pairwise.take (i:=n) u;rw [bM h0 h] at u hy;rcases yh.mp hy with hy | hy
 ·exact (uk.mp u).2.2 y hy x zm
 ·exact gw (ze.mp hy ..) (a4y _)
noncomputable def Pl(a b:Array Keyed)(L R:List Keyed)(na nb:Nat):Prop:=mrg (a.toList.take na) (b.toList.take nb)++R=L
theorem Pl.as(h:Pl a b L R na nb)(hm:k<=na)(hk:∀x∈(a.toList.take na).drop k,∀y∈b.toList.take nb,lk y x=true):Pl a b L ((a.toList.take na).drop k++R) k nb:=by unfold Pl at *;replace h:=(zh ..)▸(yo hm ..)▸(gm ..)▸(a2s hk ..)▸(yb k (a.toList.take na) ..)▸h;exact h
theorem Pl.bs(h:Pl a b L R na nb)(hm:k<=nb)(hk:∀x∈a.toList.take na,∀y∈(b.toList.take nb).drop k,lk y x=false):Pl a b L ((b.toList.take nb).drop k++R) na k:=by unfold Pl at *;replace h:=(zh ..)▸(yo hm ..)▸(gm ..)▸(wR hk ..)▸(yb k (b.toList.take nb) ..)▸h;exact h
theorem uT(out:Array Keyed)(x:Keyed):(out.push x).toList.reverse=[x]++out.toList.reverse:=gw (jl ..) (gw (zae ..) rfl)
theorem zK(out l:Array Keyed):(out++l.reverse).toList.reverse=l.toList++out.toList.reverse:=by rw [wa,zae,zbl,List.reverse_reverse]
theorem Pl.ta(h:Pl a b L out.toList.reverse na nb)(h0:0<na)(hx:a[na-1]?=some x)(hk:∀y∈b.toList.take nb,lk y x=true):Pl a b L (out.push x).toList.reverse (na-1) nb:=by unfold Pl at *;rw [bM h0 hx,a2s λz hz y hy=>by rw [ze.mp hz];exact hk y hy,zh] at h;rw [uT];exact h
theorem Pl.tb(h:Pl a b L out.toList.reverse na nb)(h0:0<nb)(hy:b[nb-1]?=some y)(hk:∀x∈a.toList.take na,lk y x=false):Pl a b L (out.push y).toList.reverse na (nb-1):=by unfold Pl at *;rw [bM h0 hy,wR λx hx z hz=>by rw [ze.mp hz];exact hk x hx,zh] at h;exact gw (uT ..) h
theorem Pl.tas(h:Pl a b L out.toList.reverse na nb)(hm:k<=na)(hk:∀x∈(a.toList.take na).drop k,∀y∈b.toList.take nb,lk y x=true):Pl a b L (out++(a.extract k na).reverse).toList.reverse k nb:=by exact gw (zK ..) (gw (iD ..) (h.as hm hk))
theorem Pl.tbs(h:Pl a b L out.toList.reverse na nb)(hm:k<=nb)(hk:∀x∈a.toList.take na,∀y∈(b.toList.take nb).drop k,lk y x=false):Pl a b L (out++(b.extract k nb).reverse).toList.reverse na k:=by exact gw (zK ..) (gw (iD ..) (h.bs hm hk))
theorem pC(p q r:Array Keyed):(p++q++r.reverse).toList=p.toList++q.toList++r.toList.reverse:=gw (wa ..) (gw (wa ..) (gw (zbl ..) rfl))
theorem Pl.doneA(h:Pl a b L out.toList.reverse na nb)(e:na=0):(a.extract 0 na++b.extract 0 nb++out.reverse).toList=L:=by unfold Pl at h;subst e;replace h:=(jM ..)▸(zag ..)▸h;exact gw (pC ..) (gw (iD ..) (gw (iD ..) h))
theorem Pl.doneB(h:Pl a b L out.toList.reverse na nb)(e:nb=0):(a.extract 0 na++b.extract 0 nb++out.reverse).toList=L:=by unfold Pl at h;subst e;replace h:=(iH ..)▸(zag ..)▸h;exact gw (pC ..) (gw (iD ..) (gw (iD ..) (gw (zag ..) (gw (zbq ..) (gw (yw ..) h)))))
theorem Pl.firstB(h:Pl a b L out.toList.reverse na nb)(g:Mg a b)(e:nb=1):(b.extract 0 nb++a.extract 0 na++out.reverse).toList=L:=by obtain ⟨y,hy,-⟩:=iG g.kb g.pb;unfold Pl at h;subst e;have hb:=y9 (c:=a.toList.take na) (b:=[y]) [] λx hx z hz=>gw (ze.mp hz ..) (g.first x (wn hx) y hy);replace hb:=(iH ..)▸(yw ..)▸hb;have e1:b.toList.take 1=[y]:=bM (n:=1) uv hy;replace h:=hb▸e1▸h;exact gw (pC ..) (gw (iD ..) (gw (iD ..) (gw e1 h)))
theorem Rn.tk{l:Array Keyed}(kd:∀x∈l.toList,Kd x)(u:Up2 l.toList){n:Nat}(h:n<=l.size):Rn l 0 n (l.toList.take n):=
 ⟨rfl,gw (xo ..) (gw (yu ..) (gw (yo h ..) rfl)),λx hx=>kd x (wn hx),u.take⟩
theorem aHf{m n x N:Nat}(h0:0<m)(h:m+n+x<N):m-1+n+(x+1)<N:=by (first | lia | omega)
theorem aFq{m n x N:Nat}(h0:0<n)(h:m+n+x<N):m+(n-1)+(x+1)<N:=by (first | lia | omega)
theorem iF{m n:Nat}(h0:0<m)(h:m<=n):m-1<n:=zj (fy h0 uv) h
end
structure Hv(m:Mc)(x:Nat)(out:Array Keyed)(na nb:Nat)(st:SortSt):Prop where
 pm:Pl m.a m.b m.L out.toList.reverse na nb
 ha:0<na
 ha':na<=m.a.size
 hb:1<nb
 hb':nb<=m.b.size
 hx:na+nb+x<m.a.size+m.b.size
 sk:Sk m.xs m.pn st
theorem Hv.le{m:Mc}{x:Nat}{out:Array Keyed}{na nb y:Nat}{st:SortSt}(v:Hv m (up1 x y) out na nb st):na+nb+x<m.a.size+m.b.size:=yt (yg (a3c x y) _) v.hx
section
variable{c:Cw}{st:SortSt}
theorem gt1{n:Nat}(h:1<n)(e:¬n-1=1):1<n-1:=xm (jx h) (Ne.symm e)
theorem aHu{m:Mc}(g:Mg m.a m.b){Q:Array Keyed->SortSt->Prop}(hs:Sk m.xs m.pn st)(h:∀r st',Dn m r st'->Q r st'):Ws c (mHi m.a m.b) Q st:=by
 refine aF (kK ?_);obtain ⟨x0,hx0,kx0⟩:=iG g.ka (iF g.pa (zf _));have p0:Pl m.a m.b m.L (#[x0]:Array Keyed).toList.reverse (m.a.size-1) m.b.size:=
  Pl.ta (out:=#[]) (na:=m.a.size) (by unfold Pl;exact bw (yu ..) (bw (yu ..) (gw (xb ..) (gw (xb ..) (yw _))))) g.pa hx0 λy hy=>g.last x0 hx0 y (wn hy)
 refine aF (bO hx0 (dP (λe=>aD (h _ _ ⟨hs,p0.doneA e⟩)) λe1=>dP (λe=>aD (h _ _ ⟨hs,p0.firstB g e⟩)) λe2=>aF (jC ?_)));refine fB (I:=λx g st=>Hv m x g.2.2.1 g.1 g.2.1 st) (F:=λz z=>False) (D:=Dn m) ⟨p0,uf e1,vk ..,xm g.pb (Ne.symm e2),zf _,zbm (iF g.pa (zf _)) _,hs⟩ (λx st z z=>aFj λna nb out mg v=>?_) ?_ (λo g st d=>aD (h o st d)) (λz z e=>e.elim)
 ·refine fB (I:=λy g st=>Hv m (up1 x y) g.2.2.1 g.1 g.2.1 st) (F:=λg st=>Hv m (x+1) g.2.2.1 g.1 g.2.1 st) (D:=Dn m) v (λy st z z=>a6t λna nb out ac bc v=>?_) ?_ (λo g st d=>aD d) (λst=>a6t λna nb out ac bc v=>?_)
  ·have vb:=xl v.hb;obtain ⟨p,hp,kp⟩:=iG g.ka (iF v.ha v.ha');obtain ⟨q,hq,kq⟩:=iG g.kb (iF vb v.hb');refine aF (bO hq (aF (bO hp (aF (vJ v.sk.kind kq kp (bQ (λe=>aF (bO hp ?_)) λe=>aF (bO hq ?_)))))))
   ·have v':=v.pm.ta v.ha hp λy hy=>pI (xU g.ub vb hq y hy) e;refine dP (λe=>aD ⟨v.sk,v'.doneA e⟩) λe=>?_;have w:Hv m (x+1) (out.push p) (na-1) nb st:=⟨v',uf e,za (vk ..) v.ha',v.hb,v.hb',aHf v.ha v.le,v.sk⟩;exact bQ (λz=>aD w) λz=>aD w
   ·have v':=v.pm.tb vb hq λx hx=>lW (xU g.ua v.ha hp x hx) (ww.mpr e);refine dP (λe=>aD ⟨v.sk,v'.firstB g e⟩) λe=>?_;have w:Hv m (x+1) (out.push q) na (nb-1) st:=⟨v',v.ha,v.ha',gt1 v.hb e,za (vk ..) v.hb',aFq vb v.le,v.sk⟩;exact bQ (λz=>aD w) λz=>aD w
  ·exact λz z v=>zB (zj (Nat.add_pos_left g.pa _) (ku ..)) x▸v
  ·refine aF (kK ?_);refine fB (I:=λz g st=>Hv m (x+1) g.2.2.1 g.1 g.2.1 st) (F:=λg st=>Hv m (x+1) g.2.2.1 g.1 g.2.1 st) (D:=Dn m) v (λy st z z=>a9o λna nb out mg ac bc v=>?_) (λz z v=>v) (λo g st d=>aD d) (λst=>a9o λna nb out mg ac bc v=>?_)
   ·extract_lets -underBinder s1 o1 s2 i1 s3 b1 s4 m1 s5 a1 c1 jp;refine yO (JJ:=jp ()) λmm=>?_;have vb:=xl v.hb;obtain ⟨q,hq,kq⟩:=iG g.kb (iF vb v.hb');have uq:=xU g.ub vb hq;refine aF (i0 (aF (bO hq (aF (wG (Rn.tk g.ka g.ua v.ha') v.sk.kind kq (fy v.ha uv) λk hk h1 h2=>?_)))));have pk:=v.pm.tas hk λx hx y hy=>pI (uq y hy) (h2 x hx);replace h1:=(yo hk ..)▸(gm ..)▸h1;dsimp -zeta only [nx];extract_lets -underBinder kk ac jp2 o2 i2;refine yB (JJ:=jp2 ()) (λi o=>Hv m (x+1) o i nb st/\∀x∈m.a.toList.take i,lk q x=false) (λi o w=>?_) (λe=>?_) λH z=>?_
    ·obtain ⟨v,hp⟩:=w;have pb:=v.pm.tb vb hq hp;obtain ⟨p,ep,kp⟩:=iG g.ka (iF v.ha v.ha');have up:=xU g.ua v.ha ep;refine aF (bO hq (dP (λe=>aD ⟨⟨v.sk.1,v.sk.2,v.sk.3,v.sk.4⟩,pb.firstB g e⟩) λe=>?_));have hb:=gt1 v.hb e;refine aF (bO ep (aF (v8 (Rn.tk g.kb g.ub (za (vk ..) v.hb')) v.sk.kind kp (fy (xl hb) uv) λk hk h1 h2=>?_)));have pk:=pb.tbs hk λx hx y hy=>lW (up x hx) (h2 y hy);replace h1:=(yo hk ..)▸(gm ..)▸h1;dsimp -zeta only [nx];extract_lets -underBinder kk bc jp3 o3 i3;refine yB (JJ:=jp3 ()) (λj o=>Pl m.a m.b m.L o.toList.reverse i j/\1<j/\j<=nb/\∀y∈m.b.toList.take j,lk y p=true) (λj o w=>?_) (λe=>?_) λH z=>?_
     ·obtain ⟨u1,u2,u3,u4⟩:=w;have pa:=u1.ta v.ha ep u4;refine aF (bO ep (dP (λe=>aD ⟨⟨v.sk.1,v.sk.2,v.sk.3,v.sk.4⟩,pa.doneA e⟩) λe=>?_));have w:∀{st':SortSt},Sk m.xs m.pn st'->Hv m (x+1) (o.push p) (i-1) j st':=λsk=>⟨pa,uf e,za (vk ..) v.ha',u2,za u3 v.hb',yt (yx (yy (vk ..) u3) _) v.hx,sk⟩;exact bQ (λz=>aD (w ⟨v.sk.1,v.sk.2,v.sk.3,v.sk.4⟩)) λz=>aD (w ⟨v.sk.1,v.sk.2,v.sk.3,v.sk.4⟩)
     ·obtain rfl:k=nb-1:=kg hk (fh (jj e));exact ⟨pb,hb,vk ..,h1⟩
     ·exact dP (λe=>aD ⟨⟨v.sk.1,v.sk.2,v.sk.3,v.sk.4⟩,pk.firstB g e⟩) λe=>dP (λe=>aD ⟨⟨v.sk.1,v.sk.2,v.sk.3,v.sk.4⟩,pk.doneB e⟩) λe2=>H _ _ ⟨pk,xm (uf e2) (Ne.symm e),za hk (vk ..),h1⟩
    ·obtain rfl:k=na:=kg hk (fh (jj e));exact ⟨v,h1⟩
    ·exact dP (λe=>aD ⟨⟨v.sk.1,v.sk.2,v.sk.3,v.sk.4⟩,pk.doneA e⟩) λe=>H _ _ ⟨⟨pk,uf e,za hk v.ha',v.hb,v.hb',yt (yx (yx hk _) _) v.hx,v.sk⟩,h1⟩
   ·exact aF (i0 (aD ⟨v.pm,v.ha,v.ha',v.hb,v.hb',v.hx,v.sk.1,v.sk.2,v.sk.3,v.sk.4⟩))
 ·exact λz z v=>Ue (yt (za (ku ..) (kf ..)) v.hx) (xg _)
end
theorem Rn.of{xs:Array Keyed}{P ZZ S:List Keyed}(h:xs.toList=P++(ZZ++S))(hk:∀x∈ZZ,Kd x)(hu:Up2 ZZ):Rn xs P.length ZZ.length ZZ:=
 ⟨by rw [h,List.drop_left,zba],rfl,hk,hu⟩
theorem a4h{c n:Nat}{S l:List Keyed}{xs:Array Keyed}{P ZZ:List Keyed}(h:xs.toList=P++(ZZ++S))(hz:ZZ.length=l.length)(hp:P.length=c+n):
  ((l.zipIdx n).foldl (λa (q:Keyed×Nat)=>a.setIfInBounds (c+q.2) q.1) xs).toList=P++(l++S):=by
 induction l generalizing n xs P ZZ with
 | nil=>obtain rfl:=yr hz;exact h
 | cons x l ih=>
  cases ZZ with
  | nil=>cases hz
  | cons z ZZ=>
   have e:(xs.setIfInBounds (c+n) x).toList=P++[x]++(ZZ++S):=by
    exact gw (zan ..) (gw h (bw hp (gw (fe _ _ (zf _) ..) (gw (vz ..) (gw (zh ..) rfl)))))
   exact (ih e (Nat.succ.inj hz) (gw (zd ..) (gw hp rfl))).trans (zh ..)
theorem a2k{xs:Array Keyed}{P ZZ S:List Keyed}(h:xs.toList=P++(ZZ++S)){c d:Nat}(hc:c=P.length)(hd:d=c+ZZ.length):(xs.extract c d).toList=ZZ:=by subst hd hc;exact gw (jy ..) (gw (kl ..) (gw h (gw (List.drop_left ..) (gw (xe ..) (gw (zba ..) rfl)))))
section
variable{c:Cw}{st:SortSt}{P X YY S:List Keyed}{i pw pw':Nat}{Q:Bool->SortSt->Prop}
theorem aId(hk:kindOf st=oneType')(hf:failedOf st=none)(hx:(arrOf st).toList=P++(X++(YY++S)))(p1:(pendingOf st)[i]?=some (P.length,X.length,pw))(p2:(pendingOf st)[i+1]?=some (P.length+X.length,YY.length,pw'))(x0:X≠[])(y0:YY≠[])(ux:Up2 X)(uy:Up2 YY)(kx:∀x∈X,Kd x)(ky:∀x∈YY,Kd x)(h:∀st' xs,Sk xs (((pendingOf st).setIfInBounds i (P.length,X.length+YY.length,pw)).eraseIdxIfInBounds (i+1)) st'->xs.toList=P++(mrg X YY++S)->Q true st'):Ws c (mergeAt' i) Q st:=by
 refine aF (jC ?_);dsimp -zeta only [nx];refine gw p1 (gw p2 ?_);refine aF (aEj ?_);have rx:=Rn.of hx kx ux;have hy:(arrOf st).toList=(P++X)++(YY++S):=gw hx (gw (zh ..) rfl);have ry:=Rn.of hy ky uy;replace ry:=(zd ..)▸ry;have lx:=ja.mpr x0;have ly:=ja.mpr y0;obtain ⟨v,q_h⟩:=(ry.at ly);refine an3 q_h λhv kv ev=>?_;refine aF (bO hv (aF (wG rx hk kv lx λk hk' h1 h2=>?_)));have vy:∀y∈YY,lk y v=false:=λy hm=>by
  obtain ⟨j,e⟩:=jt.mp hm;exact vO uy (yj j) ev e
 have m1:=a4t (d:=YY) (X.drop k) λx hx y hy=>lW (h1 x hx) (vy y hy);replace m1:=(yb ..)▸m1;have sk0:∀pn:Array (Nat×Nat×Nat),Sk (arrOf st) pn (SortSt.mk' (kindOf st) (arrOf st) pn (gallopOf st) (failedOf st)):=λpn=>⟨hk,hf,rfl,rfl⟩;refine dP (m:=X.length-k) (λe=>aD (h _ _ (sk0 _) ?_)) λe=>?_
 ·have e:=fh e;exact gw m1 (gw (uw e ..) (gw (jM ..) (gw (xu e ..) (gw hx (gw (zh ..) rfl)))))
 have ek:k<X.length:=wc λq=>e (Nat.sub_eq_zero_of_le q);obtain ⟨z,q_h⟩:=(rx.at (iF lx (zf _)));refine an3 q_h λhz kz ez=>?_;have ei:P.length+k+(X.length-k)-1=P.length+(X.length-1):=gw (vm ..) (gw (ul hk' ..) (gw (Nat.add_sub_assoc lx ..) rfl));refine aF (bO (ei.symm▸hz) (aF (v8 ry hk kz (iF ly (zf _)) λm hm g1 g2=>?_)));have zx:z∈X.drop k:=ym (i:=X.length-1-k) (gw (zai ..) (gw (ul (jx ek) ..) (gw ez rfl)));have zl:∀x∈X,lk z x=false:=λx hm=>by
  obtain ⟨j,e⟩:=jt.mp hm;exact vO ux (jx (zc.mp e).1) e ez
 have m2:=wR (a:=X.drop k) (b:=YY.take m) (d:=YY.drop m) λx hx y hy=>lW (zl x (ug hx)) (g2 y hy);replace m2:=(yb ..)▸m2;refine dP (n:=0) (λe=>?_) λe=>?_
 ·subst e;exact nomatch (h2 z zx).symm.trans (g2 v (ym ev))
 have em:0<m:=uf e;extract_lets -underBinder x y jp;have hx':(arrOf st).toList=(P++X.take k)++(X.drop k++(YY++S)):=gw hx (gw (zh ..) (bw (zh (X.take k) ..) (gw (yb ..) rfl)));have hy':(arrOf st).toList=(P++X)++(YY.take m++(YY.drop m++S)):=gw hy (bw (zh (YY.take m) ..) (gw (yb ..) rfl));have lk':(P++X.take k).length=P.length+k:=gw (zd ..) (gw (xo ..) (gw (yo hk' ..) rfl));have ex:x.toList=X.drop k:=a2k hx' lk'.symm (gw (ue ..) (gw (vm ..) (gw (ul hk' ..) rfl)));have ey:y.toList=YY.take m:=a2k hy' (zd ..).symm (gw (xo ..) (gw (yo hm ..) rfl));have g:Mg x y:=by
  refine ⟨λu hu=>kx u (ug (ex▸hu)),λu hu=>ky u (wn (ey▸hu)),ex▸ux.drop,ey▸uy.take,λu hu t ht=>?_,λu hu t ht=>?_,?_,?_⟩
  ·replace ht:=ev▸(ve em ..)▸ey▸(xy ..)▸ht;exact Option.some.inj ht▸h2 u (ex▸hu)
  ·replace hu:=ez▸(zaq ..)▸(Ub (zaz ek) ..)▸(List.getLast?_drop ..)▸ex▸(zaq ..)▸(yu ..)▸(xy ..)▸hu;exact Option.some.inj hu▸g1 t (ey▸ht)
  ·exact bw (yu ..) (gw ex (gw (ue ..) (vx ek)))
  ·exact bw (yu ..) (gw ey (gw (xo ..) (gw (yo hm ..) em)))
 refine (λfin:∀r st',Dn ⟨x,y,arrOf st,((pendingOf st).setIfInBounds i (P.length,X.length+YY.length,pw)).eraseIdxIfInBounds (i+1)⟩ r st'->Ws c (jp r) Q st'=>
  bQ (λs=>aF (aHw (m:=⟨x,y,_,_⟩) g (sk0 _) fin)) λs=>aF (aHu (m:=⟨x,y,_,_⟩) g (sk0 _) fin)) λr st' w=>?_
 obtain ⟨sk,hr⟩:=w;refine aF (i0 (aF (jC (aD ?_))));have e:(failedOf st').isNone=true:=gw (sk.failed ..) rfl;refine (Uf (λb=>Q b _) e).mpr (h _ _ ⟨sk.kind,sk.failed,rfl,sk.pend⟩ ?_);have z':(arrOf st').toList=(P++X.take k)++((X.drop k++YY.take m)++(YY.drop m++S)):=gw (sk.arr ..) (gw hx' (gw (zh (X.drop k) ..) (bw (zh (YY.take m) ..) (gw (yb ..) rfl))));have hr:r.toList=mrg (X.drop k) (YY.take m):=bw ex (bw ey hr);exact (a4h (c:=P.length+k) z' (by exact gw hr (gw ((pW _ _).length_eq ..) rfl)) lk').trans (gw hr (gw m1 (gw m2 (gw (zh ..) (gw (zh ..) (gw (zh ..) rfl))))))
end
theorem qP{ys:Array Keyed}{A M T:List Keyed}{u v:Keyed}{i j:Nat}(h:ys.toList=A++(u::(M++v::T)))(hi:i=A.length)(hj:j=A.length+(M.length+1)):(ys.swapIfInBounds i j).toList=A++(v::(M++u::T))/\(ys.swapIfInBounds j i).toList=A++(v::(M++u::T)):=by
 have hs:ys.size=A.length+(M.length+(T.length+1)+1):=bw (yu ..) (gw h (gw (zd ..) (gw (wi ..) (gw (zd ..) (gw (wi ..) rfl)))));have b2:j<ys.size:=gw hs (gw hj (gd (Nat.succ_lt_succ (jb (jm _))) _));have b1:i<ys.size:=yt (gw hi (gw hj (zt ..))) b2;have e1:ys[i]=u:=by
  have:ys[i]?=some u:=by refine bw (xy ..) (gw h (gw hi (gw (zv (zf _) ..) (gw (vz ..) ?_))));rfl
  exact Option.some.inj ((gl b1).symm.trans this)
 have e2:ys[j]=v:=by
  have:ys[j]?=some v:=by refine bw (xy ..) (gw h (gw hj (gw (zv (zt ..) ..) (gw (xe ..) (gw (List.getElem?_cons_succ ..) (gw (zv (zf _) ..) (gw (vz ..) ?_)))))));rfl
  exact Option.some.inj ((gl b2).symm.trans this)
 have s1:∀(A B:List Keyed) (w:Keyed) (t:Keyed),(A++t::B).set A.length w=A++w::B:=λA B w t=>gw (fe _ _ (zf _) ..) (gw (vz ..) rfl);have s2:∀u v w:Keyed,(A++(u::(M++v::T))).set j w=A++(u::(M++w::T)):=λu v w=>by
  have:=s1 (A++u::M) T w v;replace this:=(zh ..)▸(zh ..)▸hj▸(wi ..)▸(zd ..)▸this;exact this
 exact gw (za0 ..) (gw (dif_pos b1 ..) (gw (dif_pos b2 ..) (gw (za0 ..) (gw (dif_pos b2 ..) (gw (dif_pos b1 ..) (gw (Array.toList_swap ..) (gw (Array.toList_swap ..) (gw e1 (gw e2 (gw h (gw hi ⟨by rw [s1,s2],by rw [s2,s1]⟩)))))))))))
theorem uJ(xs:Array Keyed)(i j d:Nat):mirror xs i j (d+1)=mirror (xs.swapIfInBounds i (j-1)) (i+1) (j-1) d:=by unfold mirror;refine gw (List.range_succ_eq_map ..) (gw (List.foldl_cons ..) (gw (List.foldl_map ..) ?_));have e:(λ(a:Array Keyed) (k:Nat)=>a.swapIfInBounds (i+Nat.succ k) (j-1-Nat.succ k))=λa k=>a.swapIfInBounds (i+1+k) (j-1-1-k):=funext λa=>funext λk=>bw (wz ..) (gw (Nat.sub_sub (j-1) 1 k ..) (gw (uz 1 k ..) rfl));exact gw e rfl
theorem vP(n:Nat)(U:List Keyed)(hn:U.length<=n){xs:Array Keyed}{P S:List Keyed}(h:xs.toList=P++(U++S)){j:Nat}(hj:j=P.length+U.length):(mirror xs P.length j (U.length / 2)).toList=P++(U.reverse++S):=by
 induction n generalizing U xs P S j with
 | zero=>obtain rfl:=yr (jk hn);exact h
 | succ n ih=>
  cases U with
  | nil=>exact h
  | cons u U=>
   cases U with
   | nil=>exact gw (List.length_singleton ..) (gw (Nat.div_eq_of_lt (yv 1) ..) h)
   | cons w W=>
    obtain ⟨M,v,e⟩:∃M v,w::W=M++[v]:=⟨_,_,(List.dropLast_concat_getLast (List.cons_ne_nil w W)).symm⟩;rw [e] at h hj hn ⊢;have hl:(u::(M++[v])).length=M.length+2:=by exact gw (wi ..) (gw (zd ..) rfl)
    rw [hl] at hj hn ⊢;refine gw (Nat.add_div_right _ zbs ..) (gw (uJ ..) ?_);have h':xs.toList=P++(u::(M++v::S)):=by exact gw h (gw (List.cons_append ..) (gw (zh ..) rfl))
    have s:=(qP h' rfl (show j-1=P.length+(M.length+1) by exact gw hj rfl)).1;have q:=ih M (gu (za3 hn)) (xs:=xs.swapIfInBounds P.length (j-1)) (P:=P++[v]) (S:=u::S) (by exact gw s (gw (zh ..) rfl)) (j:=j-1) (by refine gw hj (gw (zd ..) ?_);show P.length+(M.length+1)=P.length+1+M.length;exact gw (vm ..) (gw (uz 1 ..) rfl));replace q:=(zd ..)▸q;refine gw (List.reverse_cons ..) (gw (zae ..) (gw (zh ..) (gw (zh ..) ?_)));exact q.trans (zh ..)
theorem vQ{x:Keyed}(U A:List Keyed){xs:Array Keyed}{S:List Keyed}{src:Nat}(h:xs.toList=A++(U++x::S))(hs:src=A.length+U.length):(bubble xs src U.length).toList=A++(x::U++S):=by
 induction U generalizing A with
 | nil=>exact h
 | cons u U ih=>
  have q:=ih (A++[u]) (gw h (gw (zh ..) rfl)) (gw hs (gw (zd ..) (gw (wi ..) (gw (vm ..) (gw (uz U.length ..) rfl)))));have e:src-U.length=A.length+1:=gw hs (gw (wi ..) (bw (vm ..) (gw (ji ..) (gw (Nat.add_sub_cancel ..) rfl))));exact gw (wi ..) (gw (bubble_succ ..) (gw e ((qP (M:=[]) (T:=U++S) (u:=u) (v:=x) (gw q (gw (zh ..) rfl)) rfl rfl).2)))
structure Sl(l:List Keyed)(pn:Array (Nat×Nat×Nat))(st:SortSt):Prop where
 kind:kindOf st=oneType'
 failed:failedOf st=none
 arr:(arrOf st).toList=l
 pend:pendingOf st=pn
noncomputable def Df(l:List Keyed):Prop:=l.Pairwise λx y=>lk x y=true∨lk y x=true
section
variable{c:Cw}{α β:Type}{st:SortSt}{P ZZ:List Keyed}{pn:Array (Nat×Nat×Nat)}
theorem Sl.at(h:Sl (P++ZZ) pn st){i:Nat}{x:Keyed}(hx:ZZ[i]?=some x):(arrOf st)[P.length+i]?=some x:=by exact bw (xy ..) (gw (h.arr ..) (gw (zv (zt ..) ..) (gw (xe ..) (gw hx rfl))))
theorem mY{i j:Nat}{x y:Keyed}{Q:Option Bool->SortSt->Prop}(hs:Sl (P++ZZ) pn st)(kd:∀x∈ZZ,Kd x)(hx:ZZ[i]?=some x)(hy:ZZ[j]?=some y){i' j':Nat}(ei:i'=P.length+i)(ej:j'=P.length+j)(h:Q (some (lk x y)) st):Ws c (ltAt' i' j') Q st:=by subst ei ej;exact aF (jC (aF (bO (hs.at hx) (aF (bO (hs.at hy) (vJ hs.kind (kd x (ym hx)) (kd y (ym hy)) h))))))
theorem aGj{l:List Keyed}{n:Nat}{x:Keyed}(h0:0<n)(h:l[n-1]?=some x):l.take n=l.take (n-1)++[x]:=by have:=bM (l:=l.toArray) h0 (vf▸h);exact this
theorem v6{R:Keyed->Keyed->Prop}{n:Nat}{u v:Keyed}(tr:∀x,R x u->R u v->R x v)(h:(ZZ.take n).Pairwise R)(h1:0<n)(hu:ZZ[n-1]?=some u)(hv:ZZ[n]?=some v)(e:R u v):(ZZ.take (n+1)).Pairwise R:=by
 have t:=aGj h1 hu;refine gw (List.take_add_one ..) (gw hv ?_);refine uk.mpr ⟨h,vv ..,λx hx y hy=>?_⟩;refine gw (ze.mp hy ..) ?_;rw [t] at hx h;rcases yh.mp hx with hx | hx
 ·exact tr x ((uk.mp h).2.2 x hx u zm) e
 ·exact gw (ze.mp hx ..) e
theorem jB{i:Nat}(h:i<ZZ.length):∃u,ZZ[i]?=some u:=⟨_,zg h⟩
theorem wC{p n:Nat}(h:0<n):p+n-1=p+(n-1):=Nat.add_sub_assoc h p
theorem aBi{a N:Nat}(hN:N=ZZ.length){f:Nat->Option β×Nat->So (ForInStep (Option β×Nat))}{k:Option β×Nat->So α}{Q:α->SortSt->Prop}(hf:∀x n u v (R:ForInStep (Option β×Nat)->SortSt->Prop),0<n->ZZ[n-1]?=some u->ZZ[n]?=some v->(lk v u=true->R (.done (none,n)) st)->(lk v u=false->R (.yield (none,n+1)) st)->Ws c (f x (none,n)) R st)(h1:0<a)(ha:a<=ZZ.length)(hu:Up2 (ZZ.take a))(h:∀n,a<=n->n<=ZZ.length->Up2 (ZZ.take n)->(n=ZZ.length∨∃u v,ZZ[n-1]?=some u/\ZZ[n]?=some v/\lk v u=true)->Ws c (k (none,n)) Q st):Ws c (forIn [a:N] ((none,a):Option β×Nat) f >>= k) Q st:=by
 subst hN;refine fB (I:=λx g st'=>st'=st/\g=x/\Up2 (ZZ.take x)) (F:=λg st'=>st'=st/\Ws c (k (none,g)) Q st) (D:=λz z=>False) ⟨rfl,rfl,hu⟩ ?_ ?_ (λz z z e=>e.elim) ?_
 ·rintro _ st' hx hx' x ⟨rfl,rfl,g⟩;have x0:=zj h1 hx;obtain ⟨u,e1⟩:=jB (yt (vk x 1) hx');obtain ⟨v,e2⟩:=jB hx';exact hf x x u v _ x0 e1 e2 (λe=>⟨rfl,h x hx (yd hx') g (.inr ⟨u,v,e1,e2,e⟩)⟩) λe=>⟨rfl,rfl,v6 (λz=>lW) g x0 e1 e2 e⟩
 ·rintro g st' ⟨rfl,rfl,g⟩;rw [jw ha] at g ⊢;exact ⟨rfl,h _ ha (zf _) g (.inl rfl)⟩
 ·rintro st' g ⟨rfl,e⟩;exact e
theorem a4e(ZZ:List Keyed){R:Keyed->Keyed->Prop}:(ZZ.take 1).Pairwise R:=by
 cases ZZ with
 | nil=>exact .nil
 | cons x ZZ=>exact vv ..
theorem Df.at(h:Df ZZ){i j:Nat}{u v:Keyed}(hij:i<j)(hu:ZZ[i]?=some u)(hv:ZZ[j]?=some v):lk u v=true∨lk v u=true:=by obtain ⟨h1,rfl⟩:=zc.mp hu;obtain ⟨h2,rfl⟩:=zc.mp hv;exact gj.mp h i j h1 h2 hij
theorem a8s{N:Nat}(hN:N=ZZ.length){Q:Option Nat->SortSt->Prop}(hs:Sl (P++ZZ) pn st)(kd:∀x∈ZZ,Kd x)(df:Df ZZ)(hz:0<ZZ.length)(h:∀st' n ZZ',0<n->n<=ZZ.length->ZZ'.Perm ZZ->Up2 (ZZ'.take n)->Sl (P++ZZ') pn st'->Q (some n) st'):Ws c (countRun' P.length N) Q st:=by
 subst hN;refine aBi rfl (λx n u v R h1 e1 e2 r1 r2=>aF (mY hs kd e2 e1 rfl (wC h1) (bQ (λe=>aD (r1 e)) λe=>aD (r2 (ww.mpr e))))) uv hz (a4e ZZ) λn h1 h2 hu ho=>?_;refine dP (λe=>aD (h st n ZZ h1 h2 (.refl _) hu hs)) λe=>?_;refine ex2 (ho.resolve_left e) λu v q_h=>?_;refine an3 q_h λe1 e2 e3=>?_;refine bQ (p:=n>1) (λe=>?_) λe=>?_
 ·obtain ⟨z,hz0⟩:=jB hz;have n1:0<n-1:=vx e;have up:lk u z=false:=vO hu (i:=0) (j:=n-1) (yj _) (gw (ve h1 ..) (gw hz0 rfl)) (gw (ve (fy h1 uv) ..) (gw e1 rfl));have r:lk z u=true:=(df.at n1 hz0 e1).resolve_right (gw up vg);exact aF (mY hs kd hz0 e1 rfl (wC h1) (bQ (λw=>aD (h st n ZZ h1 h2 (.refl _) hu hs)) λe=>Ue r e))
 ·obtain rfl:n=1:=kg (ur e) h1;have l2:1<ZZ.length:=(zc.mp e2).1;refine aF (kK ?_);refine fB (I:=λx g st'=>st'=st/\g=(x,0)/\(ZZ.take x).Pairwise λx y=>lk y x=true) (F:=λg st'=>st'=st/\∃n,2<=n/\n<=ZZ.length/\g=(n,0)/\(ZZ.take n).Pairwise λx y=>lk y x=true) (D:=λw w=>False) ⟨rfl,rfl,v6 (n:=1) (λx a b=>pI (uF b) a) (a4e ZZ) uv e1 e2 e3⟩ ?_ ?_ (λw w w e=>e.elim) ?_
  ·rintro x st' hx hx' _ ⟨rfl,rfl,g⟩;have x0:0<x:=xl hx;obtain ⟨u,e1⟩:=jB (yt (vk x 1) hx');obtain ⟨v,e2⟩:=jB hx';exact aF (mY hs kd e2 e1 rfl (wC x0) (bQ (λe=>bQ (λe=>Ue e (xg 0)) λw=>aD ⟨rfl,rfl,v6 (λx a b=>pI (uF b) a) g x0 e1 e2 e⟩) λe=>aF (mY hs kd e1 e2 (wC x0) rfl (bQ (λe=>aD ⟨rfl,x,hx,yd hx',rfl,g⟩) λe'=>(Ue ((df.at (fy x0 uv) e1 e2).resolve_right e) e')))))
  ·rintro g st' ⟨rfl,rfl,g⟩;rw [jw l2] at g ⊢;exact ⟨rfl,_,l2,zf _,rfl,g⟩
  ·rintro st' _ ⟨rfl,n,n1,n2,rfl,g⟩;refine bQ (λe=>Ue e (xg 0)) λw=>aF (i0 ?_);have n0:0<n:=xl n1;have pm:((ZZ.take n).reverse++ZZ.drop n).Perm ZZ:=((List.reverse_perm _).append_right _).trans (by rw [yb]);have ln:(ZZ.take n).length=n:=gw (xo ..) (gw (yo n2 ..) rfl);have mr:=vP _ (ZZ.take n) (zf _) (xs:=arrOf st') (P:=P) (S:=ZZ.drop n) (gw (hs.arr ..) (gw (yb ..) rfl)) (j:=P.length+n) (gw ln rfl);rw [ln,←xe (n:=P.length) (m:=n)] at mr;have hs':Sl (P++((ZZ.take n).reverse++ZZ.drop n)) pn (setArr st' (mirror (arrOf st') P.length (P.length+n) ((P.length+n-P.length) / 2))):=⟨hs.kind,hs.failed,by rw [xe] at mr ⊢;exact mr,hs.pend⟩;have kd':∀x∈(ZZ.take n).reverse++ZZ.drop n,Kd x:=λx hx=>kd x (pm.mem_iff.mp hx);refine aBi (a:=n) (ZZ:=(ZZ.take n).reverse++ZZ.drop n) pm.length_eq.symm (λx m u v R h1 e1 e2 r1 r2=>aF (mY hs' kd' e2 e1 rfl (wC h1) (bQ (λe=>aD (r1 e)) λe=>aD (r2 (ww.mpr e))))) n0 (by rw [pm.length_eq];exact n2) ?_ λm h1 h2 hu w=>aD (h _ m _ (zj n0 h1) (by rw [←pm.length_eq];exact h2) pm hu hs');rw [List.take_left' (by rw [List.length_reverse,ln])];exact List.pairwise_reverse.mpr (g.imp λe=>uF e)
end
theorem aFa{a b:Nat}(h:a<b):a<=(a+b) / 2/\(a+b) / 2<b:=
 ⟨(Nat.le_div_iff_mul_le zbs).mpr (Nat.mul_two a▸yg (yd h) a),(Nat.div_lt_iff_lt_mul zbs).mpr (Nat.mul_two b▸zbm h b)⟩
section
variable{c:Cw}{st:SortSt}{P ZZ:List Keyed}{pn:Array (Nat×Nat×Nat)}
theorem aDx{T U D:List Keyed}{x:Keyed}{k:Nat}(hl:(T++U).length=k)(hu:Up2 (T++U))(h1:∀u∈T,lk x u=false)(h2:∀u∈U,lk x u=true):Up2 ((T++(x::U++D)).take (k+1)):=by
 have e:T++(x::U++D)=(T++x::U)++D:=(zh ..).symm;rw [e,List.take_left' (by rw [zd,wi,←hl,zd];rfl)];obtain ⟨a1,a2,a3⟩:=uk.mp hu;refine uk.mpr ⟨a1,List.pairwise_cons.mpr ⟨λu hm=>uF (h2 u hm),a2⟩,λu hu v hv=>?_⟩;rcases ye.mp hv with rfl | hv
 ·exact h1 u hu
 ·exact a3 u hu v hv
theorem aCz{n ok:Nat}{Q:Bool->SortSt->Prop}(hs:Sl (P++ZZ) pn st)(kd:∀x∈ZZ,Kd x)(hn:n<=ZZ.length)(h1:0<ok)(h2:ok<=n)(hu:Up2 (ZZ.take ok))(h:∀st' ZZ',ZZ'.Perm ZZ->Up2 (ZZ'.take n)->Sl (P++ZZ') pn st'->Q true st'):Ws c (binarySort' P.length n ok) Q st:=by
 refine fB (I:=λk g st'=>∃ZZ',ZZ'.Perm ZZ/\Up2 (ZZ'.take k)/\Sl (P++ZZ') pn st') (F:=λg st'=>∃ZZ',ZZ'.Perm ZZ/\Up2 (ZZ'.take n)/\Sl (P++ZZ') pn st') (D:=λz z=>False) ⟨ZZ,.refl _,by rwa [Nat.max_eq_left h1],hs⟩ ?_ ?_ (λz z z e=>e.elim) ?_
 ·rintro k st' hk hk' g ⟨ZZ',pm,hu,hs⟩;have lz:k<ZZ'.length:=gw (pm.length_eq ..) (zj hk' hn);obtain ⟨x,hx⟩:=jB lz;have kd':∀x∈ZZ',Kd x:=λx hx=>kd x (pm.mem_iff.mp hx);have at_k:∀{i:Nat},i<k->(ZZ'.take k)[i]?=ZZ'[i]?:=λhi=>ve hi;refine a3o _ aFa (λi=>(ZZ'[i]?).any λu=>!lk x u) (λi j hij hj e=>?_) (λy lo hi R r1 r2 r3=>bQ (p:=lo ≥ hi) (λe=>aD (r1 (yf.mpr e))) λe=>?_) (yj k) (zf k) (λi hi=>Ue hi (xi i)) (λi a b=>Ue b (yf.mpr a)) λr a1 a2 a3=>?_
  ·obtain ⟨u,eu⟩:=jB (ke (yt hij hj) lz);obtain ⟨v,ev⟩:=jB (ke hj lz);replace e:=ev▸e;refine gw eu ?_;have e:(!lk x v)=true:=e;show (!lk x u)=true;rw [vn] at e ⊢;exact lW (vO hu hij (gw (at_k (yt hij hj) ..) (gw eu rfl)) (gw (at_k hj ..) (gw ev rfl))) e
  ·have e':=wc e;have el:=zj (aFa e').2 r3;obtain ⟨u,eu⟩:=jB (ke el lz);have r2:=r2 e' el;replace r2:=eu▸r2;exact aF (mY hs kd' hx eu rfl rfl (bQ (λe=>aD (r2.2 (Uf not e))) λe=>aD (r2.1 (Uf not (ww.mpr e)))))
  ·have tk:(ZZ'.take k).take r=ZZ'.take r:=gw (gm ..) (gw (yo a1 ..) rfl);have t0:=yb r (ZZ'.take k);replace t0:=tk▸t0;have ex:ZZ'.drop k=x::ZZ'.drop (k+1):=by
    obtain ⟨b1,rfl⟩:=zc.mp hx;exact xf b1
   have e0:ZZ'=ZZ'.take r++((ZZ'.take k).drop r++x::ZZ'.drop (k+1)):=bw (zh ..) (gw t0 (bw ex (gw (yb ..) rfl)));have lk':(ZZ'.take k).length=k:=gw (xo ..) (gw (yo (yd lz) ..) rfl);have lu:((ZZ'.take k).drop r).length=k-r:=gw (ue ..) (gw lk' rfl);refine aF (i0 (aD ⟨ZZ'.take r++(x::(ZZ'.take k).drop r++ZZ'.drop (k+1)),?_,?_,hs.kind,hs.failed,?_,hs.pend⟩))
   ·exact ((List.perm_middle.symm).append_left _).trans (e0▸pm)
   ·refine aDx (t0.symm▸lk') (t0.symm▸hu) (λu hm=>?_) λu hm=>?_
    ·obtain ⟨i,hi,e⟩:=a6n hm;have:=a2 i hi;replace this:=e▸this;exact vn _▸this
    ·obtain ⟨i,hi,e⟩:=a5o hm;have ik:i<k:=lk'▸(zc.mp e).1;have:=a3 i hi ik;replace this:=e▸(at_k ik ..)▸this;exact Bool.not_eq_false' _▸this
   ·have b:=vQ ((ZZ'.take k).drop r) (P++ZZ'.take r) (xs:=arrOf st') (src:=P.length+k) (gw (hs.arr ..) (gw (zh ..) (bw e0 rfl))) (gw lu (gw (zd ..) (gw (xo ..) (gw (yo (za a1 (yd lz)) ..) (gw (vm ..) (gw (ul a1 ..) rfl))))));replace b:=(zh ..)▸(zbe P.length ..)▸lu▸b;exact b
 ·rintro g st' ⟨ZZ',pm,hu,hs⟩;replace hu:=(jw h2 ..)▸(Nat.max_eq_left h1 ..)▸hu;exact ⟨ZZ',pm,hu,hs⟩
 ·rintro st' g ⟨ZZ',pm,hu,hs⟩;exact aD (h st' ZZ' pm hu hs)
end
noncomputable def Ps:Nat->List (List Keyed)->List (Nat×Nat×Nat)->Prop
 | _,[],ps=>ps=[]
 | c,R::Rs,ps=>∃pw q,ps=(c,R.length,pw)::q/\Ps (c+R.length) Rs q
theorem Ps.len{Rs:List (List Keyed)}{c:Nat}{ps:List (Nat×Nat×Nat)}(h:Ps c Rs ps):ps.length=Rs.length:=by
 induction Rs generalizing c ps with
 | nil=>obtain rfl:ps=[]:=h;rfl
 | cons R Rs ih=>
  obtain ⟨_,_,rfl,h⟩:=h;exact Uf Nat.succ (ih h)
theorem Ps.snoc{R:List Keyed}{pw:Nat}{Rs:List (List Keyed)}{c:Nat}{ps:List (Nat×Nat×Nat)}(h:Ps c Rs ps):Ps c (Rs++[R]) (ps++[(c+Rs.flatten.length,R.length,pw)]):=by
 induction Rs generalizing c ps with
 | nil=>obtain rfl:ps=[]:=h;exact ⟨pw,[],rfl,rfl⟩
 | cons X Rs ih=>
  obtain ⟨p,q,rfl,h⟩:=h;replace h:=ih h;replace h:=(zd ..)▸(vm ..)▸h;exact ⟨p,_,rfl,h⟩
theorem Ps.mid{X YY ZZ:List Keyed}{Rs2:List (List Keyed)}(hl:ZZ.length=X.length+YY.length){Rs:List (List Keyed)}{c:Nat}{ps:List (Nat×Nat×Nat)}{G:Prop}(h:Ps c (Rs++X::YY::Rs2) ps)(k:∀pw pw',ps[Rs.length]?=some (c+Rs.flatten.length,X.length,pw)->ps[Rs.length+1]?=some (c+Rs.flatten.length+X.length,YY.length,pw')->Ps c (Rs++ZZ::Rs2) ((ps.set Rs.length (c+Rs.flatten.length,X.length+YY.length,pw)).eraseIdx (Rs.length+1))->G):G:=by
 induction Rs generalizing c ps with
 | nil=>
  obtain ⟨p,q,rfl,p',q',rfl,h⟩:=h;exact k p p' rfl rfl ⟨p,q',bw hl rfl,gw hl (bw (vm ..) h)⟩
 | cons R Rs ih=>
  obtain ⟨p,q,rfl,h⟩:=h;refine ih h λpw pw' h1 h2 h3=>?_;rw [vm c,←zd] at h1 h2 h3;exact k pw pw' h1 h2 ⟨p,_,rfl,h3⟩
theorem Ps.pow{f:Nat×Nat×Nat->Nat×Nat×Nat}(hf:∀a b c,∃d,f (a,b,c)=(a,b,d)){Rs:List (List Keyed)}{c i:Nat}{ps:List (Nat×Nat×Nat)}(h:Ps c Rs ps):Ps c Rs (ps.modify i f):=by
 induction Rs generalizing c i ps with
 | nil=>obtain rfl:ps=[]:=h;exact List.modify_nil ..
 | cons R Rs ih=>
  obtain ⟨p,q,rfl,h⟩:=h;cases i with
  | zero=>obtain ⟨d,e⟩:=hf c R.length p;exact ⟨d,q,gw (List.modify_zero_cons ..) (gw e rfl),h⟩
  | succ i=>exact ⟨p,_,List.modify_succ_cons ..,ih h⟩
structure Rw(L:List Keyed)(Rs:List (List Keyed))(T:List Keyed)(st:SortSt):Prop where
 sl:Sl (Rs.flatten++T) (pendingOf st) st
 pm:(Rs.flatten++T).Perm L
 up:∀R∈Rs,R≠[]/\Up2 R
 ps:Ps 0 Rs (pendingOf st).toList
section
variable{c:Cw}{α:Type}{st:SortSt}{L T:List Keyed}{Rs:List (List Keyed)}
theorem Rw.size(h:Rw L Rs T st):(pendingOf st).size=Rs.length:=bw (yu ..) h.ps.len
theorem aBw{α:Type}{l:List α}{i:Nat}(h:i+1<l.length):∃a x y b,l=a++x::y::b/\a.length=i:=
 ⟨l.take i,l[i],l[i+1],l.drop (i+2),bw (xf h ..) (bw (xf (xl h) ..) (gw (yb ..) rfl)),gw (xo ..) (gw (yo (yd (xl h)) ..) rfl)⟩
theorem a3n{i:Nat}{Q:Bool->SortSt->Prop}(kd:∀x∈L,Kd x)(r:Rw L Rs T st)(hi:i+1<Rs.length)(h:∀st' Rs',Rw L Rs' T st'->Rs'.length+1=Rs.length->Rs'.flatten.length=Rs.flatten.length->Q true st'):Ws c (mergeAt' i) Q st:=by
 refine ex4 (aBw hi) λRs1 X YY Rs2 q_h=>?_;obtain ⟨q_4,q_5⟩:=q_h;obtain rfl:=q_4;obtain rfl:=q_5;have hl:(mrg X YY).length=X.length+YY.length:=gw ((pW X YY).length_eq ..) (gw (zd ..) rfl);refine Ps.mid hl r.ps λpw pw' h1 h2 h3=>?_;rw [zp,xy] at h1 h2;replace h3:=(zp ..)▸h3;have e:(Rs1++X::YY::Rs2).flatten++T=Rs1.flatten++(X++(YY++(Rs2.flatten++T))):=by
  exact gw (gf ..) (gw (gv ..) (gw (gv ..) (gw (zh ..) (gw (zh ..) (gw (zh ..) rfl)))))
 have e':(Rs1++mrg X YY::Rs2).flatten++T=Rs1.flatten++(mrg X YY++(Rs2.flatten++T)):=by
  exact gw (gf ..) (gw (gv ..) (gw (zh ..) (gw (zh ..) rfl)))
 have ux:=r.up X (xx _ zm);have uy:=r.up YY (xx _ (zr _ zm));have kd':∀x∈X++(YY++(Rs2.flatten++T)),Kd x:=λx hx=>kd x (r.pm.mem_iff.mp (e▸xx _ hx));have pq:(Rs1.flatten++(mrg X YY++(Rs2.flatten++T))).Perm (Rs1.flatten++(X++(YY++(Rs2.flatten++T)))):=by
  exact bw (zh X ..) (((pW X YY).append_right _).append_left _)
 refine aId r.sl.kind r.sl.failed (r.sl.arr.trans e) h1 h2 ux.1 uy.1 ux.2 uy.2 (λx hx=>kd' x (jv _ hx)) (λx hx=>kd' x (xx _ (jv _ hx))) λst' xs sk ex=>h st' (Rs1++mrg X YY::Rs2) ⟨⟨sk.kind,sk.failed,gw (sk.arr ..) (gw ex (gw e' rfl)),rfl⟩,gw e' (pq.trans (e▸r.pm)),λR hR=>?_,?_⟩ ?_ ?_
 ·rcases yh.mp hR with hR | hR
  ·exact r.up R (jv _ hR)
  ·rcases ye.mp hR with rfl | hR
   ·refine ⟨λe0=>ux.1 (yr ?_),aCj ux.2 uy.2⟩;replace hl:=e0▸hl;exact (Nat.eq_zero_of_add_eq_zero hl.symm).1
   ·exact r.up R (xx _ (zr _ (zr _ hR)))
 ·exact gw (sk.pend ..) (gw (Array.toList_eraseIdxIfInBounds ..) (gw (zan ..) h3))
 ·exact gw (zd ..) (gw (zd ..) rfl)
 ·have:=pq.length_eq;replace this:=(zd (as:=(Rs1++X::YY::Rs2).flatten) ..)▸(zd ..)▸e'▸e▸this;exact Nat.add_right_cancel this
theorem pen{n:Nat}(h:1<n):n-2+1<n:=by obtain ⟨m,rfl⟩:=Nat.exists_eq_add_of_le' h;exact yv _
theorem aDi{JJ:Nat->So α}{p:Prop}{_:Decidable p}{x:So α}{i:Nat}{Q:α->SortSt->Prop}(C:Nat->SortSt->Prop)(h:∀st i,C i st->Ws c (JJ i) Q st)(hy:¬p->C i st)(hx:(∀st i,C i st->Ws c (JJ i) Q st)->p->Ws c x Q st):Ws c (if p then x else JJ i) Q st:=bQ (hx h) λe=>h _ _ (hy e)
theorem aCr{JJ:So α}{Q:α->SortSt->Prop}(C:SortSt->Prop){x:So α}(h:∀st,C st->Ws c JJ Q st)(hx:(∀st,C st->Ws c JJ Q st)->Ws c x Q st):Ws c x Q st:=hx h
theorem Rw.push{ZZ:List Keyed}{m:Nat}(r:Rw L Rs ZZ st)(h1:0<m)(h2:m<=ZZ.length)(hu:Up2 (ZZ.take m)){lo:Nat}(hl:lo=Rs.flatten.length):
  Rw L (Rs++[ZZ.take m]) (ZZ.drop m) (setPending st ((pendingOf st).push (lo,m,0))):=by
 have e:(Rs++[ZZ.take m]).flatten++ZZ.drop m=Rs.flatten++ZZ:=by
  exact gw (gf ..) (gw (zh ..) (gw (gx ..) (gw (yb ..) rfl)))
 have lm:(ZZ.take m).length=m:=gw (xo ..) (gw (yo h2 ..) rfl);refine ⟨⟨r.sl.kind,r.sl.failed,r.sl.arr.trans e.symm,rfl⟩,e▸r.pm,λR hR=>?_,?_⟩
 ·rcases yh.mp hR with hR | hR
  ·exact r.up R hR
  ·obtain rfl:=ze.mp hR;exact ⟨ja.mp (lm.symm▸h1),hu⟩
 ·have:=r.ps.snoc (R:=ZZ.take m) (pw:=0);replace this:=hl▸lm▸(zp ..)▸this;show Ps 0 _ ((pendingOf st).push (lo,m,0)).toList;rwa [jl]
theorem a3i{Rs:List (List Keyed)}(h:∀R∈Rs,R≠[]):Rs.length<=Rs.flatten.length:=by
 induction Rs with
 | nil=>exact zf _
 | cons R Rs ih=>
  obtain ⟨h,h'⟩:=ui.mp h;exact gw (gv ..) (gw (zd ..) (gw (uz ..) (yy (ih h') (ja.mpr h))))
theorem aAj(hl:Rs.length<=1)(h:∀R∈Rs,Up2 R):Up2 Rs.flatten:=by
 cases Rs with
 | nil=>exact .nil
 | cons R Rs=>
  obtain rfl:=yr (jk (za3 hl));exact gw (gx ..) (h R zm)
theorem Rw.mk'{ZZ:List Keyed}{pn:Array (Nat×Nat×Nat)}{st':SortSt}(r:Rw L Rs T st)(pm:ZZ.Perm T)(sl:Sl (Rs.flatten++ZZ) (pendingOf st) st'):Rw L Rs ZZ st':=
 ⟨⟨sl.kind,sl.failed,sl.arr,rfl⟩,(pm.append_left _).trans r.pm,r.up,gw (sl.pend ..) r.ps⟩
theorem aDn{Q:Unit->SortSt->Prop}(kd:∀x∈L,Kd x)(df:Df L)(hs:Sl L #[] st)(h:∀st' l,Sl l (pendingOf st') st'->l.Perm L->Up2 l->Q () st'):Ws c sortRuns' Q st:=by
 refine aF (jC ?_);have sz:(arrOf st).size=L.length:=bw (yu ..) (gw (hs.arr ..) rfl);dsimp -zeta only [nx];refine gw sz ?_;extract_lets -underBinder size minrun lo;refine fB (I:=λx g st=>∃Rs T,g=Rs.flatten.length/\Rw L Rs T st/\x<=Rs.flatten.length) (F:=λg st=>∃Rs,g=L.length/\Rw L Rs [] st) (D:=λz z=>False) ⟨[],L,rfl,⟨⟨hs.kind,hs.failed,hs.arr,rfl⟩,.refl _,(λz h=>by cases h),gw (hs.pend ..) rfl⟩,yj _⟩ ?_ ?_ (λz z z e=>e.elim) ?_
 ·rintro x st - hx _ ⟨Rs,T,rfl,r,hl⟩;have lT:Rs.flatten.length+T.length=L.length:=bw (zd ..) r.pm.length_eq;refine bQ (p:=Rs.flatten.length ≥ L.length) (λe=>aD ⟨Rs,?_,?_⟩) λe=>?_
  ·exact kg (lT▸zt ..) e
  ·obtain rfl:T=[]:=yr (jk (gk (lT.symm▸e:Rs.flatten.length+T.length<=Rs.flatten.length+0)));exact r
  have kT:∀x∈T,Kd x:=λx hx=>kd x (r.pm.mem_iff.mp (xx _ hx));have dT:Df T:=(uk.mp ((r.pm.pairwise_iff λh=>h.symm).mpr df)).2.1;have eN:L.length-Rs.flatten.length=T.length:=bw lT (gw (xe ..) rfl);have T0:0<T.length:=eN▸vx (wc e);refine aF (a8s (N:=L.length-Rs.flatten.length) eN r.sl kT dT T0 λst1 n ZZ' h1 h2 pm hu sl=>?_);dsimp -zeta only [nx];extract_lets -underBinder n' jp;refine aDi (JJ:=jp ()) (λm st'=>∃ZZ',0<m/\m<=T.length/\ZZ'.Perm T/\Up2 (ZZ'.take m)/\Rw L Rs ZZ' st') ?_ ?_ ?_
  ·rintro st m ⟨ZZ,h1,h2,pm,hu,r⟩;refine aF (jC ?_);dsimp -zeta only [nx];extract_lets -underBinder jp2;refine aCr (JJ:=jp2 ()) (λst=>∃Rs',Rw L Rs' ZZ st/\Rs'.flatten.length=Rs.flatten.length) ?_ λH=>?_
   ·rintro st ⟨Rs',r',e'⟩;have l2:m<=ZZ.length:=gw (pm.length_eq ..) h2;have el:(Rs'++[ZZ.take m]).flatten.length=Rs.flatten.length+m:=gw (gf ..) (gw (zd ..) (gw e' (gw (gx ..) (gw (xo ..) (gw (yo l2 ..) rfl)))));exact aF (i0 (aD ⟨_,_,el.symm,r'.push h1 l2 hu e'.symm,gw el (yy hl h1)⟩))
   ·generalize (pendingOf st).back?=o;cases o with
    | none=>exact H st ⟨Rs,r,rfl⟩
    | some q=>
     refine fB (I:=λz g st=>∃Rs',Rw L Rs' ZZ st/\Rs'.flatten.length=Rs.flatten.length) (F:=λg st=>∃Rs',Rw L Rs' ZZ st/\Rs'.flatten.length=Rs.flatten.length) (D:=λz z=>False) ⟨Rs,r,rfl⟩ ?_ (λz z h=>h) (λz z z e=>e.elim) ?_
     ·rintro y st - - _ ⟨Rs',r',e'⟩;refine aF (jC ?_);dsimp -zeta only [nx];extract_lets -underBinder p;generalize hg:(if p.size>1 then p[p.size-2]? else none)=o;cases o with
      | none=>exact aD ⟨Rs',r',e'⟩
      | some o=>
       have hp:1<p.size:=Decidable.byContradiction λhn=>by replace hg:=(Ub hn ..)▸hg;cases hg
       have hq:p.size=Rs'.length:=r'.size;exact bQ (λz=>aD ⟨Rs',r',e'⟩) λz=>aF (a3n kd r' (hq▸pen hp) λst' Rs'' r'' z l2=>bQ (λe=>by cases e) λz=>aD ⟨Rs'',r'',l2.trans e'⟩)
     ·rintro st _ ⟨Rs',r',e'⟩;refine aF (i0 (H _ ⟨Rs',⟨⟨r'.sl.kind,r'.sl.failed,r'.sl.arr,rfl⟩,r'.pm,r'.up,?_⟩,e'⟩));have:=r'.ps.pow (i:=(pendingOf st).size-1) (f:=λx=>(x.1,x.2.1,power' L.length (2*q.1+q.2.1) (2*q.1+q.2.1+q.2.1+m) L.length)) λa b c=>⟨_,rfl⟩;replace this:=(Array.toList_modify ..)▸this;exact this
  ·exact λz=>⟨ZZ',h1,h2,pm,hu,r.mk' (pn:=#[]) pm sl⟩
  ·intro H e;have le:n<=min (L.length-Rs.flatten.length) minrun:=Nat.le_min.mpr ⟨eN.symm▸h2,yd e⟩;have le2:min (L.length-Rs.flatten.length) minrun<=T.length:=za (fq ..) (zu eN);exact aF (kK (aF (aCz sl (λx hx=>kT x (pm.mem_iff.mp hx)) (n:=min (L.length-Rs.flatten.length) minrun) (gw (pm.length_eq ..) le2) h1 le hu λst2 ZZ2 pm2 hu2 sl2=>bQ (λe=>by cases e) λz=>H _ _ ⟨ZZ2,zj h1 le,le2,pm2.trans pm,hu2,r.mk' (pn:=#[]) (pm2.trans pm) sl2⟩)))
 ·rintro _ st ⟨Rs,T,rfl,r,hl⟩;have lT:Rs.flatten.length+T.length=L.length:=bw (zd ..) r.pm.length_eq;have hl:L.length<=Rs.flatten.length:=za (ku ..) hl;obtain rfl:T=[]:=yr (jk (gk (lT.symm▸hl:Rs.flatten.length+T.length<=Rs.flatten.length+0)));exact ⟨Rs,lT,r⟩
 ·rintro st _ ⟨Rs,rfl,r⟩;have l0:Rs.length<=L.length:=by
   have:=r.pm.length_eq;replace this:=(yw ..)▸this;exact bw (this ..) (a3i λR hR=>(r.up R hR).1)
  refine fB (I:=λy g st=>∃Rs,Rw L Rs [] st/\(Rs.length<=1∨Rs.length+y<=L.length)) (F:=λg st=>∃Rs,Rw L Rs [] st/\Rs.length<=1) (D:=λz z=>False) ⟨Rs,r,.inr l0⟩ ?_ ?_ (λz z z e=>e.elim) ?_
  ·rintro y st - hy _ ⟨Rs,r,hl⟩;refine aF (jC ?_);dsimp -zeta only [nx];extract_lets -underBinder p i before i';have hq:p.size=Rs.length:=r.size;refine bQ (λe=>aD ⟨Rs,r,hq▸e⟩) λe=>?_;have hi:i'<=i:=by
    show (if _ then i-1 else i)<=i;refine ic ite_ (λz=>?_) λz=>?_
    ·exact vk ..
    ·exact zf _
   exact aF (a3n kd r (yt (zw hi) (hq▸pen (wc e))) λst' Rs' r' l1 z=>bQ (λe=>by cases e) λz=>aD ⟨Rs',r',hl.elim (λq=>Ue (hq.symm▸q) e) λq=>.inr (za (zu ((vm ..).symm.trans (ji ..))) (l1.symm▸q))⟩)
  ·rintro _ st ⟨Rs,r,hl⟩;exact ⟨Rs,r,hl.elim id λq=>zn (ur λq0=>Ue (za (yg (ku ..) _) q) (zaz (Nat.lt_add_of_pos_left q0)))⟩
  ·rintro st _ ⟨Rs,r,hl⟩;exact aD (h st _ r.sl r.pm (gw (yw ..) (aAj hl λR hR=>(r.up R hR).2)))
end
open PySem.Calls PySem.SeqAt
section
variable{X:W}{A:Pf}{d:Nat}{s s' s'' s₀:Pb}{Y Y' Y'' Y₀:List Pd}{Z Z' Z'' Z0:H}
set_option tactic.hygienic true in
theorem a9x{h:Pe}{xs:List V}{l:List Pa}(r:VRs X h Y xs l):∀{ss:List (List Nat)},mH xs=some ss->∃ys,StrsAre l ys/\ss=ys.map aC/\∀y∈ys,y.length<=Mine.Internal.lim:=by
 induction r using VRs.rec (motive_1:=λw w w=>True) with
 | nil=>intro ss e;cases e;exact ⟨[],.nil,rfl,λw h=>Ue h yl⟩
 | cons r rs _ ih=>
  intro ss e;cases r <;> first | (cases e;done) | skip
  rename_i x t z;obtain ⟨b,hb,rfl⟩:=zk.mp e;obtain ⟨ys,q_h⟩:=(ih hb);refine an3 q_h λh1 q_2 h3=>?_;obtain rfl:=q_2;exact ⟨x::ys,.cons x t h1,rfl,λy hy=>(ye.mp hy).elim (λq=>q▸z) (h3 y)⟩
 | _=>trivial
theorem a9u{h:Pe}{l:List Pa}{ys:List Str}(r:StrsAre l ys):(∀y∈ys,y.length<=Mine.Internal.lim)->VRs X h Y ((ys.map aC).map V.str) l:=by
 induction r with
 | nil=>intro _;exact .nil
 | cons x t r ih=>intro h;exact .cons (.str x t (h x (zm ..))) (ih λy hy=>h y (zr _ hy))
theorem a6j{l:List Keyed}(h:l.length<2):Up2 l:=by
 cases l with
 | nil=>exact .nil
 | cons x l=>
  obtain rfl:=yr (za6.mp (za4 h));exact vv _ _
theorem aEl{l:List Pa}(h:¬l.length<2):∃a b r,l=a::b::r:=by
 cases l with
 | nil=>exact Ue (by decide) h
 | cons a l=>
  cases l with
  | nil=>exact Ue (yv 1) h
  | cons b r=>exact ⟨a,b,r,rfl⟩
theorem rJ(vs:List Pa):vs.zip vs=vs.map λv=>(v,v):=by
 induction vs with
 | nil=>rfl
 | cons v vs ih=>exact Uf ((v,v)::·) ih
theorem aGe{vs:List Pa}{ss:List Str}(hS:StrsAre vs ss)(hd:ss.Nodup):Df (vs.zip vs):=by
 refine gw (rJ ..) ?_;replace hd:=(hS.strs ..)▸hd;refine ki.mpr ((ki.mp hd).imp_of_mem λ{v w} hv hw e=>?_);obtain ⟨x,t,rfl⟩:=hS.all _ hv;obtain ⟨y,u,rfl⟩:=hS.all _ hw;show decide (aC x<aC y)=true∨decide (aC y<aC x)=true;cases h1:decide (aC x<aC y) with
 | true=>exact .inl rfl
 | false=>
  cases h2:decide (aC y<aC x) with
  | true=>exact .inr rfl
  | false=>exact Ue (gO (SK.total _ _ h1 h2)) e
theorem aDv{vs:List Pa}{ss:List Str}(hS:StrsAre vs ss){l:List Keyed}(hp:l.Perm (vs.zip vs))(hu:Up2 l):∃ys,StrsAre (l.map (·.2)) ys/\ys.Perm ss/\ys.map aC=jE dK (ss.map aC):=by
 have hm:∀p∈l,p.1=p.2/\p.1∈vs:=λp h=>mem_zip_self (hp.mem_iff.mp h);have p1:((l.map (·.2)).map strOf).Perm ss:=by
  have:=(hp.map (·.2)).map strOf;rwa [List.map_snd_zip (zf _),hS.strs] at this
 refine ⟨_,strsAre_map _ λv hv=>?_,p1,aFx ((p1.map aC).trans (a0y _).symm) ?_ (a8i _)⟩
 ·obtain ⟨p,h,rfl⟩:=vu.mp hv;obtain ⟨e,h⟩:=hm p h;exact hS.all _ (e▸h)
 ·refine gw (vt ..) (gw (vt ..) ?_);refine ki.mpr (hu.imp_of_mem λ{p q} hp hq e=>?_);obtain ⟨e1,h1⟩:=hm p hp;obtain ⟨e2,h2⟩:=hm q hq;obtain ⟨x,t,h1⟩:=hS.all _ h1;obtain ⟨y,u,h2⟩:=hS.all _ h2;show (!decide (aC (strOf q.2)<aC (strOf p.2)))=true;refine bw e1 (bw e2 (gw h1 (gw h2 ?_)));unfold lk ky at e;replace e:=h2▸h1▸e;exact Uf not e
theorem pB{D:Pd}{n:Nat}{vs:List Pa}{ss:List Str}{Q:Pa->Pb->Prop}{E:Pa->Pb->Prop}(ho:s.heap.get? D=some (seqObj "list" vs.toArray n))(hS:StrsAre vs ss)(hd:ss.Nodup)(hz:vs.length<=sizeLine)(h:∀(out:Array Pa) (ys:List Str),StrsAre out.toList ys->ys.Perm ss->ys.map aC=jE dK (ss.map aC)->Q .none { s with heap:=sortedHeap s.heap D vs out }):
  Un (Mo X) A (ya (.builtin "list.sort") [.ref D]) Q E s:=by
 have fin:∀st':SortSt,(arrOf st').toList.Perm (vs.zip vs)->Up2 (arrOf st').toList->Q .none { s with heap:=sortedHeap s.heap D vs ((arrOf st').map (·.2)) }:=λst' h1 h2=>by
  obtain ⟨ys,q_h⟩:=(aDv hS h1 h2);refine an3 q_h λa1 a2 a3=>?_;exact h _ ys (gw (Array.toList_map ..) a1) a2 a3
 by_cases h2:vs.length<2
 ·exact wpAny_call_entry slot_list_sort ⟨_,ho,rfl⟩ entry_list_sort (list_sort_treeK strKind_oneLt ho hS.keysOf (λv₁ v₂ rest e=>keyKind_strs (bw e hS)) (zj h2 (by decide)) λst' a1 a2=>⟨_,rfl,fin st' (bw (pairsOf_toList ..) (Array.perm_iff_toList_perm.mp a1)) (a6j (by rw [yu,a1.size_eq,pairsOf_size];exact h2))⟩) (args_list_sort _)
 ·refine ex2 (aEl h2) λv₁ v₂ q_h=>?_;obtain ⟨rest,q_3⟩:=q_h;obtain rfl:=q_3;generalize hv:v₁::v₂::rest=vs at *;refine wpAny_call_entry slot_list_sort ⟨_,ho,rfl⟩ entry_list_sort ?_ (args_list_sort _);refine gw (list_sort_plain ..) ?_;have ha:D<s.heap.objs.size:=yc ho;refine Ug (listItems_at ho rfl (Ug (listUpdate_at ho rfl ?_)));have ho1:=get?_update_seq ho (λz=>#[]);refine Ug (seqEpoch_at ho1 rfl (Ug (wpAny_newTuple (Ug (wpAny_newList (Uk ?_))))));have h2':¬vs.toArray.size<2:=gw (yp ..) h2;have ho6:∀(o1 o2:Obj),(((s.heap.update D (Obj.mapSeq λz=>#[])).push o1).push o2).get? D=some (seqObj "list" #[] _):=λo1 o2=>zo _ (zo _ ho1);dsimp only;rw [Ub h2',Ub h2',←hv,keyKind_strs (gw hv hS),hv];have hk:∀x∈vs.zip vs,Kd x:=λp hp=>by
   obtain ⟨x,t,e⟩:=hS.all _ (mem_zip_self hp).2;exact ⟨_,gw e rfl⟩
  refine Ug (Uh (Ug (Um (aDn (c:=⟨X.prog,X.w,A.in1,E,_⟩) (L:=vs.zip vs) hk (aGe hS hd) ⟨rfl,rfl,by show (vs.toArray.zip vs.toArray).toList=_;simp,rfl⟩ (Q:=λz st'=>(arrOf st').toList.Perm (vs.zip vs)/\failedOf st'=none/\Up2 (arrOf st').toList) λst' l hs hp hu=>⟨hs.arr▸hp,hs.failed,hs.arr▸hu⟩) ?_ λz z e=>e)));rintro ⟨⟨⟩,st'⟩ s' ⟨rfl,hp,hf,hu⟩;dsimp only;refine Ug (seqEpoch_at (ho6 _ _) rfl ?_);refine Ug (listUpdate_at (ho6 _ _) rfl ?_ (hsz2:=?_))
  ·refine gw hf ?_;simp only [bne_self_eq_false,Bool.false_eq_true,if_false];exact Uh ⟨_,rfl,fin st' hp hu⟩
  ·have:=hp.length_eq;replace this:=(zb ..)▸(rJ ..)▸(yu ..)▸this;exact gw (Array.size_map ..) (gw (this ..) (za hz (yi _)))
theorem v0(c:Cn X A d true s Y Z){B:Pf}(hh:B.handled=none){i:Nat}{a:Pd}(hm:Y[i]?=some a){xs:List V}(e:b9 Z (.ref i)=some xs){Q:List Pa->Pb->Prop}{E:Pa->Pb->Prop}(h:∀h' tk acc,(∀b o,s.heap.get? b=some o->h'.get? b=some o)->VRs X h' Y xs acc->xs.length<=lim->Q acc { s with heap:=h',toks:=tk }):Un (Mo X) B (collect (.ref a)) Q E s:=by
 rcases ho:Z[i]? with _ | ⟨ys⟩ | ⟨kvs⟩ | ⟨kvs⟩
 ·have:b9 Z (.ref i)=none:=by unfold b9;simp only [ho]
  replace e:=(this ..)▸e;cases e
 ·have:b9 Z (.ref i)=some ys:=by unfold b9;simp only [ho]
  cases this.symm.trans e;refine ex2 (c.list ho hm) λl n q_h=>?_;refine an3 q_h λel rr hz=>?_;have hk:∀b o,s.heap.get? b=some o->((s.heap.push (seqObj "list" #[] 0)).update s.heap.objs.size (Obj.mapSeq (·++l.toArray))).get? b=some o:=λb o e=>(xh _ _ (wq (yc e))).trans (zo _ e);exact collect_list ⟨_,el,rfl,_,rfl⟩ (h _ s.toks l hk (rr.mono (λb o e z=>hk b o e) λz z e=>e) (gw (rr.length ..) hz)) hz
 ·have:b9 Z (.ref i)=some (kvs.map λp=>V.str p.1):=by unfold b9;simp only [ho]
  cases this.symm.trans e;obtain ⟨l,q_h⟩:=(c.dict ho hm);refine an3 q_h λD rr hz=>?_;obtain ⟨ep,DA⟩:=D.dictAt;exact PySem.W.kdu_collect (PySem.W.kdl_dict (ep:=ep) (c.noSys hm)) hh DA hz λh' tk acc hk hacc=>h h' tk acc.toList hk (uW rr hacc h') (gw (zb ..) (gw (rr.length ..) hz))
 ·have:b9 Z (.ref i)=none:=by unfold b9;simp only [ho]
  replace e:=(this ..)▸e;cases e
set_option tactic.hygienic true in
theorem a0z(c:Cn X A d true s Y Z){v:V}{u:Pa}(r:VR X s.heap Y v u):Sm X (Wp X A (ya (.builtin "sorted") [u])) (biV X.ns .sorted v Z) (Rl X) s Y:=by
 cases r <;> first | exact Sm.stuck | skip
 rename_i i a hm;show Sm X _ ((bF ((b9 Z (.ref i)).bind tN)).bnd fY Z) _ _ _;cases he:b9 Z (.ref i) with
 | none=>exact Sm.stuck
 | some xs=>
  refine gw (wh ..) ?_;unfold tN;cases hs:mH xs with
  | none=>exact Sm.stuck
  | some ss=>
   refine gw (wh ..) ?_;by_cases hd:ss.Nodup
   ·refine gw (Ua hd ..) ?_;refine eU λhl=>c.madeL hl λQ E h=>?_;refine call_function_entry kind_sorted plain_sorted entry_sorted (args_sorted1 _) ?_;unfold Builtin.«sorted»;refine Ug (m:=checkCount "sorted" 1 1 _) (Uh ?_);refine Ug (gY (v0 c (B:=A.in1) (c.rm.handled rfl) hm he λh' tk acc hk rk hz hsz=>?_));obtain ⟨ys,q_h⟩:=(a9x rk hs);refine an3 q_h λh1 q_2 h3=>?_;obtain rfl:=q_2;have hzl:acc.length<=sizeLine:=bw (rk.length ..) hz;refine Ug (wpAny_newList ?_ hzl);have hoL:(h'.push (seqObj "list" acc.toArray 0)).get? h'.objs.size=some (seqObj "list" acc.toArray 0):=yn _ rfl;refine Ug (Uk (pB (s:={ s with heap:=h'.push (seqObj "list" acc.toArray 0),toks:=tk }) hoL h1 ((ki.mp hd).imp λh e=>h (Uf aC e)) hzl λout ss' a1 a2 a3=>?_));refine Uh ⟨_,rfl,?_⟩;obtain ⟨e,he⟩:=sortedHeap_at (vs:=acc) (out:=out) hoL;refine h _ _ tk e out.toList hsz (λb o eb=>?_) (by simpa [seqObj] using he) ?_
    ·have:=yc (hk b o eb);exact (sortedHeap_old (yq this) (gw (wk ..) (xk this))).trans (zo _ (hk b o eb))
    ·exact bw a3 (a9u a1 λy hy=>h3 y (a2.mem_iff.mp hy))
   ·exact gw (Ub hd ..) Sm.stuck
end
section
variable{X:W}{A:Pf}{d:Nat}{s:Pb}{Y:List Pd}{Z:H}
theorem xM{h:Pe}:∀{xs:List V}{l:List Pa}{is:List Int},jK xs=some is->VRs X h Y xs l->IntsAre l is:=by
 intro xs
 induction xs with
 | nil=>intro l is e r;cases r;cases e;exact .nil
 | cons x xs ih=>
  intro l is e r;cases r with
  | cons r rs=>
   cases r <;> first | (cases e;done) | skip
   obtain ⟨is',h',rfl⟩:=zk.mp e;exact .cons _ _ (ih h' rs)
theorem a8n{i j:Int}{t t':Tok}{Q:Pa->Pb->Prop}{E:Pa->Pb->Prop}(h:Q (.bool (decide (i<j))) s):Un (Mo X) A (richCompare .Lt (.int i t) (.int j t')) Q E s:=
 CmpOf.ints_lt (P:=λk v=>∃t,v=.int (if k=0 then i else j) t) (λk=>if k=0 then i else j) (λz z h=>h) 0 1 _ _ s Q E ⟨t,rfl⟩ ⟨t',rfl⟩ h
theorem lZ:(toString "min"++toString ".loop":String)="min.loop":=by decide
set_option tactic.hygienic true in
theorem a4n{kw:List (Str×Pa)}{R:Result->Pb->Prop}{a JJ S:Pd}{vs:List Pa}(hh:A.handled=none)(hSJ:S≠JJ)(hSa:S≠a)(haJ:a≠JJ):
  ∀(rest:List Pa) (is:List Int) (j:Nat) (s:Pb) (m:Int) (t:Tok) (c:Nat),IntsAre rest is->(∀k,vs[j+k]?=rest[k]?)->s.heap.IsListIter JJ a j->s.heap.IsList a vs.toArray ->
   s.heap.get? S=some { cls:=.type "list",dict:=none,data:=.seq #[.int m t,.int m t] c,slots:=#[] } ->
   (∀t' h' tk,(∀b o,b≠JJ->b≠S->s.heap.get? b=some o->h'.get? b=some o)->R (.ok (.ret (.int (is.foldl min m) t'))) { s with heap:=h',toks:=tk }) ->
   codeAny (Mo X) A (.builtin "min.loop" ⟨[.ref JJ,.none,.ref S],kw⟩) R s:=by
 intro rest
 induction rest with
 | nil=>
  intro is j s m t c hi hd hJ hL hS hR;cases hi;refine codeAny_builtin PySem.F.entry_min_loop ?_;refine gw (Around.under_plainId PySem.F.plain_min_loop _ ..) ?_;show Un _ A.in1 (seqItems? (.ref S) >>= _) _ _ s;refine Ug (wpAny_seqItems hS rfl ?_);show Un _ A.in1 (tryCatch (pyNext (.ref JJ)) _ >>= _) _ _ s;refine Ug (wpAny_tryCatch (wpAny_pyNext_list_end hh hJ hL (by refine gw (vf ..) ?_;exact hd 0) λh' he=>?_));have hS':=he S _ hSJ hS;show Un _ A.in1 (updateSeq S (λy=>#[]) >>= _) _ _ _;exact Ug (wpAny_updateSeq hS' rfl (Ug (wpAny_letGo (Uh (hR t _ _ λb o hbJ hbS e=>(xh _ _ (Ne.symm hbS)).trans (he b o hbJ e))))))
 | cons v rest ih=>
  intro is j s m t c hi hd hJ hL hS hR;cases hi with
  | cons i t' hi=>
   rename_i is;refine codeAny_builtin PySem.F.entry_min_loop ?_;refine gw (Around.under_plainId PySem.F.plain_min_loop _ ..) ?_;show Un _ A.in1 (seqItems? (.ref S) >>= _) _ _ s;refine Ug (wpAny_seqItems hS rfl ?_);show Un _ A.in1 (tryCatch (pyNext (.ref JJ)) _ >>= _) _ _ s;refine Ug (wpAny_tryCatch (wpAny_pyNext_list_item hJ hL (x:=.int i t') (by refine gw (vf ..) ?_;exact hd 0) λh' hit hs=>?_));have keep:∀b o,b≠JJ->s.heap.get? b=some o->h'.get? b=some o:=λb o hb e=>hs.extBut b o hb e;have hS':=keep S _ hSJ hS;have hL':h'.IsList a vs.toArray:=hL.extBut hs.extBut haJ;have hd':∀k,vs[j+1+k]?=rest[k]?:=λk=>gw (vm ..) (gw (uz 1 k ..) (hd (k+1)));show Un _ A.in1 (tryCatch (holding [.int i t',.int i t'] (richCompare .Lt (.int i t') (.int m t) >>= _)) _ >>= _) _ _ _;refine Ug (wpAny_tryCatch (Uk (Ug (a8n (Ug (Uk (Ui (Ug (wpAny_letGo (Uh ?_))))))))));by_cases hb:i<m
   ·refine gw (Uc hb ..) ?_;show Un _ A.in1 (updateSeq S (λy=>#[.int i t',.int i t']) >>= _) _ _ _;refine Ug (wpAny_updateSeq hS' rfl (Ug (wpAny_letGo ?_)));refine gw (lZ ..) ?_;have keep2:∀b o,b≠S->h'.get? b=some o->(h'.update S (Obj.mapSeq λy=>#[.int i t',.int i t'])).get? b=some o:=λb o hb e=>(xh _ _ (Ne.symm hb)).trans e;refine Uh ⟨plainId_quiet PySem.F.plain_min_loop _,ih is (j+1) _ i t' _ hi hd' (hit.at λo e=>keep2 _ o (Ne.symm hSJ) e) (hL'.at λo e=>keep2 _ o (Ne.symm hSa) e) (vo _ hS' rfl) λt'' h'' tk k=>?_⟩;have e:min m i=i:=gy (kn hb);replace hR:=(show (i::is).foldl min m=is.foldl min i from Uf (λz=>is.foldl min z) e)▸hR;exact hR t'' h'' tk λb o hbJ hbS eb=>k b o hbJ hbS (keep2 b o hbS (keep b o hbJ eb))
   ·refine gw (Ud hb ..) ?_;show Un _ A.in1 (letGo _ _ >>= _) _ _ _;refine Ug (wpAny_letGo ?_);refine gw (lZ ..) ?_;refine Uh ⟨plainId_quiet PySem.F.plain_min_loop _,ih is (j+1) _ m t c hi hd' hit hL' hS' λt'' h'' tk k=>?_⟩;have e:min m i=m:=fw (kj.mp hb);replace hR:=(show (i::is).foldl min m=is.foldl min m from Uf (λz=>is.foldl min z) e)▸hR;exact hR t'' h'' tk λb o hbJ hbS eb=>k b o hbJ hbS (keep b o hbJ eb)
theorem a1f(a v:Pa):argsOk "min" ⟨[a],[("default",v)]⟩:=by unfold argsOk;kernel_rfl
set_option tactic.hygienic true in
theorem tO{dv:Option Pa}{a:Pd}{vs:List Pa}{is:List Int}{Q:Pa->Pb->Prop}{E:Pa->Pb->Prop}(hh:A.handled=none)(hL:s.heap.IsList a vs.toArray)(hi:IntsAre vs is)(hne:is=[]->dv≠none)(hQ:∀v h' tk,(match is with | []=>dv=some v | i::r=>∃t,v=.int (r.foldl min i) t)->(∀b o,s.heap.get? b=some o->h'.get? b=some o)->Q v { s with heap:=h',toks:=tk }):
  Un (Mo X) A (ya (.builtin "min") [.ref a] (dv.toList.map λd=>("default",d))) Q E s:=by
 refine kmk_tree PySem.F.kind_min PySem.F.plain_min PySem.F.entry_min (by cases dv;exact PySem.F.args_min1 _;exact a1f _ _) ?_;show Un _ A.in1 (Builtin.Builtins.bindParams "min" ["key","default"] 0 ⟨[],dv.toList.map λd=>("default",d)⟩ >>= _) _ _ s;refine Ug (wpAny_of_eq (show Builtin.Builtins.bindParams "min" ["key","default"] 0 ⟨[],dv.toList.map λd=>("default",d)⟩=pure [none,dv] by cases dv <;> rfl) ?_);refine Ug (Uh ?_);refine Ug (wpAny_pyIter_list hL (Ug (wpAny_newObj_type ?_)));refine gw (lZ ..) ?_;have haJ:a≠s.heap.objs.size:=by obtain ⟨_,e,_⟩:=hL;exact yq (yc e)
 generalize hh1:s.heap.push { cls:=.type "list_iterator",data:=.fields #[.ref a,.int 0 0] }=h1;have hz:h1.objs.size=s.heap.objs.size+1:=bw hh1 (gw (wk ..) rfl);have hSJ:h1.objs.size≠s.heap.objs.size:=gw hz (uo _);have hSa:h1.objs.size≠a:=by obtain ⟨_,e,_⟩:=hL;exact gw hz (wq (xk (yc e)))
 have k1:∀b o,s.heap.get? b=some o->h1.get? b=some o:=λb o e=>hh1▸zo _ e;have gJ:h1.IsListIter s.heap.objs.size a 0:=hh1▸⟨_,yn _ rfl,rfl,rfl⟩;have old:∀{b o},s.heap.get? b=some o->b≠s.heap.objs.size/\b≠h1.objs.size:=λe=>⟨yq (yc e),gw hz (yq (xk (yc e)))⟩;refine Uh ⟨plainId_quiet PySem.F.plain_min_loop _,?_⟩;generalize hh2:h1.push { cls:=.type "list",dict:=none,data:=.seq #[],slots:=#[] }=h2;have k2:∀b o,h1.get? b=some o->h2.get? b=some o:=λb o e=>hh2▸zo _ e;have gS:h2.get? h1.objs.size=some { cls:=.type "list",dict:=none,data:=.seq #[],slots:=#[] }:=hh2▸yn _ rfl;have JJ2:h2.IsListIter s.heap.objs.size a 0:=gJ.at λo e=>k2 _ o e;have L2:h2.IsList a vs.toArray:=hL.at λo e=>k2 _ o (k1 _ o e);refine codeAny_builtin PySem.F.entry_min_loop ?_;refine gw (Around.under_plainId PySem.F.plain_min_loop _ ..) ?_;show Un _ A.in1 (seqItems? (.ref h1.objs.size) >>= _) _ _ _;refine Ug (wpAny_seqItems gS rfl ?_);show Un _ A.in1 (tryCatch (pyNext (.ref s.heap.objs.size)) _ >>= _) _ _ _;cases hi with
 | nil=>
  obtain ⟨d,rfl⟩:∃d,dv=some d:=by cases dv with | none=>exact Ue rfl (hne rfl) | some d=>exact ⟨d,rfl⟩
  refine Ug (wpAny_tryCatch (wpAny_pyNext_list_end hh JJ2 L2 rfl λh' he=>?_));show Un _ A.in1 (rule _ >>= _) _ _ _;exact Ug (wpAny_rule (Uh (hQ d _ _ rfl λb o e=>he b o (old e).1 (k2 _ _ (k1 _ _ e)))))
 | cons i t hi=>
  rename_i vs is;refine Ug (wpAny_tryCatch (wpAny_pyNext_list_item JJ2 L2 (x:=.int i t) rfl λh' hit hs=>?_));have keep:∀b o,b≠s.heap.objs.size->h2.get? b=some o->h'.get? b=some o:=λb o hb e=>hs.extBut b o hb e;have S3:=keep _ _ hSJ gS;show Un _ A.in1 (updateSeq h1.objs.size (λz=>#[.int i t,.int i t]) >>= _) _ _ _;refine Ug (wpAny_updateSeq S3 rfl ?_);refine gw (lZ ..) ?_;have keep2:∀b o,b≠h1.objs.size->h'.get? b=some o->(h'.update h1.objs.size (Obj.mapSeq λz=>#[.int i t,.int i t])).get? b=some o:=λb o hb e=>(xh _ _ (Ne.symm hb)).trans e;refine Uh ⟨plainId_quiet PySem.F.plain_min_loop _,a4n (vs:=.int i t::vs) hh hSJ hSa haJ vs is 1 _ i t _ hi (λk=>gw (uz ..) rfl) (hit.at λo e=>keep2 _ o (Ne.symm hSJ) e) (L2.at λo e=>keep2 _ o (Ne.symm hSa) (keep _ o haJ e)) (vo _ S3 rfl) λt' h'' tk k=>?_⟩;exact hQ _ h'' tk ⟨t',rfl⟩ λb o e=>k b o (old e).1 (old e).2 (keep2 b o (old e).2 (keep b o (old e).1 (k2 _ _ (k1 _ _ e))))
theorem aEt(c:Cn X A d true s Y Z){v:V}{u:Pa}(r:VR X s.heap Y v u):Sm X (Wp X A (ya (.builtin "min") [u])) (biV X.ns (.min ()) v Z) (Rl X) s Y:=by
 refine mP r λi a e0 hm=>?_;subst e0;refine gE c hm λxs l n ho e rr hz=>?_;refine ic ite_ (λz=>?_) λhx=>?_
 ·exact Sm.stuck
 ·refine cM λw he=>?_;obtain ⟨is,h2,rfl⟩:=zk.mp he;have hi:=xM h2 rr;refine Sm.ok λQ E hQ=>gY (tO (dv:=.none) (c.rm.handled rfl) ⟨_,e,rfl,_,rfl⟩ hi (λq=>?_) λv h' tk hv k hz'=>?_)
  ·subst q;cases hi;exact Ue (yr rr.length) hx
  ·cases is with
   | nil=>cases hv
   | cons i r=>
    obtain ⟨t,rfl⟩:=hv;exact hQ _ _ _ (Step.grow c k hz' rfl rfl) (.int _ _)
theorem aGk(c:Cn X A d true s Y Z){k:Mm}{v w:V}{u z:Pa}(r:VR X s.heap Y v u)(r':VR X s.heap Y w z):Sm X (Wp X A (wO k u z)) (mmV k v w Z) (Rl X) s Y:=by
 cases k with
 | ml _=>
  refine mP r λi a e0 hm=>?_;subst e0;refine gE c hm λxs l n ho e rr hz=>cM λw he=>?_;obtain ⟨is,h2,rfl⟩:=zk.mp he;refine Sm.ok λQ E hQ=>gY (tO (dv:=some z) (c.rm.handled rfl) ⟨_,e,rfl,_,rfl⟩ (xM h2 rr) (λp q=>by cases q) λv h' tk hv k hz'=>?_);have S:Step X s Y { s with heap:=h',toks:=tk } Y Z:=Step.grow c k hz' rfl rfl;cases is with
  | nil=>cases hv;exact hQ _ _ _ S (S.vr c.hr r')
  | cons i r=>obtain ⟨t,rfl⟩:=hv;exact hQ _ _ _ S (.int _ _)
 | mn=>
  refine jW r r' λx t y t' e1 e2=>?_;subst e1 e2;refine Sm.ok λQ E hQ=>gY (min_two_ints (c.rm.handled rfl) λh' tk k hz'=>?_);have S:Step X s Y { s with heap:=h',toks:=tk } Y Z:=Step.grow c k hz' rfl rfl;by_cases h:y<x
  ·exact gw (Ua h ..) (hQ _ _ _ S (gw (gy (kn h) ..) (.int _ _)))
  ·exact gw (Ub h ..) (hQ _ _ _ S (gw (fw (kj.mp h) ..) (.int _ _)))
 | mx=>
  refine jW r r' λi t j t' e1 e2=>?_;subst e1 e2;refine Sm.ok λQ E hQ=>gY (max_two_ints (c.rm.handled rfl) λh' tk k hz'=>?_);have S:Step X s Y { s with heap:=h',toks:=tk } Y Z:=Step.grow c k hz' rfl rfl;by_cases h:j>i
  ·exact gw (Ua h ..) (hQ _ _ _ S (gw (Int.max_eq_right (kn h) ..) (.int _ _)))
  ·exact gw (Ub h ..) (hQ _ _ _ S (gw (Int.max_eq_left (kj.mp h) ..) (.int _ _)))
end
theorem a3p:∀n:Nat,n<1000->aC (Str.ofString (toString (n:Int)))=mZ n:=by decide +kernel
section
open Builtin.Str StrLaws
theorem a7o(x y:Str)(hi f:Nat)(k:Nat)(l:List Nat):(forIn l (#[k],f) (occBody x y hi 1)).run.fst=#[k]:=by
 induction l with
 | nil=>rfl
 | cons a l ih=>
  refine gw (zab ..) ?_;unfold occBody;exact gw (Ub (λh=>Ue h.1.1.1 (xg 1)) ..) ih
noncomputable def aBl(l:List Nat):Int:=match l with | i::_=>(i:Int) | []=>-1
theorem a8g(x:Str)(c:Nat)(m k:Nat)(e:k+m=x.length+1):aBl (forIn (List.range' k m) (#[],0) (occBody x ⟨#[c]⟩ x.length 1)).run.fst.toList=l8 c ((aC x).drop k) k:=by
 induction m generalizing k with
 | zero=>
  rw [uw (by rw [bC];(first | lia | omega))];rfl
 | succ m ih=>
  refine gw (List.range'_succ ..) (gw (zab ..) ?_);have hs:=subAt_one x c k;by_cases h:x.cps.toList[k]?=some c
  ·have h1:=hs.mpr h;have hd:(aC x).drop k=c::(aC x).drop (k+1):=by
    obtain ⟨hk,e⟩:=zc.mp h;exact (xf hk).trans (gw e rfl)
   unfold occBody;refine gw (Ua ⟨⟨⟨by simp,yj _⟩,h1.1⟩,h1.2⟩ ..) (gw hd ?_);show aBl (forIn (List.range' (k+1) m) (#[k],_) (occBody x ⟨#[c]⟩ x.length 1)).run.fst.toList=_;refine gw (a7o ..) ?_;show (k:Int)=if c=c then (k:Int) else _;exact gw (Ua rfl ..) rfl
  ·unfold occBody;refine gw (Ub (λq=>h (hs.mp ⟨q.1.2,q.2⟩))) ?_;refine (ih (k+1) (by (first | lia | omega))).trans ?_;by_cases hk:k<(aC x).length
   ·refine gw (xf hk ..) ?_;show _=if (aC x)[k]=c then (k:Int) else l8 c ((aC x).drop (k+1)) (k+1);exact gw (Ub (show ¬(aC x)[k]=c from λq=>h (zc.mpr ⟨hk,q⟩))) rfl
   ·exact gw (uw (by (first | lia | omega)) ..) (gw (uw (by (first | lia | omega)) ..) rfl)
theorem a5k(x:Str)(c:Nat):(match occurrences x ⟨#[c]⟩ 0 x.length 1 with | i::_=>(i:Int) | []=>-1)=l8 c (aC x) 0:=by have:=a8g x c (x.length+1) 0 (by (first | lia | omega));exact gw (occ_eq ..) this
end
section
variable{X:W}{A:Pf}{d:Nat}{s s' s'' s₀:Pb}{Y Y' Y'' Y₀:List Pd}{Z Z' Z'' Z0:H}
set_option tactic.hygienic true in
theorem aDa(c:Cn X A d true s Y Z){v:V}{u:Pa}(r:VR X s.heap Y v u):Sm X (Wp X A (ya (.type "str") [u])) (biV X.ns .str v Z) (Rl X) s Y:=by
 cases r <;> first | exact Sm.stuck | skip
 rename_i i t;show Sm X _ ((if 0<=i/\i<1000 then M.ret (V.str (mZ i.toNat)) else stuck:M V) Z) _ _ _;refine ic ite_ (λhi=>?_) λz=>?_
 ·obtain ⟨n,rfl⟩:=vi hi.1;have hn:n<1000:=by (first | lia | omega)
  have e:=a3p n hn;have hl:lim=16777216:=rfl;have hd:(mZ n).length<=3:=by unfold mZ;split <;> (try split) <;> simp
  refine c.ok0 (v:=.str (mZ n)) (u:=.str (Str.ofString (toString (n:Int))) s.toks) (bw e (.str _ _ (by refine bw (bC ..) (gw e ?_);(first | lia | omega)))) λQ E h=>P.str_of_int ?_ (h _);show (n:Int).natAbs.log2<1920;refine gw (Int.natAbs_natCast ..) ?_;have:=Nat.log2_le_self n
  (first | lia | omega)
 ·exact Sm.stuck
end
noncomputable def MeL(m:Me)(id:String):Prop:=match m with | .append=>id="list.append" | .insert=>id="list.insert" | .index=>id="list.index" | _=>False
noncomputable def MeD(m:Me)(id:String):Prop:=match m with | .get=>id="dict.get" | .update=>id="dict.update" | .setdefault=>id="dict.setdefault" | _=>False
theorem v5(y x:List Nat):pre y x=true↔∃z,x=y++z:=by
 induction y generalizing x with
 | nil=>exact ⟨λw=>⟨x,rfl⟩,λw=>rfl⟩
 | cons a y ih=>
  cases x with
  | nil=>exact ⟨λh=>(by cases h),λh=>h.elim λw h=>(by cases h)⟩
  | cons b x=>
   refine (zz.trans (and_congr beq_iff_eq (ih x))).trans ⟨?_,?_⟩
   ·rintro ⟨rfl,z,rfl⟩;exact ⟨z,rfl⟩
   ·rintro ⟨z,h⟩;exact ⟨(List.cons.inj h).1.symm,z,(List.cons.inj h).2⟩
theorem sH{l:List (Str×Pa)}(hn:(l.map (·.1)).Nodup)(k:Str)(v:Pa):((stored l k v).map (·.1)).Nodup:=by
 unfold stored;refine ic ite_ (λz=>?_) λh=>?_
 ·refine gw (vt ..) ?_;have:l.map ((λp:Str×Pa=>p.1) ∘ λkv=>if kv.1=k then (kv.1,v) else kv)=l.map (·.1):=xz λp z=>by
   show (if p.1=k then (p.1,v) else p).1=p.1;split <;> rfl
  exact gw (this ..) hn
 ·rw [xc,wv];refine ⟨hn,vv _ _,λa ha b hb e=>h (wu.mpr ?_)⟩;obtain ⟨p,hp,q⟩:=vu.mp ha;exact ⟨p,hp,Uc (q.trans (e.trans (ze.mp hb)))⟩
section
variable{X:W}{A:Pf}{d:Nat}{s s' s'' s₀:Pb}{Y Y' Y'' Y₀:List Pd}{Z Z' Z'' Z0:H}{env:zq}{cx cx':Cx}{J J' J0:Env}{C:Calls}{G:GT}
theorem ERs.puts{h:Pe}{qs:List (List Nat×V)}{m:List (Str×Pa)}{kvs:List (List Nat×V)}{l:List (Str×Pa)}(a:ERs X h Y qs m)(r:ERs X h Y kvs l)(hn:(l.map (·.1)).Nodup):ERs X h Y (aZ kvs qs) (merged l m):=by
 obtain ⟨e,hl,hv⟩:=a
 induction qs generalizing m kvs l with
 | nil=>obtain rfl:=List.map_eq_nil_iff.mp e.symm;exact r
 | cons q qs ih=>
  cases m with
  | nil=>cases e
  | cons p m=>
   obtain ⟨k,v⟩:=q;obtain ⟨e1,e2⟩:=List.cons.inj e;obtain rfl:k=aC p.1:=e1;cases hv with
   | cons r1 r2=>
    show ERs X h Y (aZ (bP _ (aC p.1) v) qs) (merged (stored l p.1 p.2) m);exact ih (r.put hn p.1 (hl _ (zm ..)) r1) (sH hn p.1 p.2) e2 (λy hp=>hl y (zr _ hp)) r2
theorem n7{T id:String}{name:Str}{es:List Pg}{ts:List E}{p:Pos}{u:Pa}{k:List V->M V}(pa:PlainAttrs T)(slot:Slot T name id)(hty:typeOf (.builtin id)=pure (.type "method_descriptor"))(c:Cn X A d true s Y Z)(F:FR X env cx J s.heap Y)(hT:s.TypeIs u T)(hd:∀a,u=.ref a->∃ob,s.heap.get? a=some ob/\ob.dict=none)(ht:Ts G ts cx es)(ha:∀(s:Pb) (Y:List Pd) (Z:H),Cn X A d true s Y Z->FR X env cx J s.heap Y->Sm X (Wp X A (spliced (backTo p (Ul es env)))) (fK X.ns C J ts Z) (Rls X) s Y)(h:∀vs us s1 Y1 Z1,Cn X A d true s1 Y1 Z1->Step X s Y s1 Y1 Z1->VRs X s1.heap Y1 vs us->Sm X (Wp X A (ya (.builtin id) ([u]++us))) (k vs Z1) (Rl X) s1 Y1):
  Sm X (λQ E s=>MethodOnS X.prog X.w A E name u p (backTo p (Ul es env)) Q s) ((fK X.ns C J ts).bnd k Z) (Rl X) s Y:=
 (Sm.go c F (ha s Y Z c F) λvs Z1 us s1 Y1 c1 z S1 r=>h vs us s1 Y1 Z1 c1 S1 r).imp λQ E hq=>⟨T,id,pa,slot,hty,hT,hd,fW ht rfl hq⟩
theorem a0u(c:Cn X A d true s Y Z){x y:Str}{t u:Tok}:Sm X (Wp X A (ya (.builtin "str.startswith") [.str x t,.str y u])) (.ok (.bool (pre (aC y) (aC x))) Z) (Rl X) s Y:=by
 have e:(decide (0+y.length<=x.length)&&Builtin.Str.subAt x y 0)=pre (aC y) (aC x):=by
  rw [StrLaws.subAt_eq,uh,v5,gz,decide_eq_true_eq,beq_iff_eq,List.drop_zero,zp];have hx:x.cps.toList=aC x:=rfl;have hy:y.cps.toList=aC y:=rfl;rw [hx,hy,←bC,←bC];constructor
  ·rintro ⟨_,h⟩;exact ⟨(aC x).drop (aC y).length,by conv=>lhs;rw [←yb (aC y).length (aC x),h]⟩
  ·rintro ⟨z,h⟩;exact gw h (gw (zd ..) ⟨zt _ _,zba⟩)
 refine c.ok0 (.bool _) λQ E h=>?_;exact call_gives PySem.F.slot_str_startswith (typeIs_str _ _ _) PySem.F.entry_str_startswith (PySem.F.args_str_startswith_2 _ _) (gives_str_startswith x y t u) (gw e (h _))
theorem a8x(c:Cn X A d true s Y Z){x y:Str}{t u:Tok}{k:Nat}(hy:aC y=[k]):Sm X (Wp X A (ya (.builtin "str.find") [.str x t,.str y u])) (.ok (.int (l8 k (aC x) 0)) Z) (Rl X) s Y:=by
 obtain rfl:y=⟨#[k]⟩:=by
  obtain ⟨⟨l⟩⟩:=y;exact Uf (λl=>Str.mk (za1 l)) hy
 exact c.ok0 (.int _ s.toks) λQ E h=>call_gives PySem.F.slot_str_find (typeIs_str _ _ _) PySem.F.entry_str_find (PySem.F.args_str_find_2 _ _) (gives_str_find x ⟨#[k]⟩ t u) (Eq.mpr (Uf (λz=>(Made.int z).post Q s) (a5k x k)) (h _))
theorem aEp{x:Str}{t:Tok}(hz:x.length<=lim){m:Me}{ts:List E}{es:List Pg}{p:Pos}(c:Cn X A d true s Y Z)(F:FR X env cx J s.heap Y)(ht:Ts G ts cx es)(ha:∀(s:Pb) (Y:List Pd) (Z:H),Cn X A d true s Y Z->FR X env cx J s.heap Y->Sm X (Wp X A (spliced (backTo p (Ul es env)))) (fK X.ns C J ts Z) (Rls X) s Y):
  Sm X (λQ E s=>MethodOnS X.prog X.w A E (i4 m) (.str x t) p (backTo p (Ul es env)) Q s) ((meK m (.str (aC x))).bnd (λz=>(fK X.ns C J ts).bnd λvs=>meV (.str (aC x)) m vs) Z) (Rl X) s Y:=by
 cases m <;> first | exact Sm.stuck | skip
 ·refine n7 PySem.F.plainAttrs_str PySem.F.slot_str_find PySem.F.type_str_find c F (typeIs_str _ _ _) (λb hb=>by cases hb) ht ha λvs us s1 Y1 Z1 c1 S1 r1=>?_;refine lM r1 λv u e r=>?_;subst e;refine mF r λy u e hy=>?_;subst e;rcases e:aC y with _ | ⟨k,_ | ⟨_,_⟩⟩
  ·exact Sm.stuck
  ·exact a8x c1 e
  ·exact Sm.stuck
 ·refine n7 PySem.F.plainAttrs_str PySem.F.slot_str_startswith PySem.F.type_str_startswith c F (typeIs_str _ _ _) (λb hb=>by cases hb) ht ha λvs us s1 Y1 Z1 c1 S1 r1=>?_;refine lM r1 λv u e r=>?_;subst e;refine mF r λy u e hy=>?_;subst e;exact a0u c1
set_option tactic.hygienic true in
theorem a5l{h:Pe}{a:V}{u:Pa}(ha:VR X h Y a u)(A:Pf)(s:Pb){xs:List V}:∀{l:List Pa}{i j:Nat},gH a xs i=some j->VRs X h Y xs l ->
  ∃m,j=i+m/\(∃y,l[m]?=some y/\ceq y u=true)/\(∀k y,k<m->l[k]?=some y->ceq y u=false)/\∀y∈l,EqAt A s y u (ceq y u):=by
 induction xs with
 | nil=>intro l i j e;cases e
 | cons x xs ih=>
  intro l i j e r;cases r with
  | cons r rs=>
   have e:(match feq x a with | some b=>if b=true then (dL a xs).map λw=>i else gH a xs (i+1) | .none=>.none)=some j:=e;cases hf:feq x a with
   | none=>replace e:=hf▸e;cases e
   | some b=>
    replace e:=hf▸e;have e:(if b=true then (dL a xs).map λw=>i else gH a xs (i+1))=some j:=e;obtain ⟨h1,h2,-⟩:=rV hf r ha A s;by_cases hb:b=true
    ·replace e:=(Ua hb ..)▸e;obtain ⟨q,hq,rfl⟩:=zk.mp e;exact ⟨0,rfl,⟨_,rfl,h1.symm.trans hb⟩,λk y hk=>Ue hk (xi _),λy hy=>(ye.mp hy).elim (λq=>q▸h2) λhy=>(u5 ha hq rs).1 y hy A s⟩
    ·replace e:=(Ub hb ..)▸e;obtain ⟨m,rfl,hc,h3,h4⟩:=ih e rs;exact ⟨m+1,ji i 1 m,hc,λk z hk hz=>by
      cases k with
      | zero=>cases hz;exact h1.symm.trans (ww.mpr hb)
      | succ k=>exact h3 k z (za4 hk) hz,λy hy=>(ye.mp hy).elim (λq=>q▸h2) (h4 y)⟩
theorem a6l(l:List Pa)(k:Nat)(y:Pa):(l.toArray.extract 0 (min k l.toArray.size)).push y++l.toArray.extract (min k l.toArray.size)=(bS l k y).toArray:=by
 unfold bS;refine gw (yp ..) ?_;apply Array.ext';by_cases h:k<=l.length
 ·refine gw (yo h ..) ?_;simp [xu]
 ·refine gw (vq (by (first | lia | omega)) ..) (gw (xu (by (first | lia | omega)) ..) (gw (List.drop_of_length_le (by (first | lia | omega)) ..) ?_));simp
theorem uG{h:Pe}{a:Pd}{l:List Pa}{n:Nat}(e:IsL h a l.toArray n)(f:Array Pa->Array Pa){l':List Pa}(hf:f l.toArray=l'.toArray):
  ∃n',IsL (h.update a (Obj.mapSeq f)) a l'.toArray n':=⟨_,hf▸e.update f⟩
theorem aDz(c:Cn X A d true s Y Z){i:Nat}{a:Pd}{xs:List V}(ho:Z[i]?=some (.list xs))(hm:Y[i]?=some a){m:Me}{id:String}(hid:MeL m id){vs:List V}{us:List Pa}(r:VRs X s.heap Y vs us):Sm X (Wp X A (ya (.builtin id) ([.ref a]++us))) (meL i xs m vs Z) (Rl X) s Y:=by
 refine ex2 (c.list ho hm) λl n q_h=>?_;refine an3 q_h λe rr hz=>?_;have hl:lim=16777216:=rfl;cases m <;> first | exact hid.elim | skip
 ·
  cases hid;refine lM r λv w e0 r1=>?_;subst e0;refine yJ c hm ho e (rr.append (.cons r1 .nil)) (λz z=>.none) λhz' Q E h=>call_meets PySem.F.slot_list_append ⟨_,e,rfl⟩ PySem.F.entry_list_append (PySem.F.args_list_append_2 _ _) (list_append a l.toArray n w (gw (yp ..) hz)) ⟨e,?_⟩;obtain ⟨n',e'⟩:=uG e (λx=>x.push w) (l':=l++[w]) (by simp);exact h _ _ _ e' (Heap.SameBut.update ..)
 ·
  cases hid;refine tD r λk v u w e0 r1 r2=>?_;subst e0;refine aEr r1 λk t e0=>?_;subst e0;show Sm X _ ((if 0<=k/\k<9223372036854775808 then sE i (bS xs k.toNat v) else stuck:M V) Z) _ _ _;refine ic ite_ (λhk=>?_) λz=>?_
  ·have rI:VRs X s.heap Y (bS xs k.toNat v) (bS l k.toNat w):=(rr.take _).append (.cons r2 (rr.drop _));refine yJ c hm ho e rI (λz z=>.none) λhz' Q E h=>call_meets PySem.F.slot_list_insert ⟨_,e,rfl⟩ PySem.F.entry_list_insert (PySem.F.args_list_insert_3 _ _ _) (AutoSeq1.list_insert_list_int_val_1 a l.toArray n k t w ?_ (gw (yp ..) hz)) ⟨e,?_⟩
   ·have:Builtin.List.listFitsIndex k=true:=by
     show (decide (-(2 ^ 63:Int)<=k)&&decide (k<2 ^ 63))=true;exact gw (Uc (by (first | lia | omega)) ..) (gw (Uc (by (first | lia | omega)) ..) rfl)
    refine gw (this ..) ?_;decide
   ·obtain ⟨n',e'⟩:=uG e (λxs=>have k:=if k<0 then (k+(xs.size:Int)).toNat else min k.toNat xs.size;(xs.extract 0 k).push w++xs.extract k) (l':=bS l k.toNat w) (by
     have q:=a6l l k.toNat w;show (l.toArray.extract 0 (if k<0 then _ else _)).push w++l.toArray.extract (if k<0 then _ else _)=_;exact gw (Ub (kj.mpr hk.1) ..) q)
    exact h _ _ _ e' (Heap.SameBut.update ..)
  ·exact Sm.stuck
 ·
  cases hid;refine lM r λv w e0 r1=>?_;subst e0;refine cM λq hq=>?_;obtain ⟨j,hf,rfl⟩:=zk.mp hq;obtain ⟨m,rfl,⟨y,hy,h1⟩,h2,h3⟩:=a5l r1 A.in1 s hf rr;obtain ⟨hj,rfl⟩:=zc.mp hy;exact gw (zp ..) (c.ok0 (.int m s.toks) λQ E h=>call_meets PySem.F.slot_list_index ⟨_,e,rfl⟩ PySem.F.entry_list_index (PySem.F.args_list_index_2 _ _) (list_indexAt a l.toArray n none #[] w (λy=>ceq y w) m hj (by (first | lia | omega)) h1 λk hm' hlt=>h2 k _ hlt (zg hm')) ⟨e,λy hy=>h3 y (List.mem_toArray.mp hy),h _⟩)
theorem aDl(c:Cn X A d true s Y Z){i:Nat}{a:Pd}{kvs:List (List Nat×V)}(ho:Z[i]?=some (.dict kvs))(hm:Y[i]?=some a){m:Me}{id:String}(hid:MeD m id){vs:List V}{us:List Pa}(r:VRs X s.heap Y vs us):Sm X (Wp X A (ya (.builtin id) ([.ref a]++us))) (meD i kvs m vs Z) (Rl X) s Y:=by
 obtain ⟨l,q_h⟩:=(c.dict ho hm);refine an3 q_h λD rr hz=>?_;have hl:lim=16777216:=rfl;cases m <;> first | exact hid.elim | skip
 ·
  cases hid;have hg:∀{v w x},VR X s.heap Y v w->VR X s.heap Y ((aW kvs (aC x)).getD v) ((valueAt l x).getD w):=λ{v w x} r2=>by
   rcases rr.get x with ⟨h1,h2⟩ | ⟨v,u,h1,h2,h3⟩
   ·exact gw h1 (gw h2 r2)
   ·exact gw h1 (gw h2 h3)
  have two:∀{vs us},VRs X s.heap Y vs us->Sm X (Wp X A (ya (.builtin "dict.get") ([.ref a]++us))) (a6d vs (λa v=>asS a λx=>.ret ((aW kvs x).getD v)) Z) (Rl X) s Y:=λr=>by
   refine tD r λv w u z e r1 r2=>?_;subst e;refine mF r1 λx t e hx=>?_;subst e;exact c.ok0 (hg r2) λQ E h=>call_meetsIn PySem.F.slot_dict_get D.typeIs PySem.F.entry_dict_get (PySem.F.args_dict_get_3 _ _ _) (meets_dict_get_default _ a (strKind_is X.prog X.w x t) (c.noSys hm) z) ⟨_,D.mapOf,h _⟩
  rcases r with _ | ⟨r,_ | ⟨r2,rs⟩⟩
  ·exact Sm.stuck
  ·refine mF r λx t e hx=>?_;subst e;exact c.ok0 (hg .none) λQ E h=>call_meetsIn PySem.F.slot_dict_get D.typeIs PySem.F.entry_dict_get (PySem.F.args_dict_get_2 _ _) (meets_dict_get _ a (strKind_is X.prog X.w x t) (c.noSys hm)) ⟨_,D.mapOf,h _⟩
  ·exact two (.cons r (.cons r2 rs))
 ·
  cases hid;refine lM r λv u e0 r1=>?_;subst e0;refine mP r1 λj b e0 hj=>?_;subst e0;show Sm X _ ((if j=i then stuck else onD j λqs=>if kvs.length+qs.length<=lim then fN i (aZ kvs qs) else stuck:M V) Z) _ _ _;refine ic ite_ (λy=>?_) λhne=>?_
  ·exact Sm.stuck
  ·refine sV c hj λqs m Do ro y=>?_;refine ic ite_ (λhlen=>?_) λy=>?_
   ·unfold fN;refine ic ite_ (λhz'=>?_) λy=>?_
    ·have hab:a≠b:=λq=>hne (getElem?_nodup c.hr.nodup (q▸hj) hm);exact Sm.ok (a:=V.none) λQ E hQ=>call_meetsIn PySem.F.slot_dict_update D.typeIs PySem.F.entry_dict_update (PySem.F.args_dict_update_2 _ _) (meets_dict_update _ a b hab (c.noSys hj)) ⟨l,m,D,Do,bw (rr.length ..) (bw (ro.length ..) hlen),λh' hd' y hs=>hQ _ _ _ (lU (t:=s.toks) c hm ho D (ro.puts rr (iW D)) hz' hd' hs) .none⟩
    ·exact Sm.stuck
   ·exact Sm.stuck
 ·
  cases hid;refine tD r λx v u w e0 r1 r2=>?_;subst e0;refine mF r1 λx t e0 hx=>?_;subst e0;show Sm X _ ((match aW kvs (aC x) with | some u=>M.ret u | none=>(fN i (bP kvs (aC x) v)).bnd λy=>.ret v:M V) Z) _ _ _;rcases rr.get x with ⟨h1,h2⟩ | ⟨v,u,h1,h2,h3⟩
  ·refine gw h1 ?_;show Sm X _ ((fN i (bP kvs (aC x) v)).bnd (λy=>.ret v) Z) _ _ _;unfold fN;refine ic ite_ (λhz'=>?_) λy=>?_
   ·refine Sm.ok (a:=v) (Z:=Z.set i (.dict (bP kvs (aC x) v))) λQ E hQ=>?_;refine call_meetsIn PySem.F.slot_dict_setdefault D.typeIs PySem.F.entry_dict_setdefault (PySem.F.args_dict_setdefault_3 _ _ _) (kt_meets_setdefault _ a (strKind_is X.prog X.w x t) (c.noSys hm) w) ⟨l,D,hz,(λu' hu=>by replace hu:=h2▸hu;cases hu),λy h' hd' hs=>?_⟩;have S:=lU (t:=s.toks+1) c hm ho D (rr.put (iW D) x hx r2) hz' hd' hs;exact hQ _ _ _ S (S.vr c.hr r2)
   ·exact Sm.stuck
  ·exact gw h1 (c.ok0 h3 λQ E h=>call_meetsIn PySem.F.slot_dict_setdefault D.typeIs PySem.F.entry_dict_setdefault (PySem.F.args_dict_setdefault_3 _ _ _) (kt_meets_setdefault _ a (strKind_is X.prog X.w x t) (c.noSys hm) w) ⟨l,D,hz,(λu' hu=>by replace hu:=h2▸hu;cases hu;exact h _),λq=>by replace q:=h2▸q;cases q⟩)
theorem aHd(m:Me)(x:V)(u:Pa)(ts:List E)(es:List Pg)(p:Pos)(c:Cn X A d true s Y Z)(F:FR X env cx J s.heap Y)(r:VR X s.heap Y x u)(ht:Ts G ts cx es)(ha:∀(s:Pb) (Y:List Pd) (Z:H),Cn X A d true s Y Z->FR X env cx J s.heap Y->Sm X (Wp X A (spliced (backTo p (Ul es env)))) (fK X.ns C J ts Z) (Rls X) s Y):
  Sm X (λQ E s=>MethodOnS X.prog X.w A E (i4 m) u p (backTo p (Ul es env)) Q s) ((meK m x).bnd (λz=>(fK X.ns C J ts).bnd λvs=>meV x m vs) Z) (Rl X) s Y:=by
 cases r with
 | str x t hz=>exact aEp hz c F ht ha
 | @ref i a hi=>
  rcases ho:Z[i]? with _ | ⟨xs⟩ | ⟨kvs⟩ | ⟨kvs⟩
  ·exact gw (eJ (by unfold meK;simp only [ho]) ..) Sm.stuck
  ·refine ex2 (c.list ho hi) λl n q_h=>?_;refine an3 q_h λe z z=>?_;by_cases hk:wM m=1
   ·refine gw (gA (a:=V.none) (Z':=Z) (by unfold meK;simp only [ho,hk,if_true]) ..) ?_;have go:∀{id:String} (slot:Slot "list" (i4 m) id) (hty:typeOf (.builtin id)=pure (.type "method_descriptor")) (hid:MeL m id),
      Sm X (λQ E s=>MethodOnS X.prog X.w A E (i4 m) (.ref a) p (backTo p (Ul es env)) Q s) ((fK X.ns C J ts).bnd (λvs=>meV (.ref i) m vs) Z) (Rl X) s Y:=λslot hty hid=>by
     refine n7 PySem.F.plainAttrs_list slot hty c F ⟨_,e,rfl⟩ (λb hb=>by cases hb;exact ⟨_,e,rfl⟩) ht ha λvs us s1 Y1 Z1 c1 S1 r1=>?_;show Sm X _ (match Z1[i]? with | some (.list xs)=>meL i xs m vs Z1 | some (.dict kvs)=>meD i kvs m vs Z1 | _=>.stuck) _ _ _;rcases ho1:Z1[i]? with _ | ⟨ys⟩ | ⟨kvs⟩ | ⟨kvs⟩
     ·exact Sm.stuck
     ·exact aDz c1 ho1 (S1.get _ _ hi) hid r1
     ·cases m <;> first | exact hid.elim | exact Sm.stuck
     ·exact Sm.stuck
    cases m <;> first | (cases hk;done) | skip
    ·exact go PySem.F.slot_list_append PySem.F.type_list_append rfl
    ·exact go PySem.F.slot_list_insert PySem.F.type_list_insert rfl
    ·exact go PySem.F.slot_list_index PySem.F.type_list_index rfl
   ·exact gw (eJ (by unfold meK;simp only [ho,hk,if_false]) ..) Sm.stuck
  ·obtain ⟨l,q_h⟩:=(c.dict ho hi);refine an3 q_h λD z z=>?_;by_cases hk:wM m=2
   ·refine gw (gA (a:=V.none) (Z':=Z) (by unfold meK;simp only [ho,hk,if_true]) ..) ?_;have go:∀{id:String} (slot:Slot "dict" (i4 m) id) (hty:typeOf (.builtin id)=pure (.type "method_descriptor")) (hid:MeD m id),
      Sm X (λQ E s=>MethodOnS X.prog X.w A E (i4 m) (.ref a) p (backTo p (Ul es env)) Q s) ((fK X.ns C J ts).bnd (λvs=>meV (.ref i) m vs) Z) (Rl X) s Y:=λslot hty hid=>by
     refine n7 PySem.F.plainAttrs_dict slot hty c F D.typeIs D.mapOf.noDict ht ha λvs us s1 Y1 Z1 c1 S1 r1=>?_;show Sm X _ (match Z1[i]? with | some (.list xs)=>meL i xs m vs Z1 | some (.dict kvs)=>meD i kvs m vs Z1 | _=>.stuck) _ _ _;rcases ho1:Z1[i]? with _ | ⟨ys⟩ | ⟨kvs⟩ | ⟨kvs⟩
     ·exact Sm.stuck
     ·cases m <;> first | exact hid.elim | exact Sm.stuck
     ·exact aDl c1 ho1 (S1.get _ _ hi) hid r1
     ·exact Sm.stuck
    cases m <;> first | (cases hk;done) | skip
    ·exact go PySem.F.slot_dict_get PySem.F.type_dict_get rfl
    ·exact go PySem.F.slot_dict_update PySem.F.type_dict_update rfl
    ·exact go PySem.F.slot_dict_setdefault PySem.F.type_dict_setdefault rfl
   ·exact gw (eJ (by unfold meK;simp only [ho,hk,if_false]) ..) Sm.stuck
  ·exact gw (eJ (by unfold meK;simp only [ho]) ..) Sm.stuck
 | _=>exact Sm.stuck
end
section
variable{prog:Program}{w:World}{A:Pf}{E:Pa->Pb->Prop}{s:Pb}
theorem qS:entryFor table "dict.update.loop"=some Builtin.«dict.update.loop»:=entryFor_of_tree (by kernel_rfl)
theorem kN:plainId "dict.update.loop"=true:=by decide +kernel
theorem zS:typeLookup (.type "list") "keys"=pure none:=by refine gw (typeLookup_type ..) (gw (builtinLookup_eq_fast ..) ?_);kernel_rfl
theorem a1l{a:Pd}{xs:Array Pa}{k:Nat}{Q:Option Pa->Pb->Prop}(hh:A.handled=none)(hx:s.heap.get? a=some { cls:=.type "list",data:=.seq xs k })(h:∀h' tk,(∀b o,s.heap.get? b=some o->h'.get? b=some o)->Q none { s with heap:=h',toks:=tk }):Un (model prog w) A (getAttr? (.ref a) "keys") Q E s:=by
 obtain ⟨hp,g,d,tk,os⟩:=s;have hT:∀tk',(⟨hp,g,d,tk',os⟩:Pb).TypeIs (.ref a) "list":=λz=>⟨_,hx,rfl⟩;have f1:=sub_AttributeError;have f3:=F.slot_list_getattribute.lookup;have f4:=F.slot_list_getattribute.bind (.ref a);have f5:=am_list_getattr_none;unfold getAttr? getAttrBy? getAttrBy
 repeat (any_goals (first | assumption | exact hT _ | ((with_reducible show Un _ _ (call (Value.builtin "list.__getattribute__") _ _) _ _ _);refine call_meets F.slot_list_getattribute (hT _) am_entry_list_getattribute (F.args_list_getattribute_2 _ _) (meets_getattribute_miss_list a xs k _ "keys" _ zS (by decide +kernel)) ⟨hx,hh,λh' tk' e hx'=>?_⟩) | wp_step))
 obtain ⟨t',u',he⟩:=hx'.there;show Un _ _ (getattributeRaised _ _ _ _ _ _ _) _ _ _;unfold getattributeRaised
 repeat (any_goals (first | assumption | wp_step))
 exact h _ _ hx'.keeps
theorem a6k(hh:A.handled=none){D I a N:Pd}{items:List Pa}{R:Result->Pb->Prop}(hDI:D≠I)(hD:N<=D)(hI:N<=I)(ha:a<N):
  ∀(qs:List (Str×Pa)) (i:Nat) (s:Pb) (l:List (Str×Pa)),
   (∀j p,qs[j]?=some p->∃t n tk,items[i+j]?=some (.ref t)/\t<N/\s.heap.get? t=some { cls:=.type "tuple",data:=.seq #[.str p.1 tk,p.2] n })->i+qs.length=items.length ->
   s.heap.IsListIter I a i->s.heap.IsList a items.toArray->s.heap.DictOf (strKind prog w) D l->l.length+qs.length<=sizeLine ->
   (∀h' tk,h'.DictOf (strKind prog w) D (merged l qs)->(∀b o,b<N->s.heap.get? b=some o->h'.get? b=some o)->R (.ok (.ret .none)) { s with heap:=h',toks:=tk }) ->
   codeAny (model prog w) A (.builtin "dict.update.loop" ⟨[.ref D,.ref I,rawInt i,.none],[]⟩) R s:=by
 intro qs
 induction qs with
 | nil=>
  intro i s l hq hn hit hl hd hz hR;refine codeAny_builtin qS ?_;refine gw (Around.under_plainId kN _ ..) ?_;show Un _ A.in1 (pyNext (.ref I) >>= _) _ _ s;refine Ug (wpAny_pyNext_list_end hh hit hl (by refine gw (vf ..) ?_;exact vc (bw hn (zf _))) λh' he=>?_);exact Ug (Uh (Uh (hR h' s.toks (hd.extBut he hDI) (λb o hb e=>he b o (yq (zj hb hI)) e))))
 | cons p qs ih=>
  intro i s l hq hn hit hl hd hz hR;refine ex3 (hq 0 p rfl) λt n tk q_h=>?_;refine an3 q_h λhx ht e=>?_;refine codeAny_builtin qS ?_;refine gw (Around.under_plainId kN _ ..) ?_;show Un _ A.in1 (pyNext (.ref I) >>= _) _ _ s;refine Ug (wpAny_pyNext_list_item hit hl (x:=.ref t) (by refine gw (vf ..) ?_;exact hx) λh1 hit1 hs1=>?_);have e1:h1.get? t=some { cls:=.type "tuple",data:=.seq #[.str p.1 tk,p.2] n }:=(hs1.2 t (yq (zj ht hI))).trans e;refine Ug (Uk ?_);refine Ug (wpAny_tryCatch ?_);unfold Builtin.Dict.pairItems;refine Ug (wpAny_typeOf (T:="tuple") ⟨_,e1,rfl⟩ ?_);refine wpAny_ite_split (λz=>?_) (λh=>Ue (by decide) h);refine Ug (Ug (wpAny_load e1 (Uh (Uh ?_))));show Un _ A.in1 (holding [.str p.1 tk,p.2] (dictSet D (.str p.1 tk) p.2)) _ _ _;refine Uk (wpAny_dictSet_pairs (knd:=strKind prog w) (k:=p.1) (kvs:=l) (strKind_is prog w p.1 tk) (hd.sameBut hs1 hDI) (λh2 hd2 hs2=>?_) ?_)
  ·refine Uh ⟨plainId_quiet kN _,?_⟩;have kp:∀b o,b<N->s.heap.get? b=some o->h2.get? b=some o:=λb o hb e=>(hs2.2 b (yq (zj hb hD))).trans ((hs1.2 b (yq (zj hb hI))).trans e);refine ih (i+1) _ (stored l p.1 p.2) (λj q hj=>?_) (by refine bw hn ?_;simp only [wi];(first | lia | omega)) (hit1.at λo e=>(hs2.2 I (Ne.symm hDI)).trans e) (hl.at λo e=>kp a o ha e) hd2 ?_ λh' tk' hd' hk=>hR h' tk' hd' λb o hb e=>hk b o hb (kp b o hb e)
   ·refine ex3 (hq (j+1) q hj) λt' n' tk' q_h=>?_;refine an3 q_h λh1 h2 h3=>?_;exact ⟨t',n',tk',by refine bw h1 ?_;congr 1;(first | lia | omega),h2,kp _ _ h2 h3⟩
   ·have:=stored_length_le l p.1 p.2;simp only [wi] at hz;(first | lia | omega)
  ·simp only [wi] at hz;(first | lia | omega)
theorem nN{a:Pd}{items:List Pa}{n:Nat}{qs:List (Str×Pa)}{Q:Pa->Pb->Prop}(hh:A.handled=none)(ha:s.heap.get? a=some { cls:=.type "list",data:=.seq items.toArray n })(hq:∀(j:Nat) (p:Str×Pa),qs[j]?=some p->∃t n tk,items[j]?=some (Value.ref t)/\s.heap.get? t=some { cls:=.type "tuple",data:=.seq #[.str p.1 tk,p.2] n })(hn:qs.length=items.length)(hz:qs.length<=sizeLine)(h:∀h' tk,h'.DictOf (strKind prog w) s.heap.objs.size (merged [] qs)->(∀b o,s.heap.get? b=some o->h'.get? b=some o)->Q (.ref s.heap.objs.size) { s with heap:=h',toks:=tk }):
  Un (model prog w) A (ya (.type "dict") [.ref a]) Q E s:=by
 refine callType_codes (Q₁:=λobj s1=>obj=.ref s.heap.objs.size/\s1={ s with heap:=s.heap.push { cls:=.type "dict",data:=.dict #[] } }) PySem.F.kt_called_dict (PySem.F.kt_typeCall_dict_1 _) PySem.F.entry_dict_init (kt_code_dict_new _ ⟨rfl,rfl⟩) ?_;rintro obj s1 ⟨rfl,rfl⟩;have hnew:(s.heap.push { cls:=.type "dict",data:=.dict #[] }).DictOf (strKind prog w) s.heap.objs.size []:=Heap.DictOf.new s.heap;have la:=yc ha;have ha1:(s.heap.push { cls:=.type "dict",data:=.dict #[] }).get? a=some { cls:=.type "list",data:=.seq items.toArray n }:=zo _ ha;refine ⟨hnew.typeIs,PySem.F.args_dict_init_2 _ _,?_⟩;unfold Builtin.«dict.__init__»;refine Ug ?_;unfold Builtin.Dict.selfAndRest;refine Ug (wpAny_notOrdered_dict hnew.typeIs (Uh ?_));show Un _ _ (Builtin.Dict.updateFrom "dict.__init__" s.heap.objs.size (.ref a) [] .none) _ _ _;unfold Builtin.Dict.updateFrom;refine Ug (wpAny_typeOf (T:="list") ⟨_,ha1,rfl⟩ ?_);refine gw (Ua (by decide) ..) ?_;refine Ug (a1l hh ha1 λh1 tk k1=>?_);refine wpAny_ite_split (λz=>?_) (λh=>Ue rfl h);have ha2:=k1 _ _ ha1;have hl2:h1.IsList a items.toArray:=⟨_,ha2,rfl,_,rfl⟩;have d2:h1.DictOf (strKind prog w) s.heap.objs.size []:=by obtain ⟨o,es,ep,ho,r⟩:=hnew;exact ⟨o,es,ep,k1 _ _ ho,r⟩
 have hlt:s.heap.objs.size<h1.objs.size:=by obtain ⟨_,_,_,ho,_⟩:=d2;exact yc ho
 refine Ug (wpAny_rule (Ug (wpAny_pyIter_list hl2 ?_)));have ol:∀b o,s.heap.get? b=some o->(h1.push { cls:=.type "list_iterator",data:=.fields #[.ref a,.int 0 0] }).get? b=some o:=λb o e=>zo _ (k1 _ _ (zo _ e));refine Uh ⟨plainId_quiet kN _,a6k (A:=A.in1) (N:=s.heap.objs.size) hh (yq hlt) (zf _) (yd hlt) la qs 0 _ [] (λj p hj=>?_) (gw hn (gw (zp ..) rfl)) ⟨_,yn _ rfl,rfl,rfl⟩ (hl2.at λo e=>zo _ e) (d2.push _) (gw (za2 ..) (gw (zp ..) hz)) λh' tk' hd' hk=>?_⟩
 ·refine ex3 (hq j p hj) λt n' tk' q_h=>?_;obtain ⟨h1,h2⟩:=q_h;exact ⟨t,n',tk',gw (zp ..) h1,yc h2,ol _ _ h2⟩
 ·exact ⟨rfl,h h' tk' hd' λb o e=>hk b o (yc e) (ol b o e)⟩
end
section
variable{X:W}{A:Pf}{d:Nat}{s:Pb}{Y:List Pd}{Z:H}
theorem vG{x:V}{y:List Nat}{v:V}(h:a2u x=some (y,v)):x=.tup [.str y,v]:=by
 cases x with
 | tup vs=>cases vs with
  | nil=>cases h
  | cons a vs=>cases a with
   | str z=>cases vs with
    | nil=>cases h
    | cons b vs=>cases vs with
     | nil=>cases h;rfl
     | cons=>cases h
   | _=>cases h
 | _=>cases h
theorem a2r{h:Pe}{xs:List V}{l:List Pa}{ps:List (List Nat×V)}(e:fU xs=some ps)(r:VRs X h Y xs l):∃qs:List (Str×Pa),ERs X h Y ps qs/\qs.length=l.length/\∀(j:Nat) p,qs[j]?=some p->∃t n tk,l[j]?=some (.ref t)/\h.get? t=some { cls:=.type "tuple",data:=.seq #[.str p.1 tk,p.2] n }:=by
 induction xs generalizing l ps with
 | nil=>cases e;cases r;exact ⟨[],⟨rfl,(λz h=>by cases h),.nil⟩,rfl,λz z h=>by cases h⟩
 | cons x xs ih=>
  cases r with
  | cons r rs=>
   obtain ⟨⟨y,v⟩,e1,e2⟩:=vj.mp e;obtain ⟨ps,hb,rfl⟩:=zk.mp e2;obtain rfl:=vG e1;refine ex4 (uB r) λt u1 u2 n q_h=>?_;refine an4 q_h λq_4 et r1 r2=>?_;obtain rfl:=q_4;cases r1 with
   | str y tk hy=>
    obtain ⟨qs,q_h⟩:=(ih hb rs);refine an3 q_h λq1 q2 q3=>?_;refine ⟨(y,u2)::qs,⟨Uf (aC y::·) q1.keys,λp hp=>(ye.mp hp).elim (λq=>q▸hy) (q1.lim p),.cons r2 q1.vals⟩,Uf (·+1) q2,λj p hj=>?_⟩;cases j with
    | zero=>cases hj;exact ⟨_,_,_,rfl,et⟩
    | succ j=>exact q3 j p hj
set_option tactic.hygienic true in
theorem a7m(c:Cn X A d true s Y Z){v:V}{u:Pa}(r:VR X s.heap Y v u):Sm X (Wp X A (ya (.type "dict") [u])) (biV X.ns .dict v Z) (Rl X) s Y:=by
 cases r <;> first | exact Sm.stuck | skip
 rename_i i a hm;have hno:s.heap.objs.size∉Y:=λhm=>xg _ (c.hr.lt hm);have made:∀{kvs:List (List Nat×V)}{l:List (Str×Pa)}{h':Pe}{tk:Nat}{Q:Pa->Pb->Prop},kvs.length<=lim->ERs X s.heap Y kvs l->(∀b s' Y',Step X s Y s' Y' (Z++[.dict kvs])->Rl X s'.heap Y' (.ref Z.length) b->Q b s')->h'.DictOf (strKind X.prog X.w) s.heap.objs.size l->(∀b o,s.heap.get? b=some o->h'.get? b=some o)->s.heap.objs.size<=h'.objs.size->Q (.ref s.heap.objs.size) { s with heap:=h',toks:=tk }:=λ{kvs l h' tk Q} hl rr hQ hD k hs=>by
  have S1:Step X s Y { s with heap:=h',toks:=tk } Y Z:=Step.grow c k hs rfl rfl;exact hQ _ _ (Y++[s.heap.objs.size]) (S1.adopt c hno (zf _) (.dict hD (bw (rr.length ..) hl) (rr.like λq=>(S1.vrs c.hr q).mono (λz z e z=>e) fV))) (.ref (c.newRef _))
 show Sm X _ ((match Z[i]? with | some (.dict kvs)=>i6 kvs Z | some (.list xs)=>(bF (fU xs)).bnd (λps=>i6 (aZ [] ps)) Z | _=>.stuck:R V)) _ _ _;rcases ho:Z[i]? with _ | ⟨xs⟩ | ⟨kvs⟩ | ⟨kvs⟩
 ·exact Sm.stuck
 ·refine ex2 (c.list ho hm) λl n q_h=>?_;refine an3 q_h λel rr hz=>?_;dsimp only;cases hp:fU xs with
  | none=>exact Sm.stuck
  | some ps=>
   obtain ⟨qs,q_h⟩:=(a2r hp rr);refine an3 q_h λq1 q2 q3=>?_;show Sm X _ (i6 (aZ [] ps) Z) _ _ _;unfold i6;refine ic ite_ (λhl=>?_) λz=>?_
   ·exact Sm.ok λQ E hQ=>gY (nN (c.rm.handled rfl) el q3 q2 (gw q2 hz) λh' tk hD k hs=>made hl (ERs.puts (l:=[]) q1 ⟨rfl,(λz h=>by cases h),.nil⟩ .nil) hQ hD k hs)
   ·exact Sm.stuck
 ·exact z4 c ho hm
 ·exact Sm.stuck
end
structure Own1(X:W)(G:GT)(T:Tab):Prop where
 U:∀(x:V) (u:Pa) (nm:Str) (pl:Sem Bool) (A:Pf) (d:Nat) (s:Pb) (Y:List Pd) (Z:H),Cn X A d true s Y Z->VR X s.heap Y x u ->
  Sm X (Wp X A (getMethod u nm pl)) (aJ T x (aC nm) Z) (λz z i p=>p=(.ref (X.fa i),[u])/\PySem.W.keepIn X.K (.ref (X.fa i))=true) s Y
 attr:∀(x:V) (u:Pa) (nm:Str) (A:Pf) (d:Nat) (s:Pb) (Y:List Pd) (Z:H),nm∈G.att->Cn X A d true s Y Z->VR X s.heap Y x u->Sm X (Wp X A (getAttr u nm true)) (eY x (aC nm) Z) (Rl X) s Y
 seta:∀(x v:V) (u w:Pa) (nm:Str) (A:Pf) (d:Nat) (s:Pb) (Y:List Pd) (Z:H),nm∈G.att->nm.length<=4096->Cn X A d true s Y Z->VR X s.heap Y x u->VR X s.heap Y v w->Sm X (Wp X A (setAttr u nm w)) (iT x (aC nm) v Z) (λz z z z=>True) s Y
 new:∀(k:Nat) (p:Nat×List (List Nat×Nat)),T.cls[k]?=some p->∀(f:List V->M V) (d:Nat),
  (∀(vs:List V) (us:List Pa) (A:Pf) (s:Pb) (Y:List Pd) (Z:H),Cn X A (d+1) true s Y Z->VRs X s.heap Y vs us->Sm X (Pc X (upA A 1) (.ref (X.fa p.1)) us) (f vs Z) (Rl X) s Y) ->
  ∀(vs:List V) (us:List Pa) (A:Pf) (s:Pb) (Y:List Pd) (Z:H),Cn X A (d+1) true s Y Z->VRs X s.heap Y vs us->Sm X (Wp X A (ya (.ref (X.co k)) us)) ((f (.inst k Z.length::vs)).bnd (oU k Z.length) (Z++[.dict []])) (Rl X) s Y
structure Wd(X:W)(G:GT)(T:Tab):Prop where
 nm:Nm X G
 fns:∀i fn,T.fns[i]?=some fn->aFv X G i fn
 lim:X.h₀.NoLimit
 sl:SLeaf X G T.sub
 own:Own1 X G T
section
variable{X:W}{A:Pf}{d:Nat}{s s' s'' s₀:Pb}{Y Y' Y'' Y₀:List Pd}{Z Z' Z'' Z0:H}{env:zq}{cx cx':Cx}{J J' J0:Env}{C:Calls}{G:GT}{T:Tab}
theorem aGg(c:Cn X A d true s Y Z)(b:Bi){v:V}{u:Pa}(r:VR X s.heap Y v u):Sm X (Wp X A (ya (a2q b) [u])) (biV X.ns b v Z) (Rl X) s Y:=by
 cases b with
 | len=>exact aEk c r
 | list=>exact a9s c r
 | sorted=>exact a0z c r
 | dict=>exact a7m c r
 | str=>exact aDa c r
 | any=>exact aEn c r
 | all=>exact aDg c r
 | min _=>exact aEt c r
theorem xY(w:Wd X G T)(h2:C.sub=T.sub)(hc:∀(f:Nat) (vs:List V) (us:List Pa) (A:Pf) (s:Pb) (Y:List Pd) (Z:H),Cn X A d true s Y Z->VRs X s.heap Y vs us->Sm X (Wp X A (ya (.ref (X.fa f)) us)) (C.call f vs Z) (Rl X) s Y)(hw:∀(k:Nat) (vs:List V) (us:List Pa) (A:Pf) (s:Pb) (Y:List Pd) (Z:H),Cn X A d true s Y Z->VRs X s.heap Y vs us->Sm X (Wp X A (ya (.ref (X.co k)) us)) (C.new k vs Z) (Rl X) s Y)(hm:∀(x:V) (u:Pa) (nm:Str) (pl:Sem Bool) (A:Pf) (s:Pb) (Y:List Pd) (Z:H),Cn X A d true s Y Z->VR X s.heap Y x u ->
   Sm X (Wp X A (getMethod u nm pl)) (C.U x (aC nm) Z) (λz z i p=>p=(.ref (X.fa i),[u])/\PySem.W.keepIn X.K (.ref (X.fa i))=true) s Y):Leaf X G C d where
 nm:=w.nm
 call:=hc
 bi:=λb v u A s Y Z c r=>aGg c b r
 me:=λm x u ts es p cx A env J s Y Z c F r ht ha=>aHd m x u ts es p c F r ht ha
 mm:=λmx v w u u' A s Y Z c r r'=>aGk c r r'
 new:=hw
 U:=hm
 attr:=λx u nm A s Y Z h c r=>w.own.attr x u nm A d s Y Z h c r
 seta:=λx v u y nm A s Y Z h hl c r r'=>w.own.seta x v u y nm A d s Y Z h hl c r r'
 isi:=λt v u A s Y Z c r=>aEa c r
theorem aEg(ns:List Int)(T:Tab)(n:Nat):(callsOf ns T n).sub=T.sub:=by cases n <;> rfl
theorem aFo{X:W}(w:∀b,Wd (X.wb b) G T)(n:Nat):∀(b:Fz),Leaf (X.wb b) G (callsOf X.ns T n) n:=by
 induction n with
 | zero=>exact λb=>xY (w b) rfl (λz z z z z z z z z=>Sm.stuck) (λz z z z z z z z z=>Sm.stuck) λx u nm pl A s Y Z c r=>(w b).own.U x u nm pl A 0 s Y Z c r
 | succ n ih=>
  intro b;have L:LL (X.wb b) G (callsOf X.ns T n) n:=⟨λb'=>ih b',λb'=>gw (aEg ..) ((w b').sl)⟩;have fn_ok:∀(u:Nat),u<=2->∀{f:Nat}{fn:Fn},T.fns[f]?=some fn->∀(vs:List V) (us:List Pa) (A:Pf) (s:Pb) (Y:List Pd) (Z:H),Cn (X.wb b) A (n+1) true s Y Z->VRs (X.wb b) s.heap Y vs us->Sm (X.wb b) (Pc (X.wb b) (upA A u) (.ref (X.fa f)) us) (evF X.ns (callsOf X.ns T n) fn vs Z) (Rl (X.wb b)) s Y:=
   λu hu z z hf vs us A s Y Z c r=>aCk u hu ((w b).fns _ _ hf) (w b).lim (fI L _ b) c r
  refine xY (w b) rfl (λf vs us A s Y Z c r=>?_) (λk vs us A s Y Z c r=>?_) λx u nm pl A s Y Z c r=>(w b).own.U x u nm pl A (n+1) s Y Z c r
  ·show Sm _ _ ((match T.fns[f]? with | some fn=>evF X.ns (callsOf X.ns T n) fn vs | none=>stuck:M V) Z) _ _ _;cases hf:T.fns[f]? with
   | none=>exact Sm.stuck
   | some fn=>exact (fn_ok 0 (yj _) hf vs us A s Y Z c r).imp λQ E h=>wpAny_call h
  ·show Sm _ _ ((match T.cls[k]? with | some p=>(match T.fns[p.1]? with | some fn=>λZ=>(evF X.ns (callsOf X.ns T n) fn (.inst k Z.length::vs)).bnd (oU k Z.length) (Z++[.dict []]) | none=>stuck) | none=>stuck:M V) Z) _ _ _;cases hk:T.cls[k]? with
   | none=>exact Sm.stuck
   | some p=>
    show Sm _ _ ((match T.fns[p.1]? with | some fn=>λZ=>(evF X.ns (callsOf X.ns T n) fn (.inst k Z.length::vs)).bnd (oU k Z.length) (Z++[.dict []]) | none=>stuck:M V) Z) _ _ _;cases hf:T.fns[p.1]? with
    | none=>exact Sm.stuck
    | some fn=>exact (w b).own.new k p hk (evF X.ns (callsOf X.ns T n) fn) n (fn_ok 1 (by decide) hf) vs us A s Y Z c r
end
theorem xE{names:List Str}{vals:List Pa}(e:vals.length=names.length)(n:Str)(h:n∈names):((names.zip vals).lookup n).isSome=true:=by
 induction names generalizing vals with
 | nil=>cases h
 | cons m names ih=>
  cases vals with
  | nil=>cases e
  | cons v vals=>
   refine gw (List.zip_cons_cons ..) (gw (wj ..) ?_);cases hx:n == m with
   | true=>rfl
   | false=>exact ih (Nat.succ.inj e) ((ye.mp h).resolve_left λq=>vg (hx.symm.trans (beq_iff_eq.mpr q)))
theorem a2z{names:List Str}{vals:List Pa}{S:List (Str×Pa)}(e:vals.length=names.length)(h:∀(k:Nat) (n:Str) (v:Pa),names[k]?=some n->vals[k]?=some v->S.lookup n=some v):names.filterMap (λn=>(S.lookup n).map (n,·))=names.zip vals:=by
 induction names generalizing vals with
 | nil=>rfl
 | cons m names ih=>
  cases vals with
  | nil=>cases e
  | cons v vals=>
   exact gw (zac ..) (gw (h 0 m v rfl rfl ..) (Uf ((m,v)::·) (ih (Nat.succ.inj e) λk n w h1 h2=>h (k+1) n w h1 h2)))
theorem aDr{names:List Str}{vals:List Pa}(hn:names.Nodup)(k:Nat)(n:Str)(v:Pa)(h1:names[k]?=some n)(h2:vals[k]?=some v):(names.zip vals).lookup n=some v:=by
 induction names generalizing vals k with
 | nil=>cases h1
 | cons m names ih=>
  cases vals with
  | nil=>cases h2
  | cons w vals=>
   refine gw (List.zip_cons_cons ..) (gw (wj ..) ?_);cases k with
   | zero=>cases h1;exact gw (beq_self_eq_true ..) h2
   | succ k=>
    obtain ⟨n1,n2⟩:=wg.mp hn;exact gw (beq_eq_false_iff_ne.mpr λq=>n1 (q▸ym (i:=k) h1):(n == m)=false) (ih n2 k h1 h2)
theorem bp{fd:FuncData}{vals:List Pa}(h1:fd.params.posonlyargs=[])(h2:fd.params.vararg=none)(h3:fd.params.kwonlyargs=[])(h4:fd.params.kwarg=none)(h5:fd.defaults=.none)(hl:vals.length=(fd.params.args.map (·.arg)).length)(hmiss:((fd.params.args.map (·.arg)).filter λn=>((fd.params.args.map (·.arg)).zip vals |>.lookup n).isNone)=[])(hsame:(fd.params.args.map (·.arg)).filterMap (λn=>(((fd.params.args.map (·.arg)).zip vals).lookup n).map (n,·))=(fd.params.args.map (·.arg)).zip vals):bindArgs fd ⟨vals,[]⟩=pure ((fd.params.args.map (·.arg)).zip vals):=by
 obtain ⟨n1,n2,⟨po,ar,va,ko,ka,df,kd⟩,b,sc,g,cl,d1,d2,d3,d4,d5,d6,d7,d8⟩:=fd;dsimp only at *;subst h1 h2 h3 h4 h5;generalize hN:zbf (λx:Arg=>x.arg) ar=names at *;have hg:¬(decide (vals.length>names.length)&&true)=true:=by refine gw hl (gw (Ud (xg _) ..) ?_);decide
 have hm:¬(!((names.take (names.length-(([]:List Pa).drop (([]:List Pa).length-names.length)).length)).filter λn=>((names.zip vals).lookup n).isNone).isEmpty)=true:=by refine gw (zbq ..) (gw (za2 ..) (gw (fk ..) (gw (xb ..) (gw (hmiss ..) ?_))));decide
 subst hN;have e1:(Pure.pure (((zbf (λx:Arg=>x.arg) ar)++[]).filterMap (λn=>(((zbf (λx:Arg=>x.arg) ar).zip vals).lookup n).map (n,·))):Sem (List (Str×Pa)))=Pure.pure ((zbf (λx:Arg=>x.arg) ar).zip vals):=gw (yw ..) (gw (hsame ..) rfl);refine (Ub (α:=Sem (List (Str×Pa))) hg).trans ((Ub (α:=Sem (List (Str×Pa))) hm).trans ?_);dsimp only;rw [show ∀k,List.drop k ((none:Option (Array Pa)).getD #[]).toList=[] from λk=>zbq,List.zip_nil_right];exact e1
theorem wW{fd:FuncData}{vals:List Pa}(h1:fd.params.posonlyargs=[])(h2:fd.params.vararg=none)(h3:fd.params.kwonlyargs=[])(h4:fd.params.kwarg=none)(h5:fd.defaults=.none)(hl:vals.length=fd.params.args.length)(hnd:(fd.params.args.map (·.arg)).Nodup):bindArgs fd ⟨vals,[]⟩=pure ((fd.params.args.map (·.arg)).zip vals):=by
 have hl':vals.length=(fd.params.args.map (·.arg)).length:=gw (zb ..) hl;have hmiss:((fd.params.args.map (·.arg)).filter λn=>((fd.params.args.map (·.arg)).zip vals |>.lookup n).isNone)=[]:=by
  rw [List.filter_eq_nil_iff];intro n hn;have:=xE hl' n hn;simp only [zar];intro q;replace this:=q▸this;cases this
 have hsame:=a2z hl' (aDr (vals:=vals) hnd);exact bp h1 h2 h3 h4 h5 hl' hmiss hsame
theorem a4w{G:GT}{fn:Fn}{a:Arguments}{body:List Ph}{sc:Scope}(h:TFn G fn a body sc):(a.args.map (·.arg)).Nodup:=by exact bw (h.1 ..) (.sublist (gq _ _) (.sublist (rG _ _) h.2.1))
noncomputable def aHe(h:Pe)(G:GT)(a:Pd)(fn:Fn):Prop:=∃o fd body,h.get? a=some o/\o.data=.func fd/\h.CodeRec fd.code fd.qualname/\fd.body=.stmts body/\fd.closure=[]/\fd.globals=Uj/\fd.builtins=builtinsNs /\
 (∀vals:List Pa,vals.length=fd.params.args.length->bindArgs fd ⟨vals,[]⟩=pure ((fd.params.args.map (·.arg)).zip vals))/\TFn G fn fd.params body fd.scope
noncomputable def aIa(v:Pa):Ok (v=.none):=match v with
 | .none=>⟨true,λz=>rfl⟩
 | _=>.no
noncomputable def emp{α:Type}(l:List α):Ok (l=[]):=⟨l.isEmpty,List.isEmpty_iff.mp⟩
noncomputable def non{α:Type}(o:Option α):Ok (o=none):=⟨o.isNone,zar.mp⟩
noncomputable def got{α:Type}(o:Option α):Option { x:α // o=some x }:=match o with
 | some x=>some ⟨x,rfl⟩
 | .none=>.none
noncomputable def aEd(d:Data):Option { fd:FuncData // d=.func fd }:=match d with
 | .func fd=>some ⟨fd,rfl⟩
 | _=>.none
noncomputable def aDo(d:Data):Option { vs:Array Pa // d=.fields vs }:=match d with
 | .fields fd=>some ⟨fd,rfl⟩
 | _=>.none
noncomputable def aHs(v:Pa):Option { a:Pd // v=.ref a }:=match v with
 | .ref a=>some ⟨a,rfl⟩
 | _=>.none
noncomputable def aCy(v:Pa)(q:Str):Ok (∃t,v=.str q t):=match v with
 | .str q' t=>.dec (q'=q) λe=>⟨t,e▸rfl⟩
 | _=>.no
noncomputable def aEe(K:PySem.W.Frag)(c:Pa)(q:Str):Ok (∀h:Pe,K.In h->h.CodeRec c q):=
 .on (aHs c) λa=>.on (got (K.lookup a.1)) λo=>.on (aDo o.1.data) λvs=>.on (got (vs.1[1]?)) λv=>(aCy v.1 q).map λq_0 h kx=>by obtain ⟨t,e⟩:=q_0;exact ⟨a.1,o.1,vs.1,t,a.2,kx _ _ o.2,vs.2,e▸v.2⟩
noncomputable def aCv(b:FuncBody):Option { l:List Ph // b=.stmts l }:=match b with
 | .stmts l=>some ⟨l,rfl⟩
 | _=>.none
noncomputable def kFnAt(K:PySem.W.Frag)(G:GT)(fn:Fn)(a:Pd):Ok (∀h:Pe,K.In h->aHe h G a fn):=
 .on (got (K.lookup a)) λo=>.on (aEd o.1.data) λq=>.on (aCv q.1.body) λb=>.iff (q.1.globals=Uj/\q.1.builtins=builtinsNs) λh=>
  ((aEe K q.1.code q.1.qualname).and (kFn G fn q.1.params b.1 q.1.scope) And.intro).and
   (((emp q.1.closure).and (aIa q.1.defaults) And.intro).and (((emp q.1.params.posonlyargs).and (non q.1.params.vararg) And.intro).and ((emp q.1.params.kwonlyargs).and (non q.1.params.kwarg) And.intro) And.intro) And.intro)
   λh1 h2 hp kx=>⟨o.1,q.1,b.1,kx _ _ o.2,q.2,h1.1 hp kx,b.2,h2.1.1,h.1,h.2,λvals hl=>wW h2.2.1.1 h2.2.1.2 h2.2.2.1 h2.2.2.2 h2.1.2 hl (a4w h1.2),h1.2⟩
theorem zE:Slot "ValueError" "__getattribute__" "BaseException.__getattribute__":=PySem.F.attrBase_ValueError.ga
section
open PySem.W
variable{prog:Program}{w:World}{A:Pf}{E:Pa->Pb->Prop}{s:Pb}{K:PySem.W.Frag}{C e:Pd}{o:Obj}
theorem aAm{M:Model}{nameV:Pa}{Q:Unit->Pb->Prop}(X:K.In s.heap)(I:InstAt s.heap e o C none)(hb:mroIn K C (.type "BaseException")=some true)(hq:Q () s):Un M A (checkBuiltinCall "BaseException.__getattribute__" ⟨[.ref e,nameV],[]⟩) Q E s:=by
 have hk:builtinKind "BaseException.__getattribute__"=some .slot:=by decide +kernel
 have hsplit:splitId "BaseException.__getattribute__"=some ("BaseException","__getattribute__"):=by decide +kernel
 have L0:=I.type (M:=M);have L1:=looks_mroIn (M:=M) X hb;have ha:=F.args_bexc_ga (.ref e) nameV;simp only [checkBuiltinCall,hk,hsplit];refine Ug ?_;unfold isInstance;refine Ug (L0.at (L1.at ?_));rw [Ub (by decide)];cases hsig:Manifest.signature? "BaseException.__getattribute__" with
 | none=>exact Uh hq
 | some sig=>
  simp only [argsOk,hsig] at ha;exact wpAny_of_eq ha hq
theorem a6u{Q:Option Pa->Pb->Prop}(X:K.In s.heap)(I:InstAt s.heap e o C none)(hga:findIn K (.ref C) "__getattribute__"=some (some (.builtin "BaseException.__getattribute__")))(hgn:findIn K (.ref C) "__getattr__"=some none)(hb:mroIn K C (.type "BaseException")=some true)(hf:findObj K C none "__class__"=some (.bind (.builtin "getset_descriptor.__get__") (.builtin "object.__class__")))(hm:mroIn K C (.type "object")=some true)(h:Q (some (.ref C)) { s with toks:=s.toks+1 }):Un (model prog w) A (getAttr? (.ref e) "__class__") Q E s:=by
 obtain ⟨hh,g,d,t,os⟩:=s;have L0:=I.type (M:=model prog w);have L1:=looks_findIn (M:=model prog w) X hga;have L2:=looks_findIn (M:=model prog w) X hgn;have L3:=looks_find (M:=model prog w) X I hf;unfold getAttr? getAttrBy? getAttrBy;refine Ug (wpAny_mkText (Ug (wpAny_attempt (Uk (Ug (L0.at (Ug (L1.at ?_))))))));have hne:¬(onTheHeap (.ref C)&&Value.builtin "BaseException.__getattribute__" == .builtin "object.__getattribute__")=true:=by
  have:(Value.builtin "BaseException.__getattribute__" == Value.builtin "object.__getattribute__")=false:=by decide +kernel
  rw [this];intro q;cases q
 show Un _ _ (if (onTheHeap (.ref C)&&Value.builtin "BaseException.__getattribute__" == .builtin "object.__getattribute__")=true then _ else getAttrByItsOwn _ _ _ _ _ _) _ _ _;rw [Ub hne];unfold getAttrByItsOwn;refine Ug (L2.at (Ug (wpAny_attempt (Uk ?_))));show Un _ _ (boundAndCalled (.builtin "BaseException.__getattribute__") (.ref e) _) _ _ _;unfold boundAndCalled;refine Ug (wpAny_of_eq (zE.bind (.ref e)) ?_);refine wpAny_call (codeAny_call_builtin zE.plain F.entry_bexc_ga (aAm X I hb ?_));refine Ug (Uh (Ug (Uh (Ug (L0.at (Ug (L3.at ?_)))))));show Un _ _ (holding [.builtin "object.__class__"] (ya (.builtin "getset_descriptor.__get__") [.builtin "object.__class__",.ref e,.ref C]) >>= ret) _ _ _;refine Ug (Uk (wpAny_call (class_get X I hm ?_)));refine Uh ?_;exact Uh (Uh h)
end
noncomputable def oQ(a b:Nat):Bool:=a == b || b == 0
structure X8(K:PySem.W.Frag)(cas:List Pd)(C:Pd)(n:Nat):Prop where
 ga:PySem.W.findIn K (.ref C) "__getattribute__"=some (some (.builtin "BaseException.__getattribute__"))
 gn:PySem.W.findIn K (.ref C) "__getattr__"=some none
 mb:PySem.W.mroIn K C (.type "BaseException")=some true
 cl:(PySem.W.clsIn K C).isSome=true
 a:PySem.W.findIn K (.ref C) "__class__"=some (some (.builtin "object.__class__"))
 gt:PySem.W.specialIn K (.builtin "object.__class__") "__get__"=some (some (.builtin "getset_descriptor.__get__"))
 tk:PySem.W.takesIn K (.builtin "object.__class__")=some true
 m:PySem.W.mroIn K C (.type "object")=some true
 k:∀c'∈zs n,PySem.W.kitOne K (.ref C) (.ref (cas.getD c' 0))=some (oQ gI c')
 v:PySem.W.kitOne K (.ref C) (.type "ValueError")=some true
section
variable{K:PySem.W.Frag}{cas:List Pd}{C:Pd}{n:Nat}{prog:Program}{w:World}{A:Pf}{s:Pb}{a:Pd}{oe:Obj}{vs:Array Pa}{Q:Pa->Pb->Prop}{E:Pa->Pb->Prop}
theorem mD{K:PySem.W.Frag}{C:Pd}{cd:ClassData}(e:PySem.W.clsIn K C=some cd):∃o:Obj,K.lookup C=some o/\o.data=.cls cd:=by
 unfold PySem.W.clsIn at e;generalize K.lookup C=o at e ⊢;cases o with
 | none=>cases e
 | some o=>
  obtain ⟨a,b,dt,s⟩:=o;cases dt with
  | cls c=>cases e;exact ⟨_,rfl,rfl⟩
  | _=>cases e
theorem X8.cls(x:X8 K cas C n):∃cd,PySem.W.clsIn K C=some cd:=uj.mp x.cl
theorem X8.kitx(x:X8 K cas C n)(e:Pd):PySem.W.KitX K (.ref e) (.ref C) (λh=>∃o,PySem.W.InstAt h e o C none) where
 ty:=λM h z q_0=>by obtain ⟨o,I⟩:=q_0;exact I.type
 it:=λM h kk z=>by
  obtain ⟨cd,hc⟩:=x.cls;obtain ⟨⟨_,_,_,_⟩,ho,hd⟩:=mD hc;cases hd;intro A' Q' E' s' k q;unfold isType loadHead;exact Ug (wpAny_loadPart (k _ _ (kk _ _ ho)) (Uh q))
 ne:=λh tp dd its n sl kk htp=>by
  obtain ⟨cd,hc⟩:=x.cls;obtain ⟨⟨_,_,_,_⟩,ho,hd⟩:=mD hc;cases hd;have h1:=kk _ _ ho;refine beq_eq_false_iff_ne.mpr λq=>?_;injection q with q
  subst q;rw [htp] at h1;cases h1
 ca:=λ{prog w A E Q s} kk q h=>by
  obtain ⟨o,I⟩:=q;have hf:PySem.W.findObj K C none "__class__"=some (.bind (.builtin "getset_descriptor.__get__") (.builtin "object.__class__")):=by
   obtain ⟨cd,hc⟩:=x.cls;unfold PySem.W.findObj;refine gw hc (gw (wh ..) (gw x.a (gw (wh ..) (gw x.gt (gw (wh ..) ?_)))));exact gw x.tk rfl
  exact a6u kk I x.ga x.gn x.mb hf x.m h
theorem X8.inst(he:s.heap.get? a=some oe)(hx:IsX (.ref C) oe)(hd:oe.data=.fields vs):PySem.W.InstAt s.heap a oe C none:=⟨he,hx.1,(by obtain ⟨oc,od,dt,sl⟩:=oe;cases hd;rfl),by refine gw hx.2 ?_;trivial⟩
theorem X8.isi(x:X8 K cas C n)(kin:K.In s.heap)(he:s.heap.get? a=some oe)(hx:IsX (.ref C) oe)(hd:oe.data=.fields vs){t:Pa}{b:Bool}(ht:PySem.W.kitOne K (.ref C) t=some b)(h:∀tk,Q (.bool b) { s with toks:=tk }):Un (model prog w) A (ya (.builtin "isinstance") [.ref a,t]) Q E s:=
 PySem.W.kia_one (x.kitx a) kin ⟨_,X8.inst he hx hd⟩ ht (by intro q;cases q) h
end
open PySem.W (Frag)
noncomputable def kAll{α:Type}{P:Nat->α->Prop}(f:∀i x,Ok (P i x)):(l:List α)->(k:Nat)->Ok (∀i x,l[i]?=some x->P (k+i) x)
 | [],k=>⟨true,λz i x h=>by cases h⟩
 | a::l,k=>(f k a).and (kAll f l (k+1)) λh1 h2 i x h=>match i,h with
  | 0,h=>by cases h;exact h1
  | i+1,h=>by have:=h2 i x h;exact (ji k 1 i)▸this
noncomputable def sA{α:Type}{P:α->Prop}(f:∀x,Ok (P x)):(l:List α)->Ok (∀x∈l,P x)
 | []=>⟨true,λz x h=>by cases h⟩
 | a::l=>(f a).and (sA f l) λh1 h2 x h=>(ye.mp h).elim (λe=>e▸h1) (h2 x)
noncomputable def aEz(v:V)(u:Pa):Ok (∀(X:W) (h:Pe) (Y:List Pd),VR X h Y v u):=match v with
 | .none=>match u with | .none=>⟨true,λz z z z=>.none⟩ | _=>.no
 | .bool b=>match u with | .bool c=>.dec (b=c) λe z z z=>e▸.bool _ | _=>.no
 | .int i=>match u with | .int j t=>.dec (i=j) λe z z z=>e▸.int _ _ | _=>.no
 | .str x=>match u with | .str y t=>.dec (x=aC y/\y.length<=lim) λe z z z=>e.1▸.str _ _ e.2 | _=>.no
 | _=>.no
structure NmK(K:Frag)(G:GT)(fns cas cos:List Pd):Prop where
 fns:∀i x,G.fns[i]?=some x->PySem.W.nsIn K Uj x=some (some (.ref (fns.getD (0+i) 0)))/\PySem.W.keepIn K (.ref (fns.getD (0+i) 0))=true
 cls:∀i x,G.cls[i]?=some x->PySem.W.nsIn K Uj x=some (some (.ref (cas.getD (0+i) 0)))
 own:∀i x,G.own[i]?=some x->PySem.W.nsIn K Uj x=some (some (.ref (cos.getD (0+i) 0)))/\PySem.W.keepIn K (.ref (cos.getD (0+i) 0))=true
 bi:∀p∈pO,PySem.W.nsIn K Uj p.1=some none
 con:∀p∈G.con,∃u,PySem.W.nsIn K Uj p.1=some (some u)/\∀(X:W) (h:Pe) (Y:List Pd),VR X h Y p.2 u
noncomputable def oo{α:Type}(o:Option (Option α)):Option { x:α // o=some (some x) }:=match o with
 | some (some x)=>some ⟨x,rfl⟩
 | _=>.none
noncomputable def kNm(K:Frag)(G:GT)(fns cas cos:List Pd):Ok (NmK K G fns cas cos):=
 (((kAll (λi x=>.dec (PySem.W.nsIn K Uj x=some (some (.ref (fns.getD i 0)))/\PySem.W.keepIn K (.ref (fns.getD i 0))=true) id) G.fns 0).and
  (kAll (λi x=>.dec (PySem.W.nsIn K Uj x=some (some (.ref (cas.getD i 0)))) id) G.cls 0) And.intro).and
  ((kAll (λi x=>.dec (PySem.W.nsIn K Uj x=some (some (.ref (cos.getD i 0)))/\PySem.W.keepIn K (.ref (cos.getD i 0))=true) id) G.own 0).and
   (sA (λp=>.dec (PySem.W.nsIn K Uj p.1=some none) id) pO) And.intro) And.intro).and
  (sA (λp=>.on (oo (PySem.W.nsIn K Uj p.1)) λu=>(aEz p.2 u.1).map λh=>⟨u.1,u.2,h⟩) G.con)
  λh1 h2=>⟨h1.1.1,h1.1.2,h1.2.1,h1.2.2,h2⟩
theorem a7e:∀p∈pO,p.1≠"__name__"/\bootBuiltins p.1=some p.2:=by decide +kernel
theorem aGn{X:W}{G:GT}{p:Program}{loose:List Str}{mg mb:Str->Option Pa}{fns cas cos:List Pd}(k:NmK X.K G fns cas cos)(kx:X.K.In X.h₀)(t:PySem.W.TopRead p loose mg mb X.h₀)(hf:∀i,X.fa i=fns.getD i 0)(hc:∀i,i<G.cls.length->X.ca i=cas.getD i 0)(ho:∀i,i<G.own.length->X.co i=cos.getD i 0):Nm X G where
 kin:=kx
 ns:=by
  refine ⟨mg,mb,t.g,t.b,λx i e=>?_,λx i e=>?_,λx v e=>?_,λx v e=>?_,λx i e=>?_⟩
  ·refine gw (hc i (zc.mp e).1 ..) ?_;have:=PySem.W.mg_of kx t.g (k.cls i x e);replace this:=(zp ..)▸this;exact this
  ·rw [hf];have:=k.fns i x e;rw [zp] at this;exact ⟨PySem.W.mg_of kx t.g this.1,this.2⟩
  ·obtain ⟨h1,h2⟩:=a7e _ e;exact ⟨PySem.W.mg_none_of kx t.g (k.bi _ e),(t.builtins x h1).trans h2⟩
  ·obtain ⟨u,h1,h2⟩:=k.con _ e;exact ⟨u,PySem.W.mg_of kx t.g h1,λh Y=>h2 X h Y⟩
  ·refine gw (ho i (zc.mp e).1 ..) ?_;have:=k.own i x e;replace this:=(zp ..)▸this;exact ⟨PySem.W.mg_of kx t.g this.1,this.2⟩
structure XK(K:Frag)(cas:List Pd)(n c:Nat):Prop where
 k:∀c'∈zs n,PySem.W.mroIn K (cas.getD c 0) (.ref (cas.getD c' 0))=some (oQ c c')
noncomputable def kX(K:Frag)(cas:List Pd)(n c:Nat):Ok (XK K cas n c):=(sA (λc'=>.dec (PySem.W.mroIn K (cas.getD c 0) (.ref (cas.getD c' 0))=some (oQ c c')) id) (zs n)).map λh=>⟨h⟩
structure XObj(h:Pe)(C:Pd)(x:XD):Prop where
 obj:h.get? C=some (x.obj C)
 ns:h.Ns x.N x.mN
 ini:x.mN "__init__"=none
 tail:OwnTailQ h bmV x.bm
theorem XObj.keeps{h h':Pe}{C:Pd}{x:XD}(z:XObj h C x)(k:∀b o,h.get? b=some o->h'.get? b=some o):XObj h' C x:=⟨k _ _ z.obj,z.ns.keeps k,z.ini,z.tail.keeps k⟩
noncomputable def aGc(h:Pe)(top:Str)(x:Str)(chain:List Str)(C:Pd):Ok (∃x,XObj h C x):=
 .iff (h.nsMap Uj x=some (.ref C)/\h.ownExcOk x chain bmV "ValueError.__new__"=true/\h.quietOk x=true) λa=>(sA (λn=>Ok.dec (h.ownExcOk n [] bmV "ValueError.__new__"=true/\h.quietOk n=true) id) chain).map λg=>by
  obtain ⟨C',N,nm,q,bs,hdct,sn,sub,ab,col,dd,k0,k1,k2,k3,k5,hb,hC,hN,hq⟩:=Heap.ownExcQ_of_ok a.2.1 a.2.2;replace hb:=(a.1 ..)▸hb;cases hb;exact ⟨⟨_,N,nm,q,bs,hdct,sn,sub,ab,col,dd,k0,k1,k2,k3,k5,_⟩,hC,hN,hq _ (.head _),.of_chain chain λn hn=>⟨⟨_,_,_,(g n hn).1⟩,(g n hn).2⟩⟩
structure XsK(h:Pe)(K:Frag)(cas:List Pd)(n:Nat):Prop where
 pos:gI<n
 x8:X8 K cas (cas.getD gI 0) n
 x:∀c∈zs n,XK K cas n c/\∃x,XObj h (cas.getD c 0) x
noncomputable def a8l(cls:List Str)(c:Nat):List Str:=if c=0 then [] else [cls.getD 0 ""]
noncomputable def kX8(K:Frag)(cas:List Pd)(C:Pd)(n:Nat):Ok (X8 K cas C n):=
 (Ok.dec ((PySem.W.findIn K (.ref C) "__getattribute__"=some (some (.builtin "BaseException.__getattribute__"))/\PySem.W.findIn K (.ref C) "__getattr__"=some none/\PySem.W.mroIn K C (.type "BaseException")=some true/\(PySem.W.clsIn K C).isSome=true)/\PySem.W.findIn K (.ref C) "__class__"=some (some (.builtin "object.__class__")) /\
  PySem.W.specialIn K (.builtin "object.__class__") "__get__"=some (some (.builtin "getset_descriptor.__get__"))/\PySem.W.takesIn K (.builtin "object.__class__")=some true/\PySem.W.mroIn K C (.type "object")=some true/\PySem.W.kitOne K (.ref C) (.type "ValueError")=some true) id).and
  (sA (λc'=>.dec (PySem.W.kitOne K (.ref C) (.ref (cas.getD c' 0))=some (oQ gI c')) id) (zs n)) λh1 h2=>⟨h1.1.1,h1.1.2.1,h1.1.2.2.1,h1.1.2.2.2,h1.2.1,h1.2.2.1,h1.2.2.2.1,h1.2.2.2.2.1,h2,h1.2.2.2.2.2⟩
noncomputable def kXs(h:Pe)(K:Frag)(cls:List Str)(cas:List Pd):Ok (XsK h K cas cls.length):=
 ((Ok.dec (gI<cls.length) id).and (kX8 K cas (cas.getD gI 0) cls.length) And.intro).and (sA (λc=>(kX K cas cls.length c).and (aGc h (cls.getD 0 "") (cls.getD c "") (a8l cls c) (cas.getD c 0)) And.intro) (zs cls.length)) λh1 h2=>⟨h1.1,h1.2,h2⟩
noncomputable def ixc(n c:Nat):Nat:=if c<n then c else 0
theorem a2w{n:Nat}(h:0<n)(c:Nat):ixc n c<n:=by unfold ixc;split;assumption;exact h
theorem aEf{n c c':Nat}(h:c'<n):oQ c c'=oQ (ixc n c) c':=by
 unfold ixc;refine ic ite_ (λz=>?_) λq=>?_
 ·rfl
 ·unfold oQ;have:(c == c')=false:=beq_eq_false_iff_ne.mpr (by (first | lia | omega));refine gw (this ..) (gw (Bool.false_or ..) ?_);cases c' with
  | zero=>rfl
  | succ k=>rfl
section
variable{X:W}{G:GT}{cas:List Pd}
theorem aGs{h:Pe}(x:XsK h X.K cas G.cls.length)(kx:X.K.In X.h₀)(k:∀b o,h.get? b=some o->X.h₀.get? b=some o)(hc:∀i,X.ca i=cas.getD (ixc G.cls.length i) 0):SLeaf X G oQ where
 one:=λk h=>by
  unfold oQ;exact gw (show (k == 0)=false from beq_eq_false_iff_ne.mpr h) (gw (zbp ..) ((za7 _ _).trans (decide_eq_decide.mpr eq_comm)))
 isi:=λ{A s a oe vs Q E} c' h' kin he hx hd hq=>by
  have e1:∀i,i<G.cls.length->X.ca i=cas.getD i 0:=λi hi=>(hc i).trans (Uf (cas.getD · 0) (Ua hi));rw [e1 _ h'];rw [e1 _ x.pos] at hx;exact x.x8.isi kin he hx hd (x.x8.k c' (xw.mpr h')) hq
 isv:=λ{A s a oe vs Q E} kin he hx hd hq=>by
  rw [hc,show ixc G.cls.length gI=gI from Ua x.pos] at hx;exact x.x8.isi kin he hx hd x.x8.v hq
 cls:=λc=>by
  have hk:=a2w (Nat.zero_lt_of_lt x.pos) c;obtain ⟨y,z,hz⟩:=x.x _ (xw.mpr hk);replace hz:=hz.keeps k;rw [←hc] at hz;have h1:=hz.obj;refine ⟨z,⟨h1,hz.ns,hz.ini,hz.tail.tail⟩,λc' h'=>?_⟩;have e:=y.k c' (xw.mpr h');rw [←hc,←aEf h'] at e;have e2:cas.getD c' 0=X.ca c':=by rw [hc,show ixc G.cls.length c'=c' from Ua h']
  replace e:=e2▸e;obtain ⟨cd,a1,a2⟩:=vj.mp e;obtain ⟨o,ho,hd⟩:=mD a1
  ·have:=kx _ _ ho;replace this:=h1▸this;cases this;cases hd;split at a2
   ·cases a2
   ·exact (Option.some.inj a2).symm
end
open PySem.W
noncomputable def fragOf(h:Pe):Frag:=(zs h.objs.size).filterMap λa=>(h.get? a).map λo=>(a,o)
theorem vI{l:Frag}{a:Pd}{o:Obj}(e:l.lookup a=some o):(a,o)∈l:=jY e
theorem z8(h:Pe):(fragOf h).In h:=by intro a o e;obtain ⟨b,_,e1⟩:=jh.mp (vI e);obtain ⟨x,e2,e3⟩:=zk.mp e1;cases e3;exact e2
noncomputable def globRef(K:Frag)(x:Str):Pd:=match nsIn K Uj x with
 | some (some (.ref a))=>a
 | _=>0
noncomputable def methRef(K:Frag)(p:Str×Str):Pd:=match clsIn K (globRef K p.1) with
 | some cd=>match nsIn K cd.ns p.2 with
  | some (some (.ref a))=>a
  | _=>0
 | .none=>0
structure Said(G:GT)(T:Tab)(more:Frag->List Pd->List Pd->Bool)(K:Frag)(fns cas cos:List Pd)(h:Pe):Prop where
 kx:K.In h
 nm:NmK K G fns cas cos
 fn:∀i fn,T.fns[i]?=some fn->∀h:Pe,K.In h->aHe h G (fns.getD (0+i) 0) fn
 xs:XsK h K cas G.cls.length
 mo:more K fns cos=true
noncomputable def aAq(G:GT)(T:Tab)(more:Frag->List Pd->List Pd->Bool)(h:Pe)(K:Frag)(fns cas cos:List Pd):Ok (K.In h->Said G T more K fns cas cos h):=
 ((kNm K G fns cas cos).and (kXs h K G.cls cas) And.intro).and ((kAll (λi fn=>kFnAt K G fn (fns.getD i 0)) T.fns 0).and (Ok.dec (more K fns cos=true) id) And.intro) λa b kx=>⟨kx,a.1,b.1,a.2,b.2⟩
noncomputable def lookAt(G:GT)(T:Tab)(ms:List (Str×Str))(more:Frag->List Pd->List Pd->Bool)(h:Pe)(K:Frag):Bool:=
 (aAq G T more h K (G.fns.map (globRef K)++ms.map (methRef K)) (G.cls.map (globRef K)) (G.own.map (globRef K))).b
noncomputable def Says(G:GT)(T:Tab)(more:Frag->List Pd->List Pd->Bool)(h:Pe):Prop:=∃K fns cas cos,Said G T more K fns cas cos h
theorem says_of{G:GT}{T:Tab}{ms:List (Str×Str)}{more:Frag->List Pd->List Pd->Bool}{h:Pe}(e:lookAt G T ms more h (fragOf h)=true):Says G T more h:=
 ⟨_,_,_,_,(aAq G T more h (fragOf h) _ _ _).h e (z8 h)⟩
theorem Says.keeps{G:GT}{T:Tab}{more:Frag->List Pd->List Pd->Bool}{h h':Pe}(x:Says G T more h)(k:∀b o,h.get? b=some o->h'.get? b=some o):Says G T more h':=by refine ex3 (x) λK fns cas q_h=>?_;obtain ⟨cos,s⟩:=q_h;exact ⟨K,fns,cas,cos,s.kx.keeps k,s.nm,s.fn,⟨s.xs.pos,s.xs.x8,λc hc=>⟨(s.xs.x c hc).1,(s.xs.x c hc).2.imp λy z=>z.keeps k⟩⟩,s.mo⟩
theorem run_uni{prog p : Program}{w : World}{G : GT}{T : Tab}{more : Frag -> List Pd -> List Pd -> Bool}{K : Frag}{fns cas cos : List Pd}{loose : List Str}{mg mb : Str -> Option Pa}{s : Pb}{scr : Pd}{vs : List Pa}{ns : List Int}(S : Said G T more K fns cas cos s.heap)(t : TopRead p loose mg mb s.heap)(hg : s.gens = #[])(L : s.heap.IsList scr vs.toArray)(hi : IntsAre vs ns)(hn : ns.length <= 63)(hsub : T.sub = oQ){law : Nat}{lx : Str}(hx : G.fns[law]? = some lx){fa : Pd}(hlaw : mg lx = some (.ref fa)){n : Nat}(hn12 : n <= 14){Z : H}(hown : ∀X : W, X.K = K -> X.h₀ = s.heap -> (∀i, X.fa i = fns.getD i 0) -> (∀i, X.co i = cos.getD (ixc G.own.length i) 0) -> Nm X G -> Own1 X G T)(hrun : (callsOf ns T n).call law [.scr] [] = .ok (.bool true) Z):
    Un (model prog w) callerA (ya (.ref fa) [.ref scr]) (λv s' => v = .bool true /\ (∀b o, s.heap.get? b = some o -> s'.heap.get? b = some o) /\ s'.os = s.os /\ s'.gens = #[]) (λz z => False) s := by
  let X : W := ⟨prog, w, s.heap, scr, ns, λi => cas.getD (ixc G.cls.length i) 0, λi => cos.getD (ixc G.own.length i) 0, λi => fns.getD i 0, K, λz => none⟩;have wd : ∀b, Wd (X.wb b) G T := λb => by
    have nm : Nm (X.wb b) G := aGn (X := X.wb b) S.nm S.kx t (λz => rfl) (λi h => by show cas.getD (ixc _ i) 0 = _; exact gw (show ixc G.cls.length i = i from Ua h) rfl) λi h => by show cos.getD (ixc _ i) 0 = _; exact gw (show ixc G.own.length i = i from Ua h) rfl
    exact {
      nm := nm
      fns := λi fn e => by have := S.fn i fn e s.heap S.kx; replace this := (zp ..) ▸ this; exact this
      lim := t.nolimit
      sl := gw (hsub ..) (aGs (X := X.wb b) S.xs S.kx (λz z e => e) λz => rfl)
      own := hown (X.wb b) rfl rfl (λz => rfl) (λz => rfl) nm }
  have hfa : X.fa law = fa := by
    have := S.nm.fns law lx hx;replace this := (zp ..) ▸ this;have := mg_of S.kx t.g this.1;replace this := (hlaw ..) ▸ this;cases this; rfl
  have hlow : sysModules<s.heap.objs.size := by
    have e : ∃o, K.lookup Uj = some o := by
      have h6 := S.nm.bi ("len", .builtin "len") (by decide +kernel);unfold nsIn at h6;cases ho : K.lookup Uj with
      | none => replace h6 := ho ▸ h6; cases h6
      | some o => exact ⟨o, rfl⟩
    obtain ⟨o, e⟩ := e;exact ke (by decide +kernel) (yc (S.kx _ _ e))
  have c : Cn (X.wb X.fz) callerA n true s [] [] := {
    rm := { depth := by show 1+claimMargin+4*n+4<recursionLimit; simp only [claimMargin, recursionLimit]; (first | lia | omega)
            units := by show 4+40*n+40<cLine; simp only [cLine]; (first | lia | omega)
            handled := λz => rfl
            nb := by intro h; cases h }
    hr := ⟨rfl, .nil, (λz h => by cases h), (λi o a e => by cases e), λi a e => by cases e⟩
    base := ⟨λz z e => e, zf _, hlow⟩
    fs := ⟨[], rfl, λz h => by cases h⟩
    scr := ⟨vs, L, hi, gw (hi.length ..) (za hn (by decide))⟩
    fz := λa h => Ue rfl h }
  subst hfa;refine (aFo (X := X) wd n X.fz).call law [.scr] [.ref scr] callerA s [] [] c (.cons .scr .nil) (by refine gw (show (callsOf X.ns T n).call law [.scr] [] = _ from hrun) ?_; intro q; cases q) _ _ (λa Z' b s' Y' e S r => ?_) λc Z' e s' Y' q => by replace q := (show (callsOf X.ns T n).call law [.scr] [] = _ from hrun) ▸ q; cases q
  · replace e := (show (callsOf X.ns T n).call law [.scr] [] = _ from hrun) ▸ e
    cases e;cases r;exact ⟨rfl, S.base.keep, S.os, S.gens.trans hg⟩
noncomputable def sR(f:Thread->Bool)(g:SharedT->Thread->Option (SharedT×Thread))(n:Nat):SharedT->Thread->Option SharedT:=
 Nat.rec (λz z=>none) (λz ih s t=>match through t with
  | true=>some s
  | false=>match f t with
   | false=>none
   | true=>match g s t with
    | some (s',t')=>ih s' t'
    | none=>none) n
theorem a0d{tb:String->Option Builtin}{p:Program}{w:World}{n₀:Nat}{ann:Option Pa}{n:Nat}{s s':SharedT}{t:Thread}(h:sR (stepOk n₀ ann) (stepT (denote tb) p w) n s t=some s'):topRun tb p w n₀ ann n s.abs t=some s'.abs:=by
 induction n generalizing s t with
 | zero=>cases h
 | succ n ih=>
  unfold topRun;replace h:(match through t with | true=>_ | false=>match stepOk n₀ ann t with | false=>_ | true=>match stepT (denote tb) p w s t with | some (s',t')=>_ | none=>_)=some s':=h;cases he:through t with
  | true=>replace h:=he▸h;cases h;rfl
  | false=>
   replace h:=he▸h;cases hk:stepOk n₀ ann t with
   | false=>replace h:=hk▸h;cases h
   | true=>
    replace h:=hk▸h;cases hs:stepT (denote tb) p w s t with
    | none=>replace h:=hs▸h;cases h
    | some r=>replace h:=hs▸h;exact gw (stepT_spec hs ..) (ih h)
noncomputable def topRunQ(p:Program)(w:World)(n₀:Nat)(ann:Option Pa)(n:Nat)(s:SharedT)(t:Thread):Option SharedT:=sR (PySem.W.Fast.tw6613529449190102663 n₀ ann) (PySem.W.Fast.tw10156331382660048174 (PySem.W.Fast.tw11892475500146522536 PySem.W.Fast.tw14364793385576792824) p w) n s t
theorem wF{p:Program}{w:World}{n₀:Nat}{ann:Option Pa}(n:Nat)(s:SharedT)(t:Thread):topRunQ p w n₀ ann n s t=sR (stepOk n₀ ann) (stepT (denote treeTable) p w) n s t:=by unfold topRunQ;exact bw PySem.W.Fast.te6613529449190102663 (bw PySem.W.Fast.te10156331382660048174 (bw PySem.W.Fast.te11892475500146522536 (bw PySem.W.Fast.te14364793385576792824 rfl)))
noncomputable def aHa(P:Params):BT:=((((((((((((BT.nil).ins 0 (boot_o_0 P)).ins 1 (boot_o_1 P)).ins 2 (boot_o_2 P)).ins 3 (boot_o_3 P)).ins 4 (boot_o_4 P)).ins 5 (boot_o_5 P)).ins 6 (boot_o_6 P)).ins 7 (boot_o_7 P)).ins 8 (boot_o_8 P)).ins 9 (boot_o_9 P)).ins 10 (boot_o_10 P))
noncomputable def start0(P:Params)(os:OsState):SharedT:=⟨aHa P,11,(boot_heap P).life,za1 [],boot_drawn,boot_toks,os⟩
theorem v7(P:Params)(os:OsState):(start0 P os).abs=⟨boot_heap P,za1 [],boot_drawn,boot_toks,os⟩:=by kernel_rfl
theorem a0h(P:Params):((boot_heap P).isNs Uj&&(za1 []:Array GenState).size == 0,(boot_heap P).objs.size,(boot_heap P).nsMap Uj "__annotations__")=(true,11,some (.ref 6)):=by kernel_rfl
theorem a9q{p q:Program}{loose:List Str}{Xt:Pb->Bool}{α:Type}{Yf:Pb->α}{Ya:World->α}{N M:Nat}(e:opening p=plainProg p.main.scope.names)(hN:zat 600 N=true)(f:∀s,fenceModules? p s=some s)(le:zat M N=true)(run:∀(w:World) (os:OsState),(topRunQ p w 11 (some (.ref 6)) M (start0 w.params os) (topStub p)).map (λT=>((staticsOk (importedModules p.main.body) (boot_heap w.params) T.abs.heap&&namesBound p T.abs.heap&&gensDone T.abs&&laidKept (boot_heap w.params) T.abs.heap),
    openSeen q loose (importedModules p.main.body) Xt true T.abs))=some (true,openGood q loose))(runY:∀(w:World) (os:OsState),(topRunQ p w 11 (some (.ref 6)) M (start0 w.params os) (topStub p)).map (λT=>Yf T.abs)=some (Ya w)):LeftO p q loose Xt Yf Ya N:=λw=>by
 obtain ⟨⟨h,gs,d,k,os⟩,e,e'⟩:=zk.mp (boot_open (N:=N) e hN f w);obtain ⟨rfl,rfl,rfl,rfl⟩:h=boot_heap w.params/\gs=za1 []/\d=boot_drawn/\k=boot_toks:=by
  injection e' with a b;injection b with b c;injection c with c d;exact ⟨a,b,c,d⟩
 obtain ⟨z1,z2,z3⟩:_/\_/\_:=by
  have z:=a0h w.params;injection z with a b;injection b with b c;exact ⟨a,b,c⟩
 obtain ⟨T,hT,l⟩:=zk.mp (run w os);obtain ⟨l1,l2⟩:_/\_:=by injection l with a b;exact ⟨a,b⟩
 have l3:=runY w os;replace l3:=Option.some.inj (hT▸l3);replace hT:=(wF ..)▸hT;have r:=a0d hT;replace r:=(v7 ..)▸r;have r:=topRun_mono (N-M) _ _ _ _ r;replace r:=(show M+(N-M)=N by have:=wy le;(first | lia | omega))▸r;have t:topFrom treeTable p w N ⟨boot_heap w.params,za1 [],boot_drawn,boot_toks,os⟩=some T.abs:=by
  unfold topFrom;dsimp only;refine gw z1 (gw z2 (gw z3 (gw r ?_)));show (match staticsOk (importedModules p.main.body) (boot_heap w.params) T.abs.heap&&namesBound p T.abs.heap&&gensDone T.abs&&laidKept (boot_heap w.params) T.abs.heap with | true=>_ | false=>_)=_;exact gw l1 rfl
 unfold openEnds;refine gw e ?_;show (topFrom treeTable p w N _).map _=_;exact gw t (Uf some (Prod.ext l2 l3))
theorem kAll_app{α:Type}{P:Nat->α->Prop}(f:∀i x,Ok (P i x))(l l':List α)(k:Nat):(kAll f (l++l') k).b=((kAll f l k).b&&(kAll f l' (k+l.length)).b):=by
 induction l generalizing k with
 | nil=>exact (Bool.true_and _).symm
 | cons a l ih=>
  show ((f k a).b&&(kAll f (l++l') (k+1)).b)=(((f k a).b&&(kAll f l (k+1)).b)&&(kAll f l' (k+(l.length+1))).b);exact gw (ih ..) (gw (Bool.and_assoc ..) (gw (ji ..) rfl))
structure OK1(K:Frag)(fns:List Pd)(att:List Str)(C:Pd)(p:Nat×List (List Nat×Nat)):Prop where
 ga:findIn K (.ref C) "__getattribute__"=some (some (.builtin "object.__getattribute__"))
 gn:findIn K (.ref C) "__getattr__"=some none
 sa:findIn K (.ref C) "__setattr__"=some (some (.builtin "object.__setattr__"))
 mks:makesIn K C=true
 ini:findIn K (.ref C) "__init__"=some (some (.ref (fns.getD p.1 0)))
 inf:typeIn K (.ref (fns.getD p.1 0))=some (.type "function")
 ov:plainOver K C=true
 hd:(clsIn K C).any (·.hasDict)=true
 att:∀nm∈att,findIn K (.ref C) nm=some none
 me:∀q∈p.2,findIn K (.ref C) ⟨q.1.toArray⟩=some (some (.ref (fns.getD q.2 0)))/\typeIn K (.ref (fns.getD q.2 0))=some (.type "function")/\keepIn K (.ref (fns.getD q.2 0))=true
noncomputable def aBf(K:Frag)(fns:List Pd)(att:List Str)(C:Pd)(p:Nat×List (List Nat×Nat)):Ok (OK1 K fns att C p):=
 .iff ((findIn K (.ref C) "__getattribute__"=some (some (.builtin "object.__getattribute__"))/\findIn K (.ref C) "__getattr__"=some none/\findIn K (.ref C) "__setattr__"=some (some (.builtin "object.__setattr__"))/\makesIn K C=true) /\
  findIn K (.ref C) "__init__"=some (some (.ref (fns.getD p.1 0)))/\typeIn K (.ref (fns.getD p.1 0))=some (.type "function")/\plainOver K C=true/\(clsIn K C).any (·.hasDict)=true) λh=>
  (sA (λnm=>.dec (findIn K (.ref C) nm=some none) id) att).and (sA (λq=>.dec (findIn K (.ref C) ⟨q.1.toArray⟩=some (some (.ref (fns.getD q.2 0)))/\typeIn K (.ref (fns.getD q.2 0))=some (.type "function")/\keepIn K (.ref (fns.getD q.2 0))=true) id) p.2)
   λh1 h2=>⟨h.1.1,h.1.2.1,h.1.2.2.1,h.1.2.2.2,h.2.1,h.2.2.1,h.2.2.2.1,h.2.2.2.2,h1,h2⟩
noncomputable def kOwn(att:List Str)(cls:List (Nat×List (List Nat×Nat)))(K:Frag)(fns cos:List Pd):Bool:=(kAll (λi p=>aBf K fns att (cos.getD i 0) p) cls 0).b
theorem yM{att:List Str}{cls:List (Nat×List (List Nat×Nat))}{K:Frag}{fns cos:List Pd}(h:kOwn att cls K fns cos=true){i:Nat}{p:Nat×List (List Nat×Nat)}(e:cls[i]?=some p):OK1 K fns att (cos.getD i 0) p:=by have:=(kAll (λi p=>aBf K fns att (cos.getD i 0) p) cls 0).h h i p e;replace this:=(zp ..)▸this;exact this
section
variable{X:W}{A:Pf}{d:Nat}{s:Pb}{Y:List Pd}{Z:H}{G:GT}{T:Tab}{fns:List Pd}
theorem tX(nm:Str)(v:Pa):v.isStr nm=(strKind X.prog X.w).is nm v:=((strKind X.prog X.w).strs nm nm 0 v (strKind_is X.prog X.w nm 0)).symm
theorem uZ{h:Pe}{δ:Pd}{l:List (Str×Pa)}(D:h.DictOf (strKind X.prog X.w) δ l)(nm:Str):∃o,h.get? δ=some o/\lookIn nm o=some (valueAt l nm):=by
 refine ex3 (D) λo es ep q_h=>?_;refine an6 q_h λho hc hdat hk hp hn=>?_;refine ⟨o,ho,?_⟩;unfold lookIn;refine gw (hdat ..) ?_;dsimp only;have e:(λx:DictEntry=>x.key.isStr nm)=λx=>(strKind X.prog X.w).is nm x.key:=funext λx=>tX nm x.key;refine gw e (bw (hp.find nm ..) ?_);cases hf:es.toList.find? (λx=>(strKind X.prog X.w).is nm x.key) with
 | some en=>rfl
 | none=>
  dsimp only;have:es.toList.any (·.refKey)=false:=zao.mpr λx hx q=>by
   obtain ⟨k,h1,_⟩:=hk x (zbk.mp hx);obtain ⟨t,ht⟩:=Value.isStrOf_shape h1;unfold DictEntry.refKey at q;replace q:=ht▸q;cases q
  exact gw (this ..) rfl
theorem sW{a δ:Pd}{c:Nat}{sl:Array (Option Pa)}{o:Obj}(e:s.heap.get? a=some ⟨.ref (X.co c),some δ,.plain,sl⟩)(ho:s.heap.get? δ=some o):InstAt s.heap a ⟨.ref (X.co c),some δ,.plain,sl⟩ (X.co c) (some o):=⟨e,rfl,rfl,ho⟩
theorem yC{α:Type}{p:α->Bool}{x:Option α}(e:x.any p=true):∃a,x=some a/\p a=true:=by cases x with | none=>cases e | some a=>exact ⟨a,rfl,e⟩
set_option tactic.hygienic true in
theorem z6(nm':Nm X G)(hf:∀k p,T.cls[k]?=some p->OK1 X.K fns G.att (X.co k) p)(hfa:∀i,X.fa i=fns.getD i 0)(x:V)(u:Pa)(nm:Str)(pl:Sem Bool)(c:Cn X A d true s Y Z)(r:VR X s.heap Y x u):
  Sm X (Wp X A (getMethod u nm pl)) (aJ T x (aC nm) Z) (λz z i p=>p=(.ref (X.fa i),[u])/\PySem.W.keepIn X.K (.ref (X.fa i))=true) s Y:=by
 cases r <;> first | exact Sm.stuck | skip
 rename_i k dd a δ sl e hm;refine sV c hm λkvs l D rr hz=>?_;obtain ⟨o,h1,h2⟩:=uZ D nm;rcases rr.get nm with ⟨q1,q2⟩ | ⟨v,u,q1,_⟩
 ·refine gw q1 ?_;refine cM λi hi=>?_;obtain ⟨p,hp,hl⟩:=vj.mp hi;have YY:=hf k p hp;obtain ⟨y1,y2,y3⟩:=YY.me _ (jY hl);rw [←hfa] at y1 y2 y3;replace h2:=q2▸h2;refine Sm.ok λQ E hQ=>method_fn (c.kin nm') (sW e h1) YY.ga YY.gn (show findIn X.K (.ref (X.co k)) nm=_ from y1) y2 (by show (lookIn nm o).map _=_;exact gw h2 rfl) (hQ _ _ _ (Step.refl c.hr c.base) ⟨rfl,y3⟩)
 ·exact gw q1 Sm.stuck
set_option tactic.hygienic true in
theorem a6e(nm':Nm X G)(hf:∀k,∃p,OK1 X.K fns G.att (X.co k) p)(x:V)(u:Pa)(nm:Str)(ha:nm∈G.att)(c:Cn X A d true s Y Z)(r:VR X s.heap Y x u):
  Sm X (Wp X A (getAttr u nm true)) (eY x (aC nm) Z) (Rl X) s Y:=by
 cases r <;> first | exact Sm.stuck | skip
 rename_i k dd a δ sl e hm;obtain ⟨p,YY⟩:=hf k;refine sV c hm λkvs l D rr hz=>?_;obtain ⟨o,h1,h2⟩:=uZ D nm;refine cM λv hv=>?_;rcases rr.get nm with ⟨q1,q2⟩ | ⟨v',u',q1,q2,q3⟩
 ·replace hv:=q1▸hv;cases hv
 ·replace hv:=q1▸hv;cases hv;replace h2:=q2▸h2;obtain ⟨cd,z1,z2⟩:=yC YY.hd;have hfo:findObj X.K (X.co k) (some o) nm=some (.value u'):=by
   unfold findObj;refine gw z1 (gw (wh ..) (gw (YY.att nm ha ..) (gw (wh ..) (gw (wh ..) (gw (wh ..) ?_)))));dsimp only;unfold PySem.W.ownOf;refine gw (Ua z2 ..) ?_;dsimp only;exact gw h2 rfl
  refine Sm.ok λQ E hQ=>get_value (c.kin nm') (sW e h1) YY.ga hfo (by cases q3 <;> rfl) (hQ _ _ _ (c.same _) (((c.same (s.toks+1)).vr c.hr q3)))
theorem a8t{δ:Pd}{l:List (Str×Pa)}{o:Obj}{es:Array DictEntry}{ep:Nat}{nm:Str}{t:Tok}{v:Pa}{h:Pe}(ho:h.get? δ=some o)(hc:o.ExactDict)(hdat:o.data=.dict es ep)(hk:KeysOf (strKind X.prog X.w) es)(hp:Pairs (strKind X.prog X.w) es.toList l)(hn:(l.map (·.1)).Nodup):
  ∃o' es' n,(h.update δ (Obj.putName nm (hashStr X.w nm) (.str nm t) v)).get? δ=some o'/\o'.data=.dict es' n/\es'.size<=es.size+1/\(h.update δ (Obj.putName nm (hashStr X.w nm) (.str nm t) v)).DictOf (strKind X.prog X.w) δ (stored l nm v):=by
 obtain ⟨c,dd,dt,sl⟩:=o;have hdat:dt=.dict es ep:=hdat;subst hdat;have e:(λx:DictEntry=>x.key.isStr nm)=λx=>(strKind X.prog X.w).is nm x.key:=funext λx=>tX nm x.key;have hidx:(es.findIdx? λx=>(strKind X.prog X.w).is nm x.key)=l.findIdx? λkv=>decide (kv.1=nm):=by
  rw [←hp.findIdx nm];obtain ⟨q⟩:=es;simp
 cases hi:es.findIdx? (λx=>x.key.isStr nm) with
 | some i=>
  have hput:Obj.putName nm (hashStr X.w nm) (.str nm t) v ⟨c,dd,.dict es ep,sl⟩=⟨c,dd,.dict (es.modify i λx=>{ x with val:=v }) ep,sl⟩:=by simp only [Obj.putName_eq,Obj.putNameByArray,hi]
  have hg:(h.update δ (Obj.putName nm (hashStr X.w nm) (.str nm t) v)).get? δ=some ⟨c,dd,.dict (es.modify i λx=>{ x with val:=v }) ep,sl⟩:=by
   exact gw (vo _ ho (by rw [hput];rfl) ..) (gw (hput ..) rfl)
  replace hi:=e▸hi;refine ⟨_,_,_,hg,rfl,gw (Array.size_modify ..) (yi _),_,_,_,hg,⟨hc.1,hc.2.1,hc.2.2⟩,rfl,hk.modify _ _,?_,?_⟩
  ·rw [stored,Ua (any_of_findIdx_some (hidx▸hi))];have hl:(es.toList.findIdx? λx=>(strKind X.prog X.w).is nm x.key)=some i:=by refine bw hi ?_;obtain ⟨q⟩:=es;simp
   have:=hp.modify hn hl v;obtain ⟨q⟩:=es;simpa using this
  ·rw [stored,Ua (any_of_findIdx_some (hidx▸hi)),keys_map_store];exact hn
 | none=>
  have hput:Obj.putName nm (hashStr X.w nm) (.str nm t) v ⟨c,dd,.dict es ep,sl⟩=⟨c,dd,.dict (es.push ⟨hashStr X.w nm,.str nm t,v⟩) (ep+1),sl⟩:=by simp only [Obj.putName_eq,Obj.putNameByArray,hi]
  have hg:(h.update δ (Obj.putName nm (hashStr X.w nm) (.str nm t) v)).get? δ=some ⟨c,dd,.dict (es.push ⟨hashStr X.w nm,.str nm t,v⟩) (ep+1),sl⟩:=by
   exact gw (vo _ ho (by rw [hput];rfl) ..) (gw (hput ..) rfl)
  replace hi:=e▸hi;have hnot:nm∉l.map (·.1):=not_mem_of_findIdx_none (hidx▸hi);have hany:¬(l.any λkv=>decide (kv.1=nm))=true:=by
   rw [wu];rintro ⟨kv,hkv,he⟩;exact hnot (vu.mpr ⟨kv,hkv,of_decide_eq_true he⟩)
  refine ⟨_,_,_,hg,rfl,gw (Array.size_push ..) (zf _),_,_,_,hg,⟨hc.1,hc.2.1,hc.2.2⟩,rfl,hk.push (strKind_is X.prog X.w nm t) _,?_,?_⟩
  ·rw [stored,Ub hany];have:=hp.append (strKind_is X.prog X.w nm t) (hashStr X.w nm) v;obtain ⟨q⟩:=es;simpa using this
  ·rw [stored,Ub hany,xc,wv];refine ⟨hn,by simp,?_⟩;intro a ha b hb;simp only [wx,List.map_nil,ze] at hb;subst hb;exact λe=>hnot (e▸ha)
set_option tactic.hygienic true in
theorem a2a(nm':Nm X G)(hf:∀k,∃p,OK1 X.K fns G.att (X.co k) p)(x v:V)(u w:Pa)(nm:Str)(ha:nm∈G.att)(hnl:nm.length<=4096)(c:Cn X A d true s Y Z)(r:VR X s.heap Y x u)(r':VR X s.heap Y v w):
  Sm X (Wp X A (setAttr u nm w)) (iT x (aC nm) v Z) (λz z z z=>True) s Y:=by
 cases r <;> first | exact Sm.stuck | skip
 rename_i k dd a δ sl e hm;obtain ⟨p,YY⟩:=hf k;refine tE c hm λkvs l ho D rr hz=>?_;refine yV c hm ho D (rr.put (iW D) nm (za hnl (by decide)) r') λQ E hQ=>?_;refine ex3 (D) λo es ep q_h=>?_;refine an6 q_h λh1 hc hdat hk hp hn=>?_;obtain ⟨cd,z1,z2⟩:=yC YY.hd;have I:=sW e h1;have ht:takerIn X.K (X.co k) nm=some none:=by unfold takerIn;exact gw (YY.att nm ha ..) rfl
 refine PySem.W.set_plain (c.kin nm') I YY.sa (osa_open (s:={ s with toks:=s.toks+1 }) (c.kin nm') I YY.ov ht λb=>?_);refine Ug (Uh (Ug (Ug (wpAny_loadPart e (Ug ((looks_clsIn (c.kin nm') z1).here (s:={ s with toks:=s.toks+1 }) ?_))))));refine gw z2 ?_;refine Uh (a:=some δ) (Ug (Uh (Ug ?_)));unfold nsSet;refine Ug (Ug (wpAny_askSetting (Uh (Ug (wpAny_mkText (Ug (wpAny_loadPart h1 ?_)))))));refine gw (hdat ..) ?_;dsimp only;have hany:es.any (·.refKey)=false:=by
  rw [Array.any_eq_false'];intro x hx q;obtain ⟨k',h1,_⟩:=hk x hx;obtain ⟨t,ht⟩:=Value.isStrOf_shape h1;unfold DictEntry.refKey at q;replace q:=ht▸q;cases q
 refine gw (aRefKeyMayBeTheName_at ..) (gw (hany ..) (gw (Bool.and_false ..) ?_));refine ex3 (a8t (nm:=nm) (t:=s.toks+1) (v:=w) h1 hc hdat hk hp hn) λo' es' n q_h=>?_;refine an4 q_h λg1 g2 g3 g4=>?_;refine wpAny_updatePart h1 ?_;have hes:es.size=l.length:=bw (yu ..) hp.length;exact Ug (wpAny_lookBehind g1 (gw g2 (pastItsLine_dict (by have:lim=sizeLine:=rfl;(first | lia | omega)))) (Uh (hQ _ _ g4 (Heap.SameBut.update ..))))
theorem xD(A:Pf)(C:Pd)(us:List Pa):A.under (.builtin "type.__call__" ⟨.ref C::us,[]⟩)=upA A 1:=by
 have h1:(Code.builtin "type.__call__" ⟨.ref C::us,[]⟩).weight=1:=by kernel_rfl
 have h2:(Code.builtin "type.__call__" ⟨.ref C::us,[]⟩).cUnits=1:=by kernel_rfl
 have h3:(Code.builtin "type.__call__" ⟨.ref C::us,[]⟩).envs=[]:=by kernel_rfl
 have h4:(Code.builtin "type.__call__" ⟨.ref C::us,[]⟩).guards=[]:=by kernel_rfl
 unfold Around.under upA;rw [h1,h2,h3,h4];obtain ⟨a,b,c,d,e⟩:=A;cases c <;> cases d <;> rfl
theorem a4c(nm':Nm X G)(hf:∀k p,T.cls[k]?=some p->OK1 X.K fns G.att (X.co k) p)(hfa:∀i,X.fa i=fns.getD i 0)(k:Nat)(p:Nat×List (List Nat×Nat))(hp:T.cls[k]?=some p)(f:List V->M V)(d:Nat)(hF:∀(vs:List V) (us:List Pa) (A:Pf) (s:Pb) (Y:List Pd) (Z:H),Cn X A (d+1) true s Y Z->VRs X s.heap Y vs us->Sm X (Pc X (upA A 1) (.ref (X.fa p.1)) us) (f vs Z) (Rl X) s Y)(vs:List V)(us:List Pa)(A:Pf)(s:Pb)(Y:List Pd)(Z:H)(c:Cn X A (d+1) true s Y Z)(r:VRs X s.heap Y vs us):
  Sm X (Wp X A (ya (.ref (X.co k)) us)) ((f (.inst k Z.length::vs)).bnd (oU k Z.length) (Z++[.dict []])) (Rl X) s Y:=by
 have YY:=hf k p hp;have S1:=Step.alloc (X:=X) (o:={ cls:=.type "dict",data:=.dict #[] }) (x:=.dict []) c s.toks pZ;have c1:=c.step S1;have S2:=Step.push c1 (instObj (X.co k) s.heap.objs.size) s.toks;have S12:=S1.trans S2;have c2:=c.step S12;have rI:VR X ((s.heap.push emptyDict).push (instObj (X.co k) s.heap.objs.size)) (Y++[s.heap.objs.size]) (.inst k Z.length) (.ref (s.heap.objs.size+1)):=
  .inst (sl:=#[]) (by have:=yn (s.heap.push emptyDict) (o:=instObj (X.co k) s.heap.objs.size) rfl;rw [wk] at this;exact this) (c.newRef _)
 have z:=hF (.inst k Z.length::vs) (.ref (s.heap.objs.size+1)::us) A _ _ _ c2 (.cons rI (S12.vrs c.hr r));intro hne Q E hQ hE;have hi:=YY.ini;rw [←hfa] at hi;have ht:=YY.inf;rw [←hfa] at ht;obtain ⟨hh,gg,dr,t,os⟩:=s;refine wpAny_call (make_core (makes_of (c.kin nm') YY.mks) (looks_findIn (c.kin nm') hi) (λself=>bind_fn (c.kin nm') self ht) (.inl rfl) ?_);refine gw (xD ..) ?_;refine codeAny_mono (z (λq=>hne (eJ q)) (λv s'=>v=.none/\Q (.ref (hh.objs.size+1)) s') E (λa Z' b s' Y' e S' r'=>?_) λcc Z' y s' Y' e S' x'=>hE cc Z' y s' Y' (nZ e) (S12.trans S') (x'.le S12.pers)) λrr s' h=>?_
 ·rw [gA e] at hne hQ;cases r' <;> first | exact Ue rfl hne | skip
  exact ⟨rfl,hQ _ Z' _ s' Y' rfl (S12.trans S') (S'.vr c2.hr rI)⟩
 ·rcases rr with y | (v | _ | _ | _) <;> first | exact h | exact h.elim
theorem own_of{K:Frag}{h:Pe}{cas cos:List Pd}(nm':Nm X G)(S:Said G T (kOwn G.att T.cls) K fns cas cos h)(hK:X.K=K)(hfa:∀i,X.fa i=fns.getD i 0)(hco:∀i,X.co i=cos.getD (ixc G.own.length i) 0)(hl:G.own.length=T.cls.length)(h0:0<G.own.length):Own1 X G T:=by
 subst hK;have h1:∀k p,T.cls[k]?=some p->OK1 X.K fns G.att (X.co k) p:=λk p e=>by
  have:k<G.own.length:=gw hl ((zc.mp e).1);rw [hco,show ixc G.own.length k=k from Ua this];exact yM S.mo e
 have h2:∀k,∃p,OK1 X.K fns G.att (X.co k) p:=λk=>by
  have lt:=a2w h0 k;rw [hco];exact ⟨_,yM S.mo (zg (by rw [←hl];exact lt))⟩
 exact ⟨λx u nm pl A d s Y Z c r=>z6 nm' h1 hfa x u nm pl c r,λx u nm A d s Y Z ha c r=>a6e nm' h2 x u nm ha c r,λx v u w nm A d s Y Z ha hl c r r'=>a2a nm' h2 x v u w nm ha hl c r r',λk p hp f d hF vs us A s Y Z c r=>a4c nm' h1 hfa k p hp f d hF vs us A s Y Z c r⟩
end
end Mine.Internal
open PySem PySem.W PyProof.Rows
namespace Mine.Internal.L11
noncomputable def q:Program:=view PySem.Challenge.pw_uf030017_11 [62]
noncomputable def aFt:List (Str×V):=[("SIGNS",.str Nb),("MOST_SIGNS",.int 12),("GREATEST",.int 1000000000000000000000000000000)]
noncomputable def attN:List Str:=["start","state","kept_at","written","said","seen","heads","stock","dealings","row"]
noncomputable def G:GT:=⟨fnN,exN,aFt,attN,owN⟩
noncomputable def T:Tab:=⟨fs,cls,oQ⟩
noncomputable def loose:List Str:=fnN.dropLast++exN++owN++aFt.map (·.1)
noncomputable def seenAt(s:Pb):Bool:=lookAt G T meN (kOwn attN cls) s.heap (fragOf s.heap)
noncomputable abbrev fnA(K:Frag):List Pd:=G.fns.map (Mine.Internal.globRef K)++meN.map (Mine.Internal.methRef K)
noncomputable abbrev caA(K:Frag):List Pd:=G.cls.map (Mine.Internal.globRef K)
noncomputable abbrev coA(K:Frag):List Pd:=G.own.map (Mine.Internal.globRef K)
noncomputable abbrev Ru(f:Pe->Frag->Bool):Prop:=∀(w:World) (os:OsState),(Mine.Internal.topRunQ PySem.Challenge.pw_uf030017_11 w 11 (some (.ref 6)) 12000 (Mine.Internal.start0 w.params os) (topStub PySem.Challenge.pw_uf030017_11)).map (λT=>f T.abs.heap (Mine.Internal.fragOf T.abs.heap))=some true
noncomputable abbrev kF(K:Frag)(l:List Fn)(k:Nat):Bool:=(Mine.Internal.kAll (λi fn=>Mine.Internal.kFnAt K G fn ((fnA K).getD i 0)) l k).b
theorem vY(K:Frag)(l l':List Fn)(k:Nat):kF K (l++l') k=(kF K l k&&kF K l' (k+l.length)):=Mine.Internal.kAll_app _ l l' k
set_option maxHeartbeats 0 in
theorem y1:Ru λh K=>(Mine.Internal.kNm K G (fnA K) (caA K) (coA K)).b:=by intro w os;kernel_rfl
set_option maxHeartbeats 0 in
theorem y2:Ru λh K=>kF K (fs.take 28) 0:=by intro w os;kernel_rfl
set_option maxHeartbeats 0 in
theorem y3:Ru λh K=>kF K ((fs.drop 28).take 8) 28:=by intro w os;kernel_rfl
set_option maxHeartbeats 0 in
theorem y5:Ru λh K=>kF K ((fs.drop 36).take 5) 36:=by intro w os;kernel_rfl
set_option maxHeartbeats 0 in
theorem y6:Ru λh K=>kF K (fs.drop 41) 41:=by intro w os;kernel_rfl
set_option maxHeartbeats 0 in
theorem y4:Ru λh K=>(Mine.Internal.kXs h K G.cls (caA K)).b&&decide (Mine.Internal.kOwn attN cls K (fnA K) (coA K)=true):=by intro w os;kernel_rfl
theorem a1q:Ru λh K=>Mine.Internal.lookAt G T meN (Mine.Internal.kOwn attN cls) h K:=λw os=>by obtain ⟨t,e,h1⟩:=zk.mp (y1 w os);have h2:=y2 w os;have h3:=y3 w os;have h4:=y4 w os;have h5:=y5 w os;have h6:=y6 w os;rw [e] at h2 h3 h4 h5 h6 ⊢;refine Uf some ?_;show (_&&(kF (Mine.Internal.fragOf t.abs.heap) (fs.take 28++((fs.drop 28).take 8++((fs.drop 36).take 5++fs.drop 41))) 0&&_))=true;rw [vY,vY,vY];obtain ⟨x1,x2⟩:=zz.mp (Option.some.inj h4);exact zz.mpr ⟨zz.mpr ⟨h1,x1⟩,zz.mpr ⟨zz.mpr ⟨Option.some.inj h2,zz.mpr ⟨Option.some.inj h3,zz.mpr ⟨Option.some.inj h5,Option.some.inj h6⟩⟩⟩,x2⟩⟩
set_option maxHeartbeats 0 in
theorem left:LeftO PySem.Challenge.pw_uf030017_11 q loose (λs=>xlAt q [] s&&recOk [] s) seenAt (λz=>true) 12000:=
 a9q (M:=12000) (by kernel_rfl) (by decide +kernel) (λs=>by kernel_rfl) (by decide +kernel) (by intro w os;kernel_rfl) a1q
set_option maxHeartbeats 0 in
theorem aHg:PySem.Challenge.rw_uf030017_11.row.wellSaid=true:=by kernel_rfl
set_option maxHeartbeats 0 in
theorem said1:PySem.Challenge.rw_uf030017_11.wellSaid=true:=by
 unfold OpenLaw.wellSaid;rw [aHg]
 kernel_rfl
end Mine.Internal.L11
set_option tactic.hygienic true in
theorem Mine.Internal.L11.holds(hpure:∀ns:List Int,ns.length<=63->∃Z,(Mine.Internal.callsOf ns Mine.Internal.L11.T 12).call 41 [.scr] []=.ok (.bool true) Z):PySem.Challenge.rw_uf030017_11.Holds:=by
 w_on
 refine holds_law Mine.Internal.L11.said1 λsaid=>?_;refine holds_open (q:=Mine.Internal.L11.q) (loose:=Mine.Internal.L11.loose) (Xt:=λs=>xlAt Mine.Internal.L11.q [] s&&recOk (RowW.records _) s) (XP:=XL Mine.Internal.L11.q []) (Yf:=Mine.Internal.L11.seenAt) (Ya:=λz=>true) (YP:=λz h=>Mine.Internal.Says Mine.Internal.L11.G Mine.Internal.L11.T (Mine.Internal.kOwn Mine.Internal.L11.attN Mine.Internal.L11.cls) h) (N:=12000) ?hl (λz s e=>Mine.Internal.says_of e) (λz h h' x k=>x.keeps k) (λs e=>xl_of s (zz.mp e).1) XL.keeps (by rfl) (by rfl) (by rfl) (λs e=>recFacts_of (zz.mp e).2) (by rfl) (by first | assumption | decide +kernel) (by decide +kernel) ⟨rfl,rfl,rfl,rfl,rfl,by decide +kernel⟩ ?hw ?hc
 case hl=>exact Mine.Internal.L11.left
 case hw=>w_witness2
 case hc=>
  intro w s₀ s1 mg mb G YY fa o pm cd doc dV kV ho hd hcd hD hmg hg args vals as hpre hlay hrd hwl hlo;obtain ⟨K,fns,cas,cos,SA⟩:=YY;refine Ground.open G ?_;intro T B D TE TW;have TR:=topRead_of T;clear hcd hD hd ho
  wrow_args hpre hlay hrd hwl hlo
  rename_i ns _ _ _ _ _ _ _ scr vs _ L _ _ _ hI _ hlen _;obtain ⟨Z,hrun⟩:=hpure ns (by (first | lia | omega));refine Um (Mine.Internal.run_uni (lx:="law") SA TR hg L hI (by (first | lia | omega)) rfl (by kernel_rfl) hmg (by decide) (λX hK z hfa hco nm=>Mine.Internal.own_of nm SA hK hfa hco rfl (by decide)) hrun) (λv s' h=>?_) λz z h=>h.elim;obtain ⟨rfl,hk,ho,hg'⟩:=h;exact GoodW.toG ⟨.inl ⟨_,.bool true,[],rfl,λz=>rfl,ReadsW.bool _,by first | kernel_rfl | decide +kernel | (simp [PySem.Challenge.rw_uf030017_11];done),λz=>⟨um,λz h=>nomatch h⟩⟩,hk,ho,hg'⟩
theorem PySem.Challenge.cw_uf030017_11_holds : PySem.Challenge.rw_uf030017_11.Holds := by
  exact Mine.Internal.L11.holds fun ns h => Mine.Internal.L11.pure ns h
