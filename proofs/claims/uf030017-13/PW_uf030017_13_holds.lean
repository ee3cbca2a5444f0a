import PyProof.Rows.All
import Open.Row
import PyProof.Cells
import PyProof.CompFree
import PyProof.DefCall
import PyProof.StationsW
import PyProof.DictList
import PyProof.DictKinds
import OpenK.KWalk
import OpenK.KCls
import PyProof.DictTable
import PyProof.EnumFor
import PyProof.EnumStmt
import PyProof.EnumMake
import PyProof.ZipIter
import PyProof.WalksPairs
import PyProof.StrLoop
import PyProof.StrWalks
import KE.KRevIter
import PyProof.Raises
import PyProof.AssignAttr
import PyProof.ExcClass2
import PyProof.ExcBaseAll.ValueError
import PyProof.RulesAs
import PyProof.IsiHeapPairs
import PyProof.EqAt
import KE.KDictList
import KE.KDictSum
import KE.KDictOf
import KE.KIsAll
import PyProof.ExcArgsOwn
import PyProof.ExcAttrAll.ValueError
import PyProof.Rows.SortStr
import PyProof.Rows.SortShell
import PyProof.Conv_int_bool
import PyProof.CallStr
import KE.KMinKey
import PyProof.Rows.MinMaxN
import PyProof.StrLawsIn
import PyProof.CollectIter
import PyProof.DictUpdate
import PyProof.MeetsDict
import PyProof.ListOps
import PyProof.AutoSeq1
import KE.KDictLaws
import PyProof.ExcQuiet
import OpenK.TopRead
import Open.Pieces
import Open.Script
import OpenK.KMake
import Wide.All
import OpenK.AllK
import Wide.FinOn
import PySem.Challenge.RW_uf030017_13
set_option linter.all false
set_option Elab.async false
set_option maxRecDepth 100000
set_option maxHeartbeats 4000000
open Nat renaming le_trans->za,le_refl->ze,lt_of_lt_of_le->zm,zero_add->zo,le_add_right->zp,succ_le_succ->zq,le_succ_of_le->zr,le_of_lt_succ->z4,zero_le->z7,le_of_lt->z9,le_of_eq->ya,not_lt->yc,min_eq_left->yf,le_succ->yh,ne_of_lt->yj,lt_of_le_of_lt->yk,add_le_add_left->yl,lt_succ_self->yo,lt_of_le_of_ne->yy,add_le_add_right->yz,not_lt_zero->y5,add_le_add->xc,lt_of_not_le->xd,lt_of_succ_lt->xe,lt_irrefl->xj,add_sub_cancel_left->xk,add_assoc->xo,succ_add_eq_add_succ->xq,ne_of_gt->xt,le_of_ble_eq_true->xu,sub_self->xv,lt_succ_of_lt->wa,sub_le->wc,sub_pos_of_lt->w0,le_add_left->vc,le_antisymm->vd,add_sub_of_le->vi,le_of_succ_le->vm,add_comm->vx,lt_or_eq_of_le->vz,pos_of_ne_zero->v4,lt_one_iff->uc,min_eq_right->uf,le_of_not_lt->uj,le_max_right->uk,mul_le_mul_left->um,add_lt_add_left->ur,eq_zero_of_not_pos->uw,one_pos->uz,lt_trans->u6,min_le_right->ke,max_eq_right->kf,le_sub_of_add_le->kg,min_le_left->kn,le_of_add_le_add_left->ku,succ_pos->ja,add_right_comm->je,lt_add_of_pos_right->jg,eq_zero_of_le_zero->jm,le_of_sub_eq_zero->jt,sub_zero->jw,succ_add->j7,exists_eq_succ_of_ne_zero->j8,lt_of_add_lt_add_right->gq,lt_succ_of_le->gv,sub_lt->gz,beq->g8,ble->fc,succ_ne_self->fj,not_le_of_lt->fo,le_add_right_of_le->f9,le_of_succ_le_succ->zaa,lt_of_succ_lt_succ->zab,add_lt_of_lt_sub'->zag,add_le_of_le_sub'->zah,div_lt_of_lt_mul->zak,add_sub_add_left->zal,add_lt_add_right->zar,le_total->zax,two_pos->zay
open List renaming length_map->zb,getElem?_eq_some_iff->zc,length_append->zd,getElem?_eq_getElem->zf,mem_singleton->zg,mem_cons_self->zh,mem_cons_of_mem->zj,append_assoc->zk,take_length->zu,getElem?_map->zv,getElem?_append_right->zw,mem_cons->zy,not_mem_nil->z0,mem_append->z5,take_append_drop->z6,getElem_mem->ye,map_append->yg,append_nil->yi,mem_append_right->yp,size_toArray->yq,mem_of_getElem?->yr,length_take->yu,length_take_le'->yv,lookup_cons->yx,getElem?_append_left->y7,drop_eq_getElem_cons->y8,take_of_length_le->y9,range->xf,nodup_cons->xg,mem_of_mem_take->xm,map_cons->xn,mem_filter->xw,zip_cons_cons->xx,length_cons->xy,eq_nil_of_length_eq_zero->xz,getElem?_take_of_lt->wg,pairwise_singleton->wj,mem_append_left->wk,map_congr_left->wq,pairwise_append->wx,foldl_append->wy,mem_map->w4,length_drop->w5,getElem?_eq_none->w6,getElem?_toArray->w7,mem_of_mem_drop->w9,drop_sublist->vg,length_range->vj,nodup_append->vk,mem_range->vo,nodup_nil->vp,drop_eq_nil_of_le->vt,filter_append->v3,extract_eq_take_drop->v7,replicate->v9,map_map->ug,filter_cons->uh,any_eq_true->ui,length_pos_iff->ul,length_reverse->uo,length_filter_le->u7,mem_iff_getElem?->u8,length->ki,length_take_le->kj,flatten_append->km,pairwise_iff_getElem->kr,pairwise_cons->jc,toArray->jd,take_take->jf,take_sublist->jh,flatten_cons->ji,pairwise_map->jj,getElem?_set_self->jk,flatten_singleton->jl,all_eq_true->jn,set_append_right->jq,getElem?_set_ne->jy,forIn_cons->j6,mergeSort_perm->j9,filterMap_cons->gb,reverse_append->gc,take_zero->gf,drop_drop->gi,mem_filterMap->gj,getElem?_drop->gl,getD_eq_getElem?_getD->gm,any_eq_false->gx,getElem_append_right->gy,getLast?_eq_getElem?->g6,filterMap_cons_none->fg,filterMap_cons_some->fh,length_filterMap_le->fi,getElem_append_left->fk,getElem?_cons_succ->fw,take_left'->fy,length_set->f0,filter_eq_nil_iff->f8,contains_iff_mem->zad,filterMap_append->zae,filterMap_filter->zaf,take_left->zai,map->zam,map_take->zat,map_drop->zau,drop_nil->zav
open Option renaming map_eq_some_iff->zn,bind_eq_some_iff->y6,bind_some->ww,isSome_iff_exists->ve,map_some->ju,isNone_iff_eq_none->g7,map_eq_none_iff->f7
open PySem renaming Env->zt,call->yd
open PySem.Heap renaming get?_push_of_some->zz,lt_size->yb,get?_push_size->ym,get?_update_other->xa,size_push->wf,get?_update_self->wu,get?_none_of_le->j5
open Int renaming natCast_nonneg->z8,ofNat_le->yw,toNat_natCast->xb,lt_of_le_of_lt->wv,lt_of_lt_of_le->vu,ofNat_lt->vw,add_sub_cancel->v1,ofNat_inj->v5,toNat_lt->ud,le_trans->ue,eq_ofNat_of_zero_le->uu,natCast_pos->uv,ne_of_gt->u5,not_lt->u9,le_of_lt->jb,min_eq_right->jo,le_of_lt_add_one->jv,lt_trans->jx,min_eq_left->j0,not_le->j4,add_nonneg->gd,le_add_of_nonneg_right->gp,toNat_le->fe,sub_le_sub_right->zaj,lt_add_one_of_le->zan,le_of_sub_nonneg->zao
open Array renaming length_toList->yn,getElem?_toList->xh,toList_append->xi,getElem?_eq_some_iff->v6,toList_push->u0,toList_extract->kh,getElem?_eq_getElem->k7,toList_setIfInBounds->gu,swapIfInBounds_def->fq,mk->fu,mem_toList_iff->zap,toList_reverse->zaq
open Bool renaming and_eq_true_iff->yt,eq_false_iff->we,false_ne_true->wh,not_eq_true'->wo,or_eq_true->wt,and_eq_true->vq,eq_iff_iff->jz,bne_false->zac,bne_true->zas,or_true->zaw
namespace Mine
@[elab_as_elim] theorem gw.{u}{α:Sort u}{a b:α}{motive:α->Prop} (h:a=b) (x:motive b):motive a:=h▸x
@[elab_as_elim] theorem bw.{u}{α:Sort u}{a b:α}{motive:α->Prop} (h:a=b) (x:motive a):motive b:=h▸x
@[elab_as_elim] theorem iw {a b:Prop}{motive:Prop->Prop} (h:a↔b) (x:motive b):motive a:=propext h▸x
end Mine
namespace Mine
theorem ex2 {α1:Sort _}{α2:Sort _}{P:α1->α2->Prop}{G:Prop} (h:∃ x1 x2,P x1 x2) (k:∀ x1 x2,P x1 x2->G):G:=h.elim fun x1 h=>h.elim fun x2 h=>k x1 x2 h
theorem ex3 {α1:Sort _}{α2:Sort _}{α3:Sort _}{P:α1->α2->α3->Prop}{G:Prop} (h:∃ x1 x2 x3,P x1 x2 x3) (k:∀ x1 x2 x3,P x1 x2 x3->G):G:=h.elim fun x1 h=>ex2 h (k x1)
theorem ex4 {α1:Sort _}{α2:Sort _}{α3:Sort _}{α4:Sort _}{P:α1->α2->α3->α4->Prop}{G:Prop} (h:∃ x1 x2 x3 x4,P x1 x2 x3 x4) (k:∀ x1 x2 x3 x4,P x1 x2 x3 x4->G):G:=h.elim fun x1 h=>ex3 h (k x1)
theorem ex5 {α1:Sort _}{α2:Sort _}{α3:Sort _}{α4:Sort _}{α5:Sort _}{P:α1->α2->α3->α4->α5->Prop}{G:Prop} (h:∃ x1 x2 x3 x4 x5,P x1 x2 x3 x4 x5) (k:∀ x1 x2 x3 x4 x5,P x1 x2 x3 x4 x5->G):G:=h.elim fun x1 h=>ex4 h (k x1)
theorem ex6 {α1:Sort _}{α2:Sort _}{α3:Sort _}{α4:Sort _}{α5:Sort _}{α6:Sort _}{P:α1->α2->α3->α4->α5->α6->Prop}{G:Prop} (h:∃ x1 x2 x3 x4 x5 x6,P x1 x2 x3 x4 x5 x6) (k:∀ x1 x2 x3 x4 x5 x6,P x1 x2 x3 x4 x5 x6->G):G:=h.elim fun x1 h=>ex5 h (k x1)
theorem ex7 {α1:Sort _}{α2:Sort _}{α3:Sort _}{α4:Sort _}{α5:Sort _}{α6:Sort _}{α7:Sort _}{P:α1->α2->α3->α4->α5->α6->α7->Prop}{G:Prop} (h:∃ x1 x2 x3 x4 x5 x6 x7,P x1 x2 x3 x4 x5 x6 x7) (k:∀ x1 x2 x3 x4 x5 x6 x7,P x1 x2 x3 x4 x5 x6 x7->G):G:=h.elim fun x1 h=>ex6 h (k x1)
theorem ex8 {α1:Sort _}{α2:Sort _}{α3:Sort _}{α4:Sort _}{α5:Sort _}{α6:Sort _}{α7:Sort _}{α8:Sort _}{P:α1->α2->α3->α4->α5->α6->α7->α8->Prop}{G:Prop} (h:∃ x1 x2 x3 x4 x5 x6 x7 x8,P x1 x2 x3 x4 x5 x6 x7 x8) (k:∀ x1 x2 x3 x4 x5 x6 x7 x8,P x1 x2 x3 x4 x5 x6 x7 x8->G):G:=h.elim fun x1 h=>ex7 h (k x1)
theorem ex9 {α1:Sort _}{α2:Sort _}{α3:Sort _}{α4:Sort _}{α5:Sort _}{α6:Sort _}{α7:Sort _}{α8:Sort _}{α9:Sort _}{P:α1->α2->α3->α4->α5->α6->α7->α8->α9->Prop}{G:Prop} (h:∃ x1 x2 x3 x4 x5 x6 x7 x8 x9,P x1 x2 x3 x4 x5 x6 x7 x8 x9) (k:∀ x1 x2 x3 x4 x5 x6 x7 x8 x9,P x1 x2 x3 x4 x5 x6 x7 x8 x9->G):G:=h.elim fun x1 h=>ex8 h (k x1)
theorem an3 {A1 A2 A3 G:Prop} (h:A1/\A2/\A3) (k:A1->A2->A3->G):G:=k h.1 h.2.1 h.2.2
theorem an4 {A1 A2 A3 A4 G:Prop} (h:A1/\A2/\A3/\A4) (k:A1->A2->A3->A4->G):G:=an3 h.2 (k h.1)
theorem an5 {A1 A2 A3 A4 A5 G:Prop} (h:A1/\A2/\A3/\A4/\A5) (k:A1->A2->A3->A4->A5->G):G:=an4 h.2 (k h.1)
theorem an6 {A1 A2 A3 A4 A5 A6 G:Prop} (h:A1/\A2/\A3/\A4/\A5/\A6) (k:A1->A2->A3->A4->A5->A6->G):G:=an5 h.2 (k h.1)
theorem an7 {A1 A2 A3 A4 A5 A6 A7 G:Prop} (h:A1/\A2/\A3/\A4/\A5/\A6/\A7) (k:A1->A2->A3->A4->A5->A6->A7->G):G:=an6 h.2 (k h.1)
theorem an8 {A1 A2 A3 A4 A5 A6 A7 A8 G:Prop} (h:A1/\A2/\A3/\A4/\A5/\A6/\A7/\A8) (k:A1->A2->A3->A4->A5->A6->A7->A8->G):G:=an7 h.2 (k h.1)
theorem an9 {A1 A2 A3 A4 A5 A6 A7 A8 A9 G:Prop} (h:A1/\A2/\A3/\A4/\A5/\A6/\A7/\A8/\A9) (k:A1->A2->A3->A4->A5->A6->A7->A8->A9->G):G:=an8 h.2 (k h.1)
end Mine
namespace Mine
open PySem
theorem size_upd (h:Heap) (a:Addr) (f:Obj->Obj):(h.update a f).objs.size=h.objs.size:=by
 cases h;simp [Heap.update]
theorem runs_size {M:Model}{Γ:Ctx}{p:Pos}{t:Sem Fin}{fs:List Frame}{s s':Shared}{e:End} (h:Runs M Γ p t fs s e s'):s.heap.objs.size<=s'.heap.objs.size:=by
 induction h <;> (try simp only [Shared.setGen,size_upd,wf] at *) <;> (first | lia | omega)
theorem wakes_size {M:Model}{Γ:Ctx}{p:Pos}{g:Nat}{r:Resume}{s s':Shared}{res:GenResult} (h:Wakes M Γ p g r s res s'):s.heap.objs.size<=s'.heap.objs.size:=by
 unfold Wakes at h
 split at h
 ·exact h.elim
 ·split at h
  ·obtain ⟨e₁,s₁,hr,_,_,rfl⟩:=h;exact (runs_size hr:(s.setGen g .running).heap.objs.size<=s₁.heap.objs.size)
  ·refine gw (h.2 ..) ?_;exact ze _
  ·refine gw (h.2 ..) ?_;exact ze _
 ·obtain ⟨e₁,s₁,hr,_,_,rfl⟩:=h;exact (runs_size hr:(s.setGen g .running).heap.objs.size<=s₁.heap.objs.size)
 ·refine gw (h.2 ..) ?_;exact ze _
 ·refine gw (h.2 ..) ?_;exact ze _
theorem wp_size {α:Type} (M:Model) (Γ:Ctx) (n:Nat) (t:Sem α):∀ (Q:α->Pos->Shared->Prop) (E:Value->Pos->Shared->Prop) (p:Pos) (s:Shared),n<=s.heap.objs.size->Sem.wp M Γ t Q E p s ->
  Sem.wp M Γ t (fun a p' s'=>n<=s'.heap.objs.size/\Q a p' s') (fun e p' s'=>n<=s'.heap.objs.size/\E e p' s') p s:=by
 induction t with
 | pure a=>intro Q E p s hn h;exact ⟨hn,h⟩
 | raise e=>intro Q E p s hn h;exact ⟨hn,h⟩
 | unsupported _=>intro Q E p s _ h;exact h
 | finish _=>intro Q E p s _ h;exact h
 | rule _ k ih=>intro Q E p s hn h;exact ih () Q E p s hn h
 | «at» p' k ih=>intro Q E p s hn h;exact ih () Q E p' s hn h
 | load a _ k ih=>intro Q E p s hn h;obtain ⟨o,ho,h⟩:=h;exact ⟨o,ho,ih o Q E p s hn h⟩
 | update a _ f k ih=>intro Q E p s hn h;exact ⟨h.1,ih () Q E p _ (by show n<=(s.heap.update a f).objs.size;refine gw (size_upd ..) ?_;exact hn) h.2⟩
 | loadIfAlive a k ih=>intro Q E p s hn h;exact ih _ Q E p s hn h
 | point _ k ih=>intro Q E p s hn h;exact ih () Q E p s hn h
 | register _ _=>intro Q E p s _ h;exact h
 | alloc o k ih=>intro Q E p s hn h;exact ih _ Q E p _ (by show n<=(s.heap.push o).objs.size;refine gw (wf ..) ?_;exact zr hn) h
 | fresh k ih=>intro Q E p s hn h;exact ih _ Q E p _ hn h
 | ask k ih=>intro Q E p s hn h;exact ih _ Q E p s hn h
 | choose src m k ih=>intro Q E p s hn h;exact ⟨h.1,ih _ Q E p _ hn h.2⟩
 | os q _ k ih=>intro Q E p s hn h;exact ih _ Q E p _ hn h
 | call c hd _ _ k ih=>intro Q E p s hn h;obtain ⟨r,s',hr,h⟩:=h;exact ⟨r,s',hr,ih r Q E p s' (za hn (runs_size hr)) h⟩
 | handled own k ih=>intro Q E p s hn h;exact ih _ Q E p s hn h
 | genState g k ih=>intro Q E p s hn h;obtain ⟨st,hs,h⟩:=h;exact ⟨st,hs,ih _ Q E p s hn h⟩
 | newGen c k ih=>intro Q E p s hn h;exact ih _ Q E p _ hn h
 | resume g r _ k ih=>intro Q E p s hn h;obtain ⟨res,s',hw,h⟩:=h;exact ⟨res,s',hw,ih res Q E p s' (za hn (wakes_size hw)) h⟩
 | yield _ _ _ _=>intro Q E p s _ h;exact h
 | stack k ih=>intro Q E p s hn h;exact ih _ Q E p s hn h
 | fork _ _=>intro Q E p s _ h;exact h
 | thread k ih=>intro Q E p s hn h;exact ih _ Q E p s hn h
 | await _ _ _ _ _=>intro Q E p s _ h;exact h
theorem sized {α:Type}{M:Model}{A:Around}{s:Shared}{t:Sem α}{Q:α->Shared->Prop}{E:Value->Shared->Prop} (h:wpAny M A t (fun a s'=>s.heap.objs.size<=s'.heap.objs.size->Q a s') (fun e s'=>s.heap.objs.size<=s'.heap.objs.size->E e s') s) :
  wpAny M A t Q E s:=fun Γ p hΓ=>Sem.wp_mono M Γ _ (fun _ _ _ x=>x.2 x.1) (fun _ _ _ x=>x.2 x.1) p s (wp_size M Γ s.heap.objs.size t _ _ p s (ze _) (h Γ p hΓ))
end Mine
set_option genSizeOf false
set_option genSizeOfSpec false
set_option genInjectivity false
namespace Mine
open PySem
inductive V where
 | none | bool (b:Bool) | int (i:Int) | str (x:List Nat) | ref (i:Nat) | tup (vs:List V) | inst (c d:Nat) | scr
 deriving Inhabited
inductive O where
 | list (xs:List V) | dict (kvs:List (List Nat×V))
 deriving Inhabited
noncomputable abbrev H:=List O
inductive R (α:Type) where
 | ok (a:α) (σ:H) | exc (c:Nat) (σ:H) | stuck
noncomputable abbrev M (α:Type):=H->R α
noncomputable def M.ret {α:Type} (a:α):M α:=fun σ=>.ok a σ
noncomputable def M.bnd {α β:Type} (m:M α) (f:α->M β):M β:=fun σ=>match m σ with
 | .ok a σ'=>f a σ'
 | .exc c σ'=>.exc c σ'
 | .stuck=>.stuck
noncomputable def stuck {α:Type}:M α:=fun _=>.stuck
noncomputable def lim:Nat:=16777216
noncomputable def listAt (σ:H) (l:Nat):Option (List V):=match σ[l]? with
 | some (.list xs)=>some xs
 | _=>.none
noncomputable def dictAt (σ:H) (l:Nat):Option (List (List Nat×V)):=match σ[l]? with
 | some (.dict kvs)=>some kvs
 | _=>.none
noncomputable def onL {α:Type} (l:Nat) (f:List V->M α):M α:=fun σ=>match listAt σ l with
 | some xs=>f xs σ
 | .none=>.stuck
noncomputable def onD {α:Type} (l:Nat) (f:List (List Nat×V)->M α):M α:=fun σ=>match dictAt σ l with
 | some kvs=>f kvs σ
 | .none=>.stuck
noncomputable def pick {α:Type} (o:Option α):M α:=match o with
 | some v=>.ret v
 | .none=>stuck
noncomputable def onS {α:Type} (a:V) (f:List Nat->M α):M α:=match a with
 | .str x=>f x
 | _=>stuck
noncomputable def one {α:Type} (x:List Nat) (f:Nat->M α):M α:=match x with
 | [c]=>f c
 | _=>stuck
noncomputable def newO (o:O):M V:=fun σ=>.ok (.ref σ.length) (σ++[o])
noncomputable def newL (xs:List V):M V:=if xs.length<=lim then newO (.list xs) else stuck
noncomputable def newD (kvs:List (List Nat×V)):M V:=if kvs.length<=lim then newO (.dict kvs) else stuck
noncomputable def mkS (x:List Nat):M V:=if x.length<=lim then .ret (.str x) else stuck
noncomputable def mkT (vs:List V):M V:=if vs.length<=lim then .ret (.tup vs) else stuck
noncomputable def putL (l:Nat) (xs:List V):M V:=if xs.length<=lim then fun σ=>.ok .none (σ.set l (.list xs)) else stuck
noncomputable def putD (l:Nat) (kvs:List (List Nat×V)):M V:=if kvs.length<=lim then fun σ=>.ok .none (σ.set l (.dict kvs)) else stuck
noncomputable def dget:List (List Nat×V)->List Nat->Option V
 | [],_=>.none
 | (a,v)::r,k=>if a=k then some v else dget r k
noncomputable def dput:List (List Nat×V)->List Nat->V->List (List Nat×V)
 | [],k,v=>[(k,v)]
 | (a,x)::r,k,v=>if a=k then (a,v)::r else (a,x)::dput r k v
noncomputable def dputs (d:List (List Nat×V)) (ps:List (List Nat×V)):List (List Nat×V):=ps.foldl (fun d p=>dput d p.1 p.2) d
inductive Bin where | add | sub | mul | fdiv | mod | pow
inductive Cmp where | eq | ne | lt | le | gt | ge | is | isnt | isin
inductive Ty where | int | bool | str | list | tuple
inductive Bi where | len | list | sorted | dict | str | any | all
inductive Me where | append | find | get | update | startswith | insert | setdefault | index
mutual
inductive E where
 | lit (v:V) | con (v:V) | var (k:Nat) | bin (op:Bin) (a b:E) | not (a:E) | neg (a:E) | and (es:List E) | or (es:List E)
 | cmp (op:Cmp) (a b:E) | cmp2 (op op':Cmp) (a b c:E)
 | call (f:Nat) (es:List E) | new (c:Nat) (es:List E) | mcall (o:E) (m:List Nat) (es:List E)
 | bi (b:Bi) (e:E) | mm (dv:Bool) (a b:E) | isi (e:E) (t:Ty) | me (o:E) (m:Me) (es:List E)
 | attr (o:E) (x:List Nat) | idx (a i:E) | slice (a lo hi:E) | nil
 | list (es:List E) | tup (es:List E) | dict0
 | comp (src:Src) (elt:E) | compIf (src:Src) (elt cond:E)
inductive Src where
 | of (e:E) | range (e:E) | enum (e:E) | rev (e:E) | zip (a b:E)
end
mutual
inductive S where
 | assign (k:Nat) (e:E) | setattr (o:E) (x:List Nat) (e:E) | setitem (a i e:E) | expr (e:E) | ret (e:E)
 | ite (c:E) (t f:List S) | forN (k:Nat) (src:Src) (body:List S) | forP (k k':Nat) (src:Src) (body:List S)
 | raise (c:Nat) | try (body:List S) (c:Nat) (k:Option Nat) (v:V) | dead
end
structure Fn where
 nargs:Nat
 n:Nat
 body:List S
noncomputable def arg1 (as:List V) (f:V->M V):M V:=match as with
 | [a]=>f a
 | _=>stuck
noncomputable def arg2 (as:List V) (f:V->V->M V):M V:=match as with
 | [a,b]=>f a b
 | _=>stuck
noncomputable def asS (v:V) (f:List Nat->M V):M V:=match v with
 | .str x=>f x
 | _=>stuck
noncomputable def asI (v:V) (f:Int->M V):M V:=match v with
 | .int i=>f i
 | _=>stuck
noncomputable def asR (v:V) (f:Nat->M V):M V:=match v with
 | .ref l=>f l
 | _=>stuck
noncomputable def idxN (k:Int) (n:Nat):Option Nat :=
 if 0<=k then (if k.toNat < n then some k.toNat else .none) else (if 0<=k + n then some (k + n).toNat else .none)
noncomputable def clampN (k:Int) (n:Nat):Nat:=if 0<=k then min k.toNat n else (k + n).toNat
noncomputable def cut {α:Type} (xs:List α) (lo hi:Option Int):List α :=
 let a:=match lo with | some k=>clampN k xs.length | .none=>0
 let b:=match hi with | some k=>clampN k xs.length | .none=>xs.length
 (xs.drop a).take (b - a)
noncomputable def optInt:V->Option (Option Int)
 | .none=>some .none
 | .int k=>some (some k)
 | _=>.none
section
variable (ns:List Int)
noncomputable def lenV (a:V):M V:=match a with
 | .ref l=>onL l fun xs=>.ret (.int xs.length)
 | .tup xs=>.ret (.int xs.length)
 | .str x=>.ret (.int x.length)
 | .scr=>.ret (.int ns.length)
 | _=>stuck
noncomputable def idxV (a i:V):M V:=match i with
 | .int k=>match a with
  | .ref l=>onL l fun xs=>pick ((idxN k xs.length).bind (xs[·]?))
  | .tup xs=>pick ((idxN k xs.length).bind (xs[·]?))
  | .str x=>pick (((idxN k x.length).bind (x[·]?)).map fun c=>V.str [c])
  | .scr=>pick (((idxN k ns.length).bind (ns[·]?)).map V.int)
  | _=>stuck
 | .str x=>match a with
  | .ref l=>onD l fun kvs=>pick (dget kvs x)
  | _=>stuck
 | _=>stuck
noncomputable def sliceV (a lo hi:V):M V:=match optInt lo,optInt hi with
 | some l,some h=>match a with
  | .ref i=>onL i fun xs=>newL (cut xs l h)
  | .str x=>mkS (cut x l h)
  | .scr=>newL ((cut ns l h).map V.int)
  | _=>stuck
 | _,_=>stuck
noncomputable def small (i:Int):Bool:=decide (-18446744073709551616 < i/\i < 18446744073709551616)
noncomputable def i2 (a b:V) (f:Int->Int->M V):M V:=match a with
 | .int x=>match b with
  | .int y=>f x y
  | _=>stuck
 | _=>stuck
noncomputable def addV (a b:V):M V:=match a with
 | .int x=>match b with
  | .int y=>.ret (.int (x + y))
  | _=>stuck
 | .str x=>match b with
  | .str y=>mkS (x++y)
  | _=>stuck
 | .ref i=>match b with
  | .ref j=>onL i fun xs=>onL j fun ys=>newL (xs++ys)
  | _=>stuck
 | _=>stuck
noncomputable def binV (op:Bin) (a b:V):M V:=match op with
 | .add=>addV a b
 | .sub=>i2 a b fun x y=>.ret (.int (x - y))
 | .mul=>i2 a b fun x y=>if small x || small y then .ret (.int (x * y)) else stuck
 | .fdiv=>i2 a b fun x y=>if 0 < y/\y < 1073741824 then .ret (.int (x.fdiv y)) else stuck
 | .mod=>i2 a b fun x y=>if y=0 then stuck else .ret (.int (x.fmod y))
 | .pow=>i2 a b fun x y=>if x=10/\(y=30∨y=20) then .ret (.int (10 ^ y.toNat)) else stuck
noncomputable def strsOf:List V->Option (List (List Nat))
 | []=>some []
 | .str x::r=>(strsOf r).map (x::·)
 | _::_=>.none
noncomputable def boolsOf:List V->Option (List Bool)
 | []=>some []
 | .bool x::r=>(boolsOf r).map (x::·)
 | _::_=>.none
noncomputable def feq (a b:V):Option Bool:=match a with
 | .int x=>match b with
  | .int y=>some (decide (x=y))
  | _=>.none
 | .str x=>match b with
  | .str y=>some (decide (x=y))
  | _=>.none
 | _=>.none
noncomputable def anyEq (a:V):List V->Option Bool
 | []=>some false
 | x::xs=>match feq x a,anyEq a xs with
  | some p,some q=>some (p || q)
  | _,_=>.none
noncomputable def yes (neg:Bool) (b:Bool):V:=.bool (b != neg)
noncomputable def eqM (a b:V) (neg:Bool):M V:=pick ((feq a b).map (yes neg))
noncomputable def inM (a b:V):M V:=match b with
 | .ref l=>fun σ=>match σ[l]? with
  | some (.list xs)=>pick ((anyEq a xs).map V.bool) σ
  | some (.dict kvs)=>onS a (fun x=>.ret (.bool (dget kvs x).isSome)) σ
  | .none=>.stuck
 | .str y=>onS a fun x=>one x fun c=>.ret (.bool (y.contains c))
 | _=>stuck
noncomputable def isNoneV:V->Bool
 | .none=>true
 | _=>false
noncomputable def cmpV (op:Cmp) (a b:V):M V:=match op with
 | .eq=>eqM a b false
 | .ne=>eqM a b true
 | .isin=>inM a b
 | .is=>match b with
  | .none=>.ret (.bool (isNoneV a))
  | _=>stuck
 | .isnt=>match b with
  | .none=>.ret (.bool (!isNoneV a))
  | _=>stuck
 | .lt=>i2 a b fun x y=>.ret (.bool (decide (x < y)))
 | .le=>i2 a b fun x y=>.ret (.bool (decide (x<=y)))
 | .gt=>i2 a b fun x y=>.ret (.bool (decide (y < x)))
 | .ge=>i2 a b fun x y=>.ret (.bool (decide (y<=x)))
noncomputable def notV:V->M V
 | .bool b=>.ret (.bool (!b))
 | _=>stuck
noncomputable def negV:V->M V
 | .int i=>.ret (.int (-i))
 | _=>stuck
noncomputable def isiV (t:Ty) (v:V):M V:=match v with
 | .int _=>match t with
  | .int=>.ret (.bool true)
  | .bool=>.ret (.bool false)
  | _=>stuck
 | .str _=>match t with
  | .str=>.ret (.bool true)
  | _=>stuck
 | .tup _=>match t with
  | .tuple=>.ret (.bool true)
  | _=>stuck
 | .ref l=>match t with
  | .list=>onL l fun _=>.ret (.bool true)
  | _=>stuck
 | _=>stuck
noncomputable def lexLe (a b:List Nat):Bool:=!decide (b < a)
noncomputable def sort {α:Type} (le:α->α->Bool) (xs:List α):List α:=xs.mergeSort le
noncomputable def digs (n:Nat):List Nat:=if n < 10 then [48 + n] else if n < 100 then [48 + n / 10,48 + n % 10] else [48 + n / 100,48 + n / 10 % 10,48 + n % 10]
noncomputable def itemsV (σ:H) (v:V):Option (List V):=match v with
 | .tup xs=>some xs
 | .ref l=>match σ[l]? with
  | some (.list xs)=>some xs
  | some (.dict kvs)=>some (kvs.map fun p=>V.str p.1)
  | .none=>.none
 | _=>.none
noncomputable def intsOf:List V->Option (List Int)
 | []=>some []
 | .int i::r=>(intsOf r).map (i::·)
 | _::_=>.none
noncomputable def sortV (xs:List V):Option (List V):=(strsOf xs).bind fun ss=>if ss.Nodup then some ((sort lexLe ss).map V.str) else .none
noncomputable def biV (b:Bi) (a:V):M V:=match b with
 | .len=>lenV ns a
 | .list=>fun σ=>(pick (itemsV σ a)).bnd newL σ
 | .sorted=>asR a fun _=>fun σ=>(pick ((itemsV σ a).bind sortV)).bnd newL σ
 | .dict=>asR a fun l=>onD l newD
 | .str=>match a with
  | .int i=>if 0<=i/\i < 1000 then .ret (.str (digs i.toNat)) else stuck
  | _=>stuck
 | .any=>asR a fun l=>onL l fun xs=>pick ((boolsOf xs).map fun bs=>.bool (bs.any id))
 | .all=>asR a fun l=>onL l fun xs=>pick ((boolsOf xs).map fun bs=>.bool (bs.all id))
noncomputable def least (is:List Int) (d:V):V:=match is with
 | []=>d
 | i::is=>.int (is.foldl min i)
noncomputable def mmV (dv:Bool) (a b:V):M V:=match dv with
 | true=>asR a fun l=>onL l fun xs=>pick ((intsOf xs).map fun is=>least is b)
 | false=>i2 a b fun x y=>.ret (.int (min x y))
noncomputable def pre:List Nat->List Nat->Bool
 | [],_=>true
 | _::_,[]=>false
 | a::x,b::y=>a == b && pre x y
noncomputable def findN (c:Nat):List Nat->Nat->Int
 | [],_=>-1
 | x::r,i=>if x=c then i else findN c r (i + 1)
noncomputable def firstEq (a:V):List V->Nat->Option Nat
 | [],_=>.none
 | x::xs,i=>match feq x a with
  | some b=>if b then (anyEq a xs).map fun _=>i else firstEq a xs (i + 1)
  | .none=>.none
noncomputable def meS (x:List Nat) (m:Me) (as:List V):M V:=match m with
 | .startswith=>arg1 as fun a=>asS a fun y=>.ret (.bool (pre y x))
 | .find=>arg1 as fun a=>asS a fun y=>match y with
  | [c]=>.ret (.int (findN c x 0))
  | _=>stuck
 | _=>stuck
noncomputable def insAt {α:Type} (xs:List α) (k:Nat) (v:α):List α:=xs.take k++v::xs.drop k
noncomputable def meL (l:Nat) (xs:List V) (m:Me) (as:List V):M V:=match m with
 | .append=>arg1 as fun v=>putL l (xs++[v])
 | .insert=>arg2 as fun k v=>asI k fun k=>if 0<=k/\k < 9223372036854775808 then putL l (insAt xs k.toNat v) else stuck
 | .index=>arg1 as fun v=>pick ((firstEq v xs 0).map fun (n:Nat)=>V.int n)
 | _=>stuck
noncomputable def meD (l:Nat) (kvs:List (List Nat×V)) (m:Me) (as:List V):M V:=match m with
 | .get=>match as with
  | [a]=>asS a fun x=>.ret ((dget kvs x).getD .none)
  | as=>arg2 as fun a v=>asS a fun x=>.ret ((dget kvs x).getD v)
 | .update=>arg1 as fun a=>asR a fun j=>if j=l then stuck else onD j fun qs=>if kvs.length + qs.length<=lim then putD l (dputs kvs qs) else stuck
 | .setdefault=>arg2 as fun a v=>asS a fun x=>match dget kvs x with
  | some u=>.ret u
  | .none=>(putD l (dput kvs x v)).bnd fun _=>.ret v
 | _=>stuck
noncomputable def meOn:Me->Nat
 | .startswith=>0 | .find=>0 | .append=>1 | .insert=>1 | .index=>1 | .get=>2 | .update=>2 | .setdefault=>2
noncomputable def meV (o:V) (m:Me) (as:List V):M V:=match o with
 | .str x=>meS x m as
 | .ref l=>fun σ=>match σ[l]? with
  | some (.list xs)=>meL l xs m as σ
  | some (.dict kvs)=>meD l kvs m as σ
  | .none=>.stuck
 | _=>stuck
noncomputable def meK (m:Me) (x:V):M V:=match x with
 | .str _=>if meOn m=0 then .ret .none else stuck
 | .ref l=>fun σ=>match σ[l]? with
  | some (.list _)=>if meOn m=1 then .ok .none σ else .stuck
  | some (.dict _)=>if meOn m=2 then .ok .none σ else .stuck
  | .none=>.stuck
 | _=>stuck
noncomputable def setV (a i v:V):M V:=asR a fun l=>asS i fun x=>onD l fun kvs=>putD l (dput kvs x v)
noncomputable def attrV (o:V) (x:List Nat):M V:=match o with
 | .inst _ d=>onD d fun kvs=>pick (dget kvs x)
 | _=>stuck
noncomputable def setaV (o:V) (x:List Nat) (v:V):M V:=match o with
 | .inst _ d=>onD d fun kvs=>putD d (dput kvs x v)
 | _=>stuck
inductive It where
 | list (l i:Nat) | range (i n:Nat) | enum (l i:Nat) | seq (x:List Nat) (i:Nat) | rev (l i:Nat) | zip (l m i:Nat)
noncomputable def nextIt (it:It) (σ:H):Option (Option (V×It)):=match it with
 | .list l i=>(listAt σ l).map fun xs=>(xs[i]?).map fun v=>(v,.list l (i + 1))
 | .range i n=>some (if i < n then some (.int i,.range (i + 1) n) else .none)
 | .enum l i=>(listAt σ l).map fun xs=>(xs[i]?).map fun v=>(.tup [.int i,v],.enum l (i + 1))
 | .seq x i=>some ((x[i]?).map fun c=>(.str [c],.seq x (i + 1)))
 | .rev l i=>(listAt σ l).bind fun xs=>i.rec (some .none) fun j _=>(xs[j]?).map fun v=>some (v,.rev l j)
 | .zip l m i=>(listAt σ l).bind fun xs=>(listAt σ m).bind fun ys=>(xs[i]?).elim (some .none) fun v=>(ys[i]?).map fun w=>some (.tup [v,w],.zip l m (i + 1))
noncomputable def listN (v:V) (σ:H):Option (Nat×Nat):=match v with
 | .ref l=>(listAt σ l).map fun xs=>(l,xs.length)
 | _=>.none
noncomputable def iterV (v:V) (σ:H):Option (It×Nat):=match v with
 | .ref l=>(listAt σ l).map fun xs=>(.list l 0,xs.length)
 | .str x=>some (.seq x 0,x.length)
 | _=>.none
noncomputable def rangeV:V->M (It×Nat)
 | .int k=>if -4611686018427387904 < k/\k < 4611686018427387904 then .ret (.range 0 k.toNat,k.toNat) else stuck
 | _=>stuck
noncomputable abbrev Env:=List (Option V)
structure Calls where
 call:Nat->List V->M V
 new:Nat->List V->M V
 mlook:V->List Nat->M Nat
 sub:Nat->Nat->Bool
noncomputable def nextK {α:Type} (o:Option (Option (V×It))) (a z:α) (k:V->It->α):α:=o.elim z fun q=>q.elim a fun p=>k p.1 p.2
noncomputable def gat (acc:List V) (k:List V->M (List V)) (r:R (Option V)):R (List V):=match r with
 | .ok o σ=>o.elim (k acc σ) fun x=>if acc.length + 1<=lim then k (acc++[x]) σ else .stuck
 | _=>.stuck
noncomputable def gather (f:V->M (Option V)) (n:Nat):It->List V->M (List V) :=
 n.rec (fun it acc σ=>nextK (nextIt it σ) (.ok acc σ) .stuck fun _ _=>.stuck) fun _ g it acc σ=>nextK (nextIt it σ) (.ok acc σ) .stuck fun v it'=>gat acc (g it') (f v σ)
theorem gather_eq {f:V->M (Option V)}{n:Nat}{it:It}{acc:List V}{σ:H}:gather f n it acc σ=nextK (nextIt it σ) (.ok acc σ) .stuck fun v it'=>n.rec .stuck fun m _=>gat acc (gather f m it') (f v σ):=by
 cases n <;> rfl
noncomputable def pickI (o:H->Option (It×Nat)):M (It×Nat):=fun σ=>pick (o σ) σ
mutual
noncomputable def evE (C:Calls) (ρ:Env):E->M V
 | .lit v=>.ret v
 | .con v=>.ret v
 | .var k=>match ρ[k]? with
  | some (some v)=>.ret v
  | _=>stuck
 | .bin op a b=>(evE C ρ a).bnd fun x=>(evE C ρ b).bnd fun y=>binV op x y
 | .not a=>(evE C ρ a).bnd notV
 | .neg a=>(evE C ρ a).bnd negV
 | .and es=>evAnd C ρ es
 | .or es=>evOr C ρ es
 | .cmp op a b=>(evE C ρ a).bnd fun x=>(evE C ρ b).bnd fun y=>cmpV op x y
 | .cmp2 op op' a b c=>(evE C ρ a).bnd fun x=>(evE C ρ b).bnd fun y=>(cmpV op x y).bnd fun r=>match r with
  | .bool true=>(evE C ρ c).bnd fun z=>cmpV op' y z
  | .bool false=>.ret (.bool false)
  | _=>stuck
 | .call f es=>(evEs C ρ es).bnd fun vs=>C.call f vs
 | .new c es=>(evEs C ρ es).bnd fun vs=>C.new c vs
 | .mcall o m es=>(evE C ρ o).bnd fun x=>(C.mlook x m).bnd fun i=>(evEs C ρ es).bnd fun vs=>C.call i (x::vs)
 | .bi b e=>(evE C ρ e).bnd fun v=>biV ns b v
 | .mm dv a b=>(evE C ρ a).bnd fun x=>(evE C ρ b).bnd fun y=>mmV dv x y
 | .nil=>.ret .none
 | .isi e t=>(evE C ρ e).bnd fun x=>isiV t x
 | .me o m es=>(evE C ρ o).bnd fun x=>(meK m x).bnd fun _=>(evEs C ρ es).bnd fun vs=>meV x m vs
 | .attr o x=>(evE C ρ o).bnd fun v=>attrV v x
 | .idx a i=>(evE C ρ a).bnd fun x=>(evE C ρ i).bnd fun y=>idxV ns x y
 | .slice a lo hi=>(evE C ρ a).bnd fun x=>(evE C ρ lo).bnd fun l=>(evE C ρ hi).bnd fun h=>sliceV ns x l h
 | .list es=>(evEs C ρ es).bnd newL
 | .tup es=>(evEs C ρ es).bnd mkT
 | .dict0=>newD []
 | .comp src elt=>(evSrc C ρ src).bnd fun p=>(gather (fun v=>(evE C (ρ++[some v]) elt).bnd fun x=>.ret (some x)) p.2 p.1 []).bnd newO'
 | .compIf src elt cond=>(evSrc C ρ src).bnd fun p=>(gather (fun v=>(evE C (ρ++[some v]) cond).bnd fun t=>match t with
   | .bool true=>(evE C (ρ++[some v]) elt).bnd fun x=>.ret (some x)
   | .bool false=>.ret .none
   | _=>stuck) p.2 p.1 []).bnd newO'
 where newO' (xs:List V):M V:=newO (.list xs)
noncomputable def evEs (C:Calls) (ρ:Env):List E->M (List V)
 | []=>.ret []
 | e::r=>(evE C ρ e).bnd fun x=>(evEs C ρ r).bnd fun xs=>.ret (x::xs)
noncomputable def evAnd (C:Calls) (ρ:Env):List E->M V
 | []=>stuck
 | e::r=>(evE C ρ e).bnd fun v=>match v with
  | .bool b=>match r with
   | []=>.ret (.bool b)
   | _::_=>if b then evAnd C ρ r else .ret (.bool false)
  | _=>stuck
noncomputable def evOr (C:Calls) (ρ:Env):List E->M V
 | []=>stuck
 | e::r=>(evE C ρ e).bnd fun v=>match v with
  | .bool b=>match r with
   | []=>.ret (.bool b)
   | _::_=>if b then .ret (.bool true) else evOr C ρ r
  | _=>stuck
noncomputable def evSrc (C:Calls) (ρ:Env):Src->M (It×Nat)
 | .of e=>(evE C ρ e).bnd fun v=>pickI (iterV v)
 | .range e=>(evE C ρ e).bnd rangeV
 | .enum e=>(evE C ρ e).bnd fun v=>pickI fun σ=>(listN v σ).map fun p=>(.enum p.1 0,p.2)
 | .rev e=>(evE C ρ e).bnd fun v=>pickI fun σ=>(listN v σ).map fun p=>(.rev p.1 p.2,p.2)
 | .zip a b=>(evE C ρ a).bnd fun v=>(evE C ρ b).bnd fun w=>pickI fun σ=>(listN v σ).bind fun p=>(listN w σ).map fun q=>(.zip p.1 q.1 0,p.2)
end
inductive Fl where
 | next | ret (v:V)
inductive RS where
 | ok (f:Fl) (ρ:Env) (σ:H) | exc (c:Nat) (ρ:Env) (σ:H) | stuck
noncomputable def RS.ofE {α:Type} (r:R α) (ρ:Env) (k:α->H->RS):RS:=match r with
 | .ok a σ=>k a σ
 | .exc c σ=>.exc c ρ σ
 | .stuck=>.stuck
noncomputable def thenN (r:RS) (k:Env->H->RS):RS:=match r with
 | .ok .next ρ σ=>k ρ σ
 | r=>r
noncomputable def turn (tgt:V->Env->Option Env) (body:Env->H->RS) (ρ:Env) (σ:H) (v:V) (k:Env->H->RS):RS:=(tgt v ρ).elim .stuck fun ρ'=>thenN (body ρ' σ) k
noncomputable def forLoop (tgt:V->Env->Option Env) (body:Env->H->RS) (n:Nat):It->Env->H->RS :=
 n.rec (fun it ρ σ=>nextK (nextIt it σ) (.ok .next ρ σ) .stuck fun _ _=>.stuck) fun _ g it ρ σ=>nextK (nextIt it σ) (.ok .next ρ σ) .stuck fun v it'=>turn tgt body ρ σ v (g it')
theorem for_eq {tgt:V->Env->Option Env}{body:Env->H->RS}{n:Nat}{it:It}{ρ:Env}{σ:H}:forLoop tgt body n it ρ σ=nextK (nextIt it σ) (.ok .next ρ σ) .stuck fun v it'=>n.rec .stuck fun m _=>turn tgt body ρ σ v (forLoop tgt body m it'):=by
 cases n <;> rfl
noncomputable def tgtN (k:Nat) (v:V) (ρ:Env):Option Env:=if k < ρ.length then some (ρ.set k (some v)) else .none
noncomputable def tgtP (k k':Nat) (v:V) (ρ:Env):Option Env:=match v with
 | .tup [a,b]=>if k < ρ.length/\k' < ρ.length then some ((ρ.set k (some a)).set k' (some b)) else .none
 | _=>.none
noncomputable def backV (ρ:Env) (k:Option Nat) (v:V):Option V:=k.elim (some v) fun k=>(ρ[k]?).bind fun o=>o.map fun u=>.bool (isNoneV u)
mutual
noncomputable def evS (C:Calls) (ρ:Env) (σ:H):S->RS
 | .assign k e=>RS.ofE (evE ns C ρ e σ) ρ fun v σ'=>if k < ρ.length then .ok .next (ρ.set k (some v)) σ' else .stuck
 | .setattr o x e=>RS.ofE (((evE ns C ρ e).bnd fun v=>(evE ns C ρ o).bnd fun u=>setaV u x v) σ) ρ fun _ σ'=>.ok .next ρ σ'
 | .setitem a i e=>RS.ofE (((evE ns C ρ e).bnd fun v=>(evE ns C ρ a).bnd fun x=>(evE ns C ρ i).bnd fun k=>setV x k v) σ) ρ fun _ σ'=>.ok .next ρ σ'
 | .expr e=>RS.ofE (evE ns C ρ e σ) ρ fun _ σ'=>.ok .next ρ σ'
 | .ret e=>RS.ofE (evE ns C ρ e σ) ρ fun v σ'=>.ok (.ret v) ρ σ'
 | .ite c t f=>RS.ofE (evE ns C ρ c σ) ρ fun v σ'=>match v with
  | .bool true=>evSs C ρ σ' t
  | .bool false=>evSs C ρ σ' f
  | _=>.stuck
 | .forN k src body=>RS.ofE (evSrc ns C ρ src σ) ρ fun p σ'=>forLoop (tgtN k) (fun ρ σ=>evSs C ρ σ body) p.2 p.1 ρ σ'
 | .forP k k' src body=>RS.ofE (evSrc ns C ρ src σ) ρ fun p σ'=>forLoop (tgtP k k') (fun ρ σ=>evSs C ρ σ body) p.2 p.1 ρ σ'
 | .raise c=>.exc c ρ σ
 | .dead=>.stuck
 | .try body c' k v=>match evSs C ρ σ body with
  | .exc c ρ' σ'=>if C.sub c c' then (backV ρ' k v).elim .stuck fun u=>.ok (.ret u) ρ' σ' else .stuck
  | r=>r
noncomputable def evSs (C:Calls) (ρ:Env) (σ:H):List S->RS
 | []=>.ok .next ρ σ
 | s::r=>match evS C ρ σ s with
  | .ok .next ρ' σ'=>evSs C ρ' σ' r
  | x=>x
end
noncomputable def evF (C:Calls) (fn:Fn) (vs:List V):M V:=fun σ=>if vs.length=fn.nargs then
  match evSs ns C (vs.map some++v9 (fn.n - fn.nargs) .none) σ fn.body with
  | .ok (.ret v) _ σ'=>.ok v σ'
  | .ok .next _ σ'=>.ok .none σ'
  | .exc c _ σ'=>.exc c σ'
  | .stuck=>.stuck
 else .stuck
end
structure Tab where
 fns:List Fn
 cls:List (Nat×List (List Nat×Nat))
 sub:Nat->Nat->Bool
noncomputable def mlookOf (T:Tab) (o:V) (m:List Nat):M Nat:=match o with
 | .inst c d=>onD d fun kvs=>match dget kvs m with
  | .none=>pick ((T.cls[c]?).bind fun p=>p.2.lookup m)
  | some _=>stuck
 | _=>stuck
noncomputable def backI (c n:Nat) (r:V):M V:=match r with
 | .none=>.ret (.inst c n)
 | _=>stuck
noncomputable def callsOf (ns:List Int) (T:Tab):Nat->Calls
 | 0=>⟨fun _ _=>stuck,fun _ _=>stuck,mlookOf T,T.sub⟩
 | n + 1=>⟨fun f vs=>match T.fns[f]? with
   | some fn=>evF ns (callsOf ns T n) fn vs
   | .none=>stuck,
   fun c vs=>match T.cls[c]? with
   | some p=>match T.fns[p.1]? with
    | some fn=>fun σ=>(evF ns (callsOf ns T n) fn (.inst c σ.length::vs)).bnd (backI c σ.length) (σ++[.dict []])
    | .none=>stuck
   | .none=>stuck,mlookOf T,T.sub⟩
end Mine
namespace Mine
open PySem
structure GT where
 fns:List Str
 cls:List Str
 con:List (Str×V)
 att:List Str
 own:List Str
structure Cx where
 kinds:List (Str×NameKind)
 slots:List (Str×Nat)
 n:Nat
noncomputable def codes (x:Str):List Nat:=x.cps.toList
noncomputable def Cx.slot (cx:Cx) (x:Str):Option Nat:=match cx.kinds.lookup x with
 | some .local=>cx.slots.lookup x
 | some .cell=>cx.slots.lookup x
 | _=>.none
noncomputable def Cx.glob (cx:Cx) (x:Str):Bool:=decide (cx.kinds.lookup x=some .globalImplicit) && decide (x≠"__debug__")
noncomputable def biName:Bi->Str
 | .len=>"len" | .list=>"list" | .sorted=>"sorted" | .dict=>"dict" | .str=>"str" | .any=>"any" | .all=>"all"
noncomputable def meName:Me->Str
 | .append=>"append" | .find=>"find" | .get=>"get" | .update=>"update" | .startswith=>"startswith" | .insert=>"insert" | .setdefault=>"setdefault" | .index=>"index"
noncomputable def tyName:Ty->Str
 | .int=>"int" | .bool=>"bool" | .str=>"str" | .list=>"list" | .tuple=>"tuple"
noncomputable def opOf:Bin->Operator
 | .add=>.Add | .sub=>.Sub | .mul=>.Mult | .fdiv=>.FloorDiv | .mod=>.Mod | .pow=>.Pow
noncomputable def cmOf:Cmp->CmpOp
 | .eq=>.Eq | .ne=>.NotEq | .lt=>.Lt | .le=>.LtE | .gt=>.Gt | .ge=>.GtE | .is=>.Is | .isnt=>.IsNot | .isin=>.In
noncomputable def litOf:Const->Option V
 | .none=>some .none
 | .bool b=>some (.bool b)
 | .int i=>some (.int i)
 | .str x=>if (codes x).length<=4096 then some (.str (codes x)) else .none
 | _=>.none
noncomputable def relabel (outer:List (Str×NameKind)):List (Str×NameKind)->List (Str×NameKind)
 | []=>[]
 | (x,k)::r=>(x,if k=.free/\outer.lookup x=some .cell then .cell else k)::relabel outer r
noncomputable def blockOk (outer:List (Str×NameKind)) (x:Str):List (Str×NameKind)->Bool
 | []=>true
 | (y,k)::r=>(match k with
   | .local=>decide (y=x) || decide (y=(".0":Str))
   | .free=>decide (outer.lookup y=some .cell)
   | .globalImplicit=>true
   | _=>false) && blockOk outer x r
noncomputable def Cx.inComp (cx:Cx) (x:Str) (sc:Scope):Option Cx :=
 if sc.kind=.function/\blockOk cx.kinds x sc.names=true/\sc.names.lookup x=some .local/\(sc.names.map (·.1)).Nodup/\cx.slots.lookup (".0":Str)=none/\sc.isGenerator=false/\sc.isCoroutine=false then
  some ⟨relabel cx.kinds sc.names,(x,cx.n)::cx.slots,cx.n + 1⟩
 else .none
noncomputable def isName (e:Expr):Bool:=g8 e.ctorIdx 23
noncomputable def plainBase (e:Expr):Bool:=if h:e.ctorIdx=16 then Expr.Call.elim (motive_1:=fun _=>Bool) e h fun f _ _ _=>!isName f else true
noncomputable def plainSrc:Src->Bool
 | .of _=>true
 | .range _=>true
 | .rev _=>true
 | _=>false
noncomputable def mmTree (dv:Bool) (q:Pos) (x y:Expr) (kp p:Pos):Expr:=match dv with
 | true=>.Call (.Name "min" q) [x] [⟨some "default",y,kp⟩] p
 | false=>.Call (.Name "min" q) [x,y] [] p
noncomputable def backE (k:Option Nat) (v:V):E:=k.elim (.lit v) fun k=>.cmp .is (.var k) (.lit .none)
noncomputable def isComp (t:E):Bool:=fc 24 t.ctorIdx
noncomputable def isNil (t:E):Bool:=g8 t.ctorIdx 20
mutual
noncomputable def T (G:GT):E->Cx->Expr->Prop
 | .lit v,_,e=>∃ k i p,e=.Constant k i p/\litOf k=some v
 | .var k,cx,e=>∃ x p,e=.Name x p/\cx.slot x=some k/\(x == ("__debug__":Str))=false
 | .con v,cx,e=>∃ x p,e=.Name x p/\cx.glob x=true/\(x,v)∈G.con
 | .bin op a b,cx,e=>∃ l r p,e=.BinOp l (opOf op) r p/\T G a cx l/\T G b cx r
 | .not a,cx,e=>∃ x p,e=.UnaryOp .Not x p/\T G a cx x
 | .neg a,cx,e=>∃ x p,e=.UnaryOp .USub x p/\T G a cx x
 | .and es,cx,e=>∃ xs p,e=.BoolOp .And xs p/\Ts G es cx xs
 | .or es,cx,e=>∃ xs p,e=.BoolOp .Or xs p/\Ts G es cx xs
 | .cmp op a b,cx,e=>∃ l r p,e=.Compare l [cmOf op] [r] p/\T G a cx l/\T G b cx r
 | .cmp2 op op' a b c,cx,e=>∃ l r r' p,e=.Compare l [cmOf op,cmOf op'] [r,r'] p/\T G a cx l/\T G b cx r/\T G c cx r'
 | .new c es,cx,e=>∃ x q xs p,e=.Call (.Name x q) xs [] p/\cx.glob x=true/\G.own[c]?=some x/\Ts G es cx xs
 | .mcall a m es,cx,e=>∃ o nm ap xs p,e=.Call (.Attribute o nm ap) xs [] p/\codes nm=m/\plainBase o=true/\ap.endLine=p.line/\xs.length < 29/\T G a cx o/\Ts G es cx xs
 | .attr a x,cx,e=>∃ o nm p,e=.Attribute o nm p/\codes nm=x/\nm∈G.att/\plainBase o=true/\T G a cx o
 | .mm dv a b,cx,e=>∃ q x y kp p,e=mmTree dv q x y kp p/\cx.glob "min"=true/\T G a cx x/\T G b cx y
 | .call f es,cx,e=>∃ x q xs p,e=.Call (.Name x q) xs [] p/\cx.glob x=true/\G.fns[f]?=some x/\Ts G es cx xs
 | .bi b a,cx,e=>∃ q x p,e=.Call (.Name (biName b) q) [x] [] p/\cx.glob (biName b)=true/\T G a cx x
 | .isi a t,cx,e=>∃ q x tp p,e=.Call (.Name "isinstance" q) [x,.Name (tyName t) tp] [] p/\cx.glob "isinstance"=true/\cx.glob (tyName t)=true/\T G a cx x
 | .me a m es,cx,e=>∃ o ap xs p,e=.Call (.Attribute o (meName m) ap) xs [] p/\plainBase o=true/\ap.endLine=p.line/\xs.length < 29/\T G a cx o/\Ts G es cx xs
 | .idx a i,cx,e=>∃ v j p,e=.Subscript v j p/\T G a cx v/\T G i cx j
 | .slice a lo hi,cx,e=>∃ v l h q p,e=.Subscript v (.Slice l h none q) p/\T G a cx v/\((l=none/\isNil lo=true)∨∃ x,l=some x/\T G lo cx x)/\((h=none/\isNil hi=true)∨∃ x,h=some x/\T G hi cx x)
 | .nil,_,_=>False
 | .list es,cx,e=>∃ xs p,e=.List xs p/\Ts G es cx xs
 | .tup es,cx,e=>∃ xs k p,e=.Tuple xs k p/\Ts G es cx xs
 | .dict0,_,e=>∃ p,e=.Dict [] [] p
 | .comp src elt,cx,e=>∃ x px it sc p el cx',e=.ListComp el [⟨.Name x px,it,[],0⟩] sc p/\cx.inComp x sc=some cx'/\plainSrc src=true/\TSrc G src cx it/\T G elt cx' el
 | .compIf src elt c,cx,e=>∃ x px it sc p el ce cx',e=.ListComp el [⟨.Name x px,it,[ce],0⟩] sc p/\cx.inComp x sc=some cx'/\plainSrc src=true/\TSrc G src cx it/\T G elt cx' el/\T G c cx' ce
noncomputable def Ts (G:GT):List E->Cx->List Expr->Prop
 | [],_,xs=>xs=[]
 | t::ts,cx,xs=>∃ x r,xs=x::r/\T G t cx x/\Ts G ts cx r
noncomputable def TSrc (G:GT):Src->Cx->Expr->Prop
 | .of t,cx,e=>T G t cx e
 | .range t,cx,e=>∃ q x p,e=.Call (.Name "range" q) [x] [] p/\cx.glob "range"=true/\T G t cx x
 | .enum t,cx,e=>∃ q x p,e=.Call (.Name "enumerate" q) [x] [] p/\cx.glob "enumerate"=true/\T G t cx x
 | .rev t,cx,e=>∃ q x p,e=.Call (.Name "reversed" q) [x] [] p/\cx.glob "reversed"=true/\T G t cx x
 | .zip a b,cx,e=>∃ q x y p,e=.Call (.Name "zip" q) [x,y] [] p/\cx.glob "zip"=true/\T G a cx x/\T G b cx y
end
noncomputable def exprOk (t:E):Bool:=g8 t.ctorIdx 10 || g8 t.ctorIdx 12 || g8 t.ctorIdx 16
mutual
noncomputable def TS (G:GT):S->Cx->Stmt->Prop
 | .assign k t,cx,st=>∃ x px v p,st=.Assign [.Name x px] v p/\cx.slot x=some k/\T G t cx v
 | .setattr a x t,cx,st=>∃ o nm ap v p,st=.Assign [.Attribute o nm ap] v p/\codes nm=x/\nm∈G.att/\nm.length<=4096/\T G a cx o/\T G t cx v/\isComp t=false
 | .setitem a i t,cx,st=>∃ u j sp v p,st=.Assign [.Subscript u j sp] v p/\T G a cx u/\T G i cx j/\T G t cx v/\isComp t=false
 | .expr t,cx,st=>∃ v p,st=.Expr v p/\exprOk t=true/\T G t cx v
 | .ret t,cx,st=>∃ v p,st=.Return (some v) p/\T G t cx v
 | .ite c a b,cx,st=>∃ e x y p,st=.If e x y p/\T G c cx e/\TSs G a cx x/\TSs G b cx y
 | .forN k src b,cx,st=>∃ x px it body p,st=.For (.Name x px) it body [] p/\cx.slot x=some k/\plainSrc src=true/\TSrc G src cx it/\TSs G b cx body
 | .forP k k' src b,cx,st=>∃ x px y py tk tp it body p,st=.For (.Tuple [.Name x px,.Name y py] tk tp) it body [] p/\cx.slot x=some k/\cx.slot y=some k'/\TSrc G src cx it/\TSs G b cx body
 | .raise c,cx,st=>∃ x np m i ap cp p,st=.Raise (some (.Call (.Name x np) [.Constant (.str m) i ap] [] cp)) none p/\cx.glob x=true/\G.cls[c]?=some x/\(codes m).length<=4096
 | .dead,_,_=>True
 | .try b c k v,cx,st=>∃ body x xp e rp hp p,st=.Try body [.ExceptHandler (some (.Name x xp)) none [.Return (some e) rp] hp] [] [] p/\TSs G b cx body/\cx.glob x=true/\G.cls[c]?=some x/\T G (backE k v) cx e
noncomputable def TSs (G:GT):List S->Cx->List Stmt->Prop
 | [],_,xs=>xs=[]
 | t::ts,cx,xs=>∃ x r,xs=x::r/\TS G t cx x/\TSs G ts cx r
end
noncomputable def slotsOf:List (Str×NameKind)->Nat->List (Str×Nat)
 | [],_=>[]
 | (x,.local)::r,i=>(x,i)::slotsOf r (i + 1)
 | (x,.cell)::r,i=>(x,i)::slotsOf r (i + 1)
 | _::r,i=>slotsOf r i
noncomputable def plainArgs (a:Arguments):Bool:=a.posonlyargs.isEmpty && a.vararg.isNone && a.kwonlyargs.isEmpty && a.kwarg.isNone && a.defaults.isEmpty && a.kw_defaults.isEmpty
noncomputable def TFn (G:GT) (fn:Fn) (a:Arguments) (body:List Stmt) (sc:Scope):Prop :=
 ((slotsOf sc.names 0).map (·.1)).take a.args.length=a.args.map (·.arg)/\(sc.names.map (·.1)).Nodup/\sc.kind=.function/\sc.isGenerator=false/\sc.isCoroutine=false /\
  TSs G fn.body ⟨sc.names,slotsOf sc.names 0,(slotsOf sc.names 0).length⟩ body/\fn.nargs=a.args.length/\fn.n=(slotsOf sc.names 0).length
end Mine
namespace Mine
open PySem
theorem lexLe_iff {a b:List Nat}:lexLe a b=true↔a<=b:=by unfold lexLe;rw [wo,decide_eq_false_iff_not];exact List.not_lt
noncomputable abbrev Up (l:List (List Nat)):Prop:=l.Pairwise fun a b=>lexLe a b=true
theorem sort_perm (l:List (List Nat)):(sort lexLe l).Perm l:=j9 l lexLe
theorem sort_up (l:List (List Nat)):Up (sort lexLe l) :=
 List.pairwise_mergeSort (le:=lexLe) (fun _ _ _ h g=>lexLe_iff.mpr (List.le_trans (lexLe_iff.mp h) (lexLe_iff.mp g))) (fun a b=>(wt _ _).mpr ((List.le_total a b).imp lexLe_iff.mpr lexLe_iff.mpr)) l
theorem up_eq {l l':List (List Nat)} (h:l.Perm l') (h1:Up l) (h2:Up l'):l=l' :=
 h.eq_of_pairwise (fun a b _ _ x y=>List.le_antisymm (lexLe_iff.mp x) (lexLe_iff.mp y)) h1 h2
end Mine
namespace Mine.L13
open PySem Mine
noncomputable def f0__wall:Fn:=⟨1,1,[.dead]⟩
noncomputable def f1_is_whole:Fn:=⟨1,1,[.ret (.and [(.isi (.var 0) .int),(.not (.isi (.var 0) .bool))])]⟩
noncomputable def f2_is_head:Fn:=⟨1,1,[.ite (.or [(.not (.isi (.var 0) .str)),(.cmp .gt (.bi .len (.var 0)) (.con (V.int 12)))]) [.ret (.lit (V.bool false))] [],
 .ret (.bi .all (.comp (.of (.var 0)) (.cmp .isin (.var 1) (.con (V.str [97,98,99,100,101,102,103,104,105,106,107,108,109,110,111,112,113,114,115,116,117,118,119,120,121,122,48,49,50,51,52,53,54,55,56,57,46])))))]⟩
noncomputable def f3_is_name:Fn:=⟨1,1,[.ret (.and [(.call 2 [(.var 0)]),(.cmp .gt (.bi .len (.var 0)) (.lit (V.int 0)))])]⟩
noncomputable def f4_is_value:Fn:=⟨1,1,[.ite (.cmp .is (.var 0) (.lit V.none)) [.ret (.lit (V.bool true))] [],
 .ret (.and [(.call 1 [(.var 0)]),(.cmp2 .le .le (.bin .sub (.lit (V.int 0)) (.con (V.int 1000000000000000000000000000000))) (.var 0) (.con (V.int 1000000000000000000000000000000)))])]⟩
noncomputable def f5_is_under:Fn:=⟨2,2,[.ret (.me (.var 0) .startswith [(.var 1)])]⟩
noncomputable def f6_last_place:Fn:=⟨2,4,[.assign 2 (.neg (.lit (V.int 1))),
 .forN 3 (.range (.bi .len (.var 0))) [.ite (.cmp .eq (.idx (.idx (.var 0) (.var 3)) (.lit (V.int 0))) (.var 1)) [.assign 2 (.var 3)] []],
 .ret (.var 2)]⟩
noncomputable def f7_last_values:Fn:=⟨1,4,[.assign 1 .dict0,
 .forP 2 3 (.of (.var 0)) [.setitem (.var 1) (.var 2) (.var 3)],
 .ret (.var 1)]⟩
noncomputable def f8_has_written:Fn:=⟨2,2,[.ret (.cmp .ge (.call 6 [(.attr (.var 0) [119,114,105,116,116,101,110]),(.var 1)]) (.lit (V.int 0)))]⟩
noncomputable def f9_has_looked:Fn:=⟨2,2,[.ite (.cmp .isin (.var 1) (.attr (.var 0) [115,101,101,110])) [.ret (.lit (V.bool true))] [],
 .ret (.bi .any (.comp (.of (.bi .list (.attr (.var 0) [104,101,97,100,115]))) (.call 5 [(.var 1),(.var 2)])))]⟩
noncomputable def f10_told_deed:Fn:=⟨1,1,[.ite (.cmp .eq (.idx (.var 0) (.lit (V.int 0))) (.lit (V.str [117,110,100,101,114]))) [.ret (.tup [(.lit (V.str [117,110,100,101,114])),(.idx (.var 0) (.lit (V.int 1))),(.bi .list (.idx (.var 0) (.lit (V.int 2))))])] [],
 .ret (.var 0)]⟩
noncomputable def f11_is_alike:Fn:=⟨2,2,[.ite (.or [(.cmp .is (.var 0) (.lit V.none)),(.cmp .is (.var 1) (.lit V.none))]) [.ret (.and [(.cmp .is (.var 0) (.lit V.none)),(.cmp .is (.var 1) (.lit V.none))])] [],
 .ret (.and [(.call 1 [(.var 0)]),(.call 1 [(.var 1)]),(.cmp .eq (.var 0) (.var 1))])]⟩
noncomputable def f12_seen_by:Fn:=⟨3,4,[.assign 3 (.call 6 [(.var 1),(.var 2)]),
 .ite (.cmp .ge (.var 3) (.lit (V.int 0))) [.ret (.idx (.idx (.var 1) (.var 3)) (.lit (V.int 1)))] [],
 .ret (.me (.var 0) .get [(.var 2)])]⟩
noncomputable def f13_pairs_of:Fn:=⟨3,7,[.assign 3 (.bi .dict (.var 0)),
 .forP 4 5 (.of (.var 1)) [.setitem (.var 3) (.var 4) (.var 5)],
 .assign 6 (.list []),
 .forN 4 (.of (.bi .sorted (.bi .list (.var 3)))) [.assign 5 (.call 12 [(.var 0),(.var 1),(.var 4)]),
  .ite (.and [(.call 5 [(.var 4),(.var 2)]),(.cmp .isnt (.var 5) (.lit V.none))]) [.expr (.me (.var 6) .append [(.tup [(.var 4),(.var 5)])])] []],
 .ret (.var 6)]⟩
noncomputable def f14_is_same_row:Fn:=⟨2,4,[.ite (.cmp .ne (.bi .len (.var 0)) (.bi .len (.var 1))) [.ret (.lit (V.bool false))] [],
 .forP 2 3 (.zip (.var 0) (.var 1)) [.ite (.or [(.cmp .ne (.idx (.var 2) (.lit (V.int 0))) (.idx (.var 3) (.lit (V.int 0)))),(.not (.call 11 [(.idx (.var 2) (.lit (V.int 1))),(.idx (.var 3) (.lit (V.int 1)))]))]) [.ret (.lit (V.bool false))] []],
 .ret (.lit (V.bool true))]⟩
noncomputable def f15_done_by:Fn:=⟨2,4,[.assign 2 (.list []),
 .forN 3 (.of (.var 1)) [.ite (.cmp .eq (.idx (.var 3) (.lit (V.int 0))) (.lit (V.str [114,101,97,100]))) [.ite (.not (.call 11 [(.call 12 [(.var 0),(.var 2),(.idx (.var 3) (.lit (V.int 1)))]),(.idx (.var 3) (.lit (V.int 2)))])) [.raise 9] []] [.ite (.cmp .eq (.idx (.var 3) (.lit (V.int 0))) (.lit (V.str [117,110,100,101,114]))) [.ite (.not (.call 14 [(.call 13 [(.var 0),(.var 2),(.idx (.var 3) (.lit (V.int 1)))]),(.idx (.var 3) (.lit (V.int 2)))])) [.raise 9] []] [.ite (.cmp .eq (.idx (.var 3) (.lit (V.int 0))) (.lit (V.str [119,114,105,116,101]))) [.assign 2 (.bin .add (.var 2) (.list [(.tup [(.idx (.var 3) (.lit (V.int 1))),(.idx (.var 3) (.lit (V.int 2)))])]))] [.assign 2 (.slice (.var 2) .nil (.idx (.var 3) (.lit (V.int 1))))]]]],
 .ret (.var 2)]⟩
noncomputable def f16_walked:Fn:=⟨1,3,[.assign 1 .dict0,
 .forN 2 (.of (.var 0)) [.expr (.me (.var 1) .update [(.call 7 [(.call 15 [(.var 1),(.var 2)])])])],
 .ret (.compIf (.of (.bi .sorted (.bi .list (.var 1)))) (.tup [(.var 3),(.idx (.var 1) (.var 3))]) (.cmp .isnt (.idx (.var 1) (.var 3)) (.lit V.none)))]⟩
noncomputable def f17_place_in:Fn:=⟨3,6,[.assign 3 (.bi .len (.var 0)),
 .forN 4 (.range (.bi .len (.var 0))) [.ite (.cmp .isin (.idx (.var 0) (.var 4)) (.var 2)) [.assign 3 (.mm false (.var 3) (.var 4))] []],
 .forN 5 (.of (.var 1)) [.ite (.cmp .ge (.me (.var 0) .index [(.var 5)]) (.var 3)) [.ret (.lit V.none)] []],
 .ret (.var 3)]⟩
noncomputable def f18_whole:Fn:=⟨1,1,[.ret (.and [(.isi (.var 0) .int),(.not (.isi (.var 0) .bool))])]⟩
noncomputable def f19_cell_at:Fn:=⟨2,2,[.ite (.cmp .lt (.var 1) (.bi .len (.var 0))) [.ret (.idx (.var 0) (.var 1))] [],
 .ret (.lit (V.int 0))]⟩
noncomputable def f20_mixed:Fn:=⟨1,1,[.ret (.bin .mod (.bin .add (.bin .mul (.var 0) (.lit (V.int 48271))) (.lit (V.int 7919))) (.lit (V.int 2147483647)))]⟩
noncomputable def f21_name_by:Fn:=⟨1,5,[.assign 1 (.lit (V.str [97,98,99,100,101,102,103,104,105,106,107,108,109,110,111,112,113,114,115,116,117,118,119,120,121,122,48,49,50,51,52,53,54,55,56,57,46])),
 .assign 2 (.lit (V.str [])),
 .assign 3 (.var 0),
 .forN 4 (.range (.bin .add (.lit (V.int 1)) (.bin .mod (.var 0) (.lit (V.int 12))))) [.assign 3 (.call 20 [(.var 3)]),
  .assign 2 (.bin .add (.var 2) (.idx (.var 1) (.bin .mod (.var 3) (.lit (V.int 37)))))],
 .ret (.var 2)]⟩
noncomputable def f22_twin:Fn:=⟨2,5,[.assign 2 (.lit (V.str [97,98,99,100,101,102,103,104,105,106,107,108,109,110,111,112,113,114,115,116,117,118,119,120,121,122,48,49,50,51,52,53,54,55,56,57,46])),
 .assign 3 (.bin .mod (.var 1) (.bi .len (.var 0))),
 .assign 4 (.bin .add (.bin .add (.me (.var 2) .find [(.idx (.var 0) (.var 3))]) (.lit (V.int 1))) (.bin .mod (.bin .fdiv (.var 1) (.lit (V.int 12))) (.lit (V.int 36)))),
 .ret (.bin .add (.bin .add (.slice (.var 0) .nil (.var 3)) (.idx (.var 2) (.bin .mod (.var 4) (.lit (V.int 37))))) (.slice (.var 0) (.bin .add (.var 3) (.lit (V.int 1))) .nil))]⟩
noncomputable def f23_pool:Fn:=⟨2,5,[.assign 2 (.call 21 [(.var 0)]),
 .assign 3 (.call 21 [(.var 1)]),
 .assign 4 (.list [(.var 2),(.call 22 [(.var 2),(.var 1)]),(.var 3),(.slice (.bin .add (.var 2) (.var 3)) .nil (.lit (V.int 12))),(.slice (.var 2) .nil (.bin .add (.lit (V.int 1)) (.bin .mod (.var 1) (.bi .len (.var 2)))))]),
 .assign 4 (.slice (.bin .add (.var 4) (.list [(.slice (.bin .add (.var 3) (.lit (V.str [46]))) .nil (.lit (V.int 12))),(.slice (.bin .add (.bin .add (.var 3) (.lit (V.str [97]))) (.var 2)) .nil (.lit (V.int 12)))])) .nil (.bin .add (.lit (V.int 1)) (.bin .mod (.bin .fdiv (.var 0) (.lit (V.int 7))) (.lit (V.int 7))))),
 .ite (.cmp .eq (.bin .mod (.bin .fdiv (.var 1) (.lit (V.int 7))) (.lit (V.int 4))) (.lit (V.int 1))) [.assign 4 (.bin .add (.var 4) (.comp (.range (.bin .mod (.bin .fdiv (.var 1) (.lit (V.int 28))) (.lit (V.int 130)))) (.bin .add (.lit (V.str [110])) (.bi .str (.var 5)))))] [],
 .ret (.var 4)]⟩
noncomputable def f24_value_by:Fn:=⟨1,1,[.ite (.cmp .eq (.bin .mod (.var 0) (.lit (V.int 7))) (.lit (V.int 3))) [.ret (.lit V.none)] [],
 .ite (.cmp .eq (.bin .mod (.var 0) (.lit (V.int 7))) (.lit (V.int 4))) [.ret (.idx (.list [(.lit (V.int 0)),(.lit (V.int 1)),(.neg (.lit (V.int 1))),(.bin .pow (.lit (V.int 10)) (.lit (V.int 30))),(.neg (.bin .pow (.lit (V.int 10)) (.lit (V.int 30))))]) (.bin .mod (.bin .fdiv (.var 0) (.lit (V.int 7))) (.lit (V.int 5))))] [],
 .ite (.cmp .eq (.bin .mod (.var 0) (.lit (V.int 7))) (.lit (V.int 5))) [.ret (.bin .mod (.bin .fdiv (.var 0) (.lit (V.int 7))) (.lit (V.int 9)))] [],
 .ret (.bin .sub (.bin .mod (.bin .fdiv (.var 0) (.lit (V.int 7))) (.bin .add (.bin .mul (.lit (V.int 2)) (.bin .pow (.lit (V.int 10)) (.lit (V.int 30)))) (.lit (V.int 1)))) (.bin .pow (.lit (V.int 10)) (.lit (V.int 30))))]⟩
noncomputable def f25_same:Fn:=⟨2,2,[.ite (.or [(.cmp .is (.var 1) (.lit V.none)),(.cmp .is (.var 0) (.lit V.none))]) [.ret (.and [(.cmp .is (.var 1) (.lit V.none)),(.cmp .is (.var 0) (.lit V.none))])] [],
 .ret (.and [(.call 18 [(.var 0)]),(.cmp .eq (.var 0) (.var 1))])]⟩
noncomputable def f26_pairs:Fn:=⟨2,3,[.ite (.or [(.not (.isi (.var 0) .list)),(.cmp .ne (.bi .len (.var 0)) (.bi .len (.var 1)))]) [.ret (.lit (V.bool false))] [],
 .forN 2 (.range (.bi .len (.var 1))) [.ite (.or [(.not (.isi (.idx (.var 0) (.var 2)) .tuple)),(.cmp .ne (.bi .len (.idx (.var 0) (.var 2))) (.lit (V.int 2))),(.not (.isi (.idx (.idx (.var 0) (.var 2)) (.lit (V.int 0))) .str))]) [.dead] [],
  .ite (.or [(.cmp .ne (.idx (.idx (.var 0) (.var 2)) (.lit (V.int 0))) (.idx (.idx (.var 1) (.var 2)) (.lit (V.int 0)))),(.not (.call 25 [(.idx (.idx (.var 0) (.var 2)) (.lit (V.int 1))),(.idx (.idx (.var 1) (.var 2)) (.lit (V.int 1)))]))]) [.ret (.lit (V.bool false))] []],
 .ret (.lit (V.bool true))]⟩
noncomputable def f27_last:Fn:=⟨1,3,[.assign 1 .dict0,
 .forN 2 (.of (.var 0)) [.setitem (.var 1) (.idx (.var 2) (.lit (V.int 0))) (.idx (.var 2) (.lit (V.int 1)))],
 .ret (.var 1)]⟩
noncomputable def f28_told_under:Fn:=⟨3,5,[.assign 3 (.bi .dict (.var 0)),
 .expr (.me (.var 3) .update [(.var 1)]),
 .assign 4 (.compIf (.of (.bi .sorted (.var 3))) (.var 5) (.cmp .eq (.slice (.var 5) .nil (.bi .len (.var 2))) (.var 2))),
 .ret (.compIf (.of (.var 4)) (.tup [(.var 5),(.idx (.var 3) (.var 5))]) (.cmp .isnt (.idx (.var 3) (.var 5)) (.lit V.none)))]⟩
noncomputable def f29_deed_by:Fn:=⟨5,7,[.ite (.cmp .lt (.bin .mod (.var 3) (.lit (V.int 16))) (.lit (V.int 4))) [.ret (.tup [(.lit (V.str [114,101,97,100])),(.var 2),(.mcall (.var 0) [114,101,97,100] [(.var 1),(.var 2)])])] [],
 .ite (.cmp .lt (.bin .mod (.var 3) (.lit (V.int 16))) (.lit (V.int 7))) [.assign 5 (.slice (.var 2) .nil (.bin .mod (.bin .fdiv (.var 3) (.lit (V.int 16))) (.bin .add (.bi .len (.var 2)) (.lit (V.int 1))))),
  .ite (.cmp .eq (.bin .mod (.bin .fdiv (.var 3) (.lit (V.int 208))) (.lit (V.int 4))) (.lit (V.int 3))) [.assign 5 (.slice (.bin .add (.var 5) (.lit (V.str [113]))) .nil (.lit (V.int 12)))] [],
  .ret (.tup [(.lit (V.str [117,110,100,101,114])),(.var 5),(.mcall (.var 0) [117,110,100,101,114] [(.var 1),(.var 5)])])] [],
 .ite (.cmp .lt (.bin .mod (.var 3) (.lit (V.int 16))) (.lit (V.int 12))) [.expr (.mcall (.var 0) [119,114,105,116,101] [(.var 1),(.var 2),(.call 24 [(.var 4)])]),
  .ret (.tup [(.lit (V.str [119,114,105,116,101])),(.var 2),(.call 24 [(.var 4)])])] [],
 .assign 6 (.bin .mod (.bin .fdiv (.var 3) (.lit (V.int 16))) (.bin .add (.mcall (.var 0) [109,97,100,101] [(.var 1)]) (.lit (V.int 1)))),
 .expr (.mcall (.var 0) [98,97,99,107] [(.var 1),(.var 6)]),
 .ret (.tup [(.lit (V.str [98,97,99,107])),(.var 6)])]⟩
noncomputable def f30_tried:Fn:=⟨7,7,[.try [.ite (.cmp .lt (.bin .mod (.var 5) (.lit (V.int 16))) (.lit (V.int 13))) [.expr (.me (.idx (.var 1) (.var 3)) .append [(.call 29 [(.var 0),(.var 3),(.var 4),(.var 5),(.var 6)])])] [.ite (.or [(.cmp .lt (.bin .mod (.var 5) (.lit (V.int 16))) (.lit (V.int 15))),(.cmp .eq (.bin .mod (.bin .fdiv (.var 5) (.lit (V.int 16))) (.lit (V.int 2))) (.lit (V.int 0)))]) [.expr (.mcall (.var 0) [107,101,101,112] [(.var 3)]),
    .expr (.me (.var 2) .append [(.var 3)])] [.expr (.mcall (.var 0) [100,114,111,112] [(.var 3)])]]] 0 .none (V.bool false),
 .ret (.lit (V.bool true))]⟩
noncomputable def f31_short:Fn:=⟨5,7,[.forN 5 (.range (.var 4)) [.expr (.me (.var 1) .append [(.list [])]),
  .assign 6 (.bin .sub (.bi .len (.var 1)) (.lit (V.int 1))),
  .ite (.cmp .eq (.mcall (.var 0) [98,101,103,105,110] []) (.var 6)) [.expr (.call 30 [(.var 0),(.var 1),(.var 2),(.var 6),(.idx (.var 3) (.bin .mod (.var 5) (.bi .len (.var 3)))),(.lit (V.int 7)),(.var 5)]),
   .expr (.call 30 [(.var 0),(.var 1),(.var 2),(.var 6),(.lit (V.str [])),(.lit (V.int 13)),(.lit (V.int 0))])] []]]⟩
noncomputable def f32_played:Fn:=⟨3,11,[.assign 3 (.list [(.list [])]),
 .assign 4 (.list []),
 .ite (.cmp .ne (.mcall (.var 0) [98,101,103,105,110] []) (.lit (V.int 0))) [.dead] [],
 .forP 5 6 (.enum (.var 2)) [.expr (.call 30 [(.var 0),(.var 3),(.var 4),(.lit (V.int 0)),(.var 6),(.lit (V.int 7)),(.var 5)])],
 .expr (.call 30 [(.var 0),(.var 3),(.var 4),(.lit (V.int 0)),(.lit (V.str [])),(.lit (V.int 13)),(.lit (V.int 0))]),
 .forP 7 8 (.enum (.var 1)) [.assign 9 (.call 20 [(.bin .add (.var 8) (.bin .mul (.lit (V.int 131)) (.var 7)))]),
  .assign 10 (.bin .sub (.bin .sub (.bi .len (.var 3)) (.lit (V.int 1))) (.bin .mod (.bin .fdiv (.var 9) (.lit (V.int 800))) (.mm false (.bi .len (.var 3)) (.lit (V.int 4))))),
  .ite (.cmp .eq (.bin .mod (.var 7) (.lit (V.int 6))) (.lit (V.int 2))) [.assign 10 (.bin .mod (.bin .fdiv (.var 9) (.lit (V.int 800))) (.mm false (.bi .len (.var 3)) (.lit (V.int 4))))] [],
  .ite (.cmp .eq (.bin .mod (.var 7) (.lit (V.int 6))) (.lit (V.int 5))) [.assign 10 (.bin .mod (.bin .fdiv (.var 9) (.lit (V.int 800))) (.bi .len (.var 3)))] [],
  .ite (.cmp .eq (.bin .mod (.var 9) (.lit (V.int 5))) (.lit (V.int 0))) [.expr (.me (.var 3) .append [(.list [])]),
   .ite (.cmp .ne (.mcall (.var 0) [98,101,103,105,110] []) (.bin .sub (.bi .len (.var 3)) (.lit (V.int 1)))) [.dead] []] [.ite (.and [(.cmp .eq (.bin .mod (.bin .fdiv (.var 9) (.lit (V.int 5))) (.lit (V.int 80))) (.lit (V.int 7))),(.cmp .lt (.bi .len (.var 3)) (.lit (V.int 60)))]) [.expr (.call 31 [(.var 0),(.var 3),(.var 4),(.var 2),(.bin .mod (.bin .fdiv (.var 9) (.lit (V.int 800))) (.lit (V.int 40)))])] [.expr (.call 30 [(.var 0),(.var 3),(.var 4),(.var 10),(.idx (.var 2) (.bin .mod (.bin .fdiv (.var 9) (.lit (V.int 9600))) (.bi .len (.var 2)))),(.bin .fdiv (.var 9) (.lit (V.int 1315200))),(.var 8)])]],
  .ite (.cmp .eq (.bin .mod (.bin .fdiv (.var 9) (.lit (V.int 400))) (.lit (V.int 4))) (.lit (V.int 0))) [.expr (.mcall (.var 0) [115,119,101,101,112] [])] []],
 .ret (.tup [(.var 3),(.var 4)])]⟩
noncomputable def f33_left_by:Fn:=⟨1,6,[.assign 1 .dict0,
 .forN 2 (.of (.var 0)) [.assign 3 (.list []),
  .forN 4 (.of (.var 2)) [.assign 5 (.call 27 [(.var 3)]),
   .ite (.cmp .eq (.idx (.var 4) (.lit (V.int 0))) (.lit (V.str [119,114,105,116,101]))) [.expr (.me (.var 3) .append [(.tup [(.idx (.var 4) (.lit (V.int 1))),(.idx (.var 4) (.lit (V.int 2)))])])] [.ite (.cmp .eq (.idx (.var 4) (.lit (V.int 0))) (.lit (V.str [98,97,99,107]))) [.assign 3 (.slice (.var 3) .nil (.idx (.var 4) (.lit (V.int 1))))] [.ite (.and [(.cmp .eq (.idx (.var 4) (.lit (V.int 0))) (.lit (V.str [114,101,97,100]))),(.not (.call 25 [(.idx (.var 4) (.lit (V.int 2))),(.me (.var 5) .get [(.idx (.var 4) (.lit (V.int 1))),(.me (.var 1) .get [(.idx (.var 4) (.lit (V.int 1)))])])]))]) [.ret (.lit V.none)] [.ite (.and [(.cmp .eq (.idx (.var 4) (.lit (V.int 0))) (.lit (V.str [117,110,100,101,114]))),(.not (.call 26 [(.idx (.var 4) (.lit (V.int 2))),(.call 28 [(.var 1),(.var 5),(.idx (.var 4) (.lit (V.int 1)))])]))]) [.ret (.lit V.none)] []]]]],
  .expr (.me (.var 1) .update [(.call 27 [(.var 3)])])],
 .ret (.var 1)]⟩
noncomputable def f34_walks:Fn:=⟨1,3,[.assign 1 (.call 33 [(.var 0)]),
 .try [.assign 2 (.call 16 [(.var 0)])] 9 (some 1) V.none,
 .ret (.and [(.cmp .isnt (.var 1) (.lit V.none)),(.call 26 [(.var 2),(.call 28 [(.var 1),.dict0,(.lit (V.str []))])])])]⟩
noncomputable def f35_versions_good:Fn:=⟨3,7,[.assign 3 (.mcall (.var 0) [118,101,114,115,105,111,110,115] [(.var 1)]),
 .ite (.not (.isi (.var 3) .list)) [.dead] [],
 .assign 4 (.lit (V.int 0)),
 .assign 5 (.lit V.none),
 .forN 6 (.of (.var 3)) [.ite (.or [(.not (.isi (.var 6) .tuple)),(.cmp .ne (.bi .len (.var 6)) (.lit (V.int 2))),(.not (.call 18 [(.idx (.var 6) (.lit (V.int 0)))])),(.cmp .le (.idx (.var 6) (.lit (V.int 0))) (.var 4))]) [.dead] [],
  .assign 4 (.idx (.var 6) (.lit (V.int 0))),
  .assign 5 (.idx (.var 6) (.lit (V.int 1)))],
 .ret (.and [(.cmp .le (.var 4) (.mcall (.var 0) [109,111,109,101,110,116] [])),(.call 25 [(.var 5),(.var 2)])])]⟩
noncomputable def f36_law:Fn:=⟨1,8,[.assign 1 (.call 23 [(.call 19 [(.var 0),(.lit (V.int 0))]),(.call 19 [(.var 0),(.lit (V.int 1))])]),
 .assign 2 (.new 1 []),
 .assign 3 (.call 32 [(.var 2),(.slice (.var 0) (.lit (V.int 2)) (.lit (V.int 92))),(.var 1)]),
 .ite (.cmp .is (.var 3) (.lit V.none)) [.dead] [],
 .assign 4 (.mcall (.var 2) [111,114,100,101,114] []),
 .assign 5 (.comp (.of (.var 4)) (.mcall (.var 2) [100,101,101,100,115] [(.var 8)])),
 .assign 6 (.call 33 [(.var 5)]),
 .ite (.or [(.cmp .is (.var 6) (.lit V.none)),(.not (.call 34 [(.var 5)]))]) [.dead] [],
 .forN 7 (.of (.var 1)) [.ite (.or [(.not (.call 25 [(.mcall (.var 2) [118,97,108,117,101] [(.var 7)]),(.me (.var 6) .get [(.var 7)])])),(.not (.call 35 [(.var 2),(.var 7),(.me (.var 6) .get [(.var 7)])]))]) [.dead] []],
 .ret (.call 34 [(.comp (.rev (.var 4)) (.mcall (.var 2) [100,101,101,100,115] [(.var 8)]))])]⟩
noncomputable def f37_Dealing___init__:Fn:=⟨2,2,[.setattr (.var 0) [115,116,97,114,116] (.var 1),
 .setattr (.var 0) [115,116,97,116,101] (.lit (V.str [111,112,101,110])),
 .setattr (.var 0) [107,101,112,116,95,97,116] (.lit (V.int 0)),
 .setattr (.var 0) [119,114,105,116,116,101,110] (.list []),
 .setattr (.var 0) [115,97,105,100] (.list []),
 .setattr (.var 0) [115,101,101,110] .dict0,
 .setattr (.var 0) [104,101,97,100,115] .dict0]⟩
noncomputable def f38_Shelf___init__:Fn:=⟨1,1,[.setattr (.var 0) [115,116,111,99,107] .dict0,
 .setattr (.var 0) [100,101,97,108,105,110,103,115] (.list []),
 .setattr (.var 0) [114,111,119] (.list [])]⟩
noncomputable def f39_Shelf_need_dealing:Fn:=⟨2,2,[.ite (.or [(.not (.call 1 [(.var 1)])),(.not (.cmp2 .le .lt (.lit (V.int 0)) (.var 1) (.bi .len (.attr (.var 0) [100,101,97,108,105,110,103,115]))))]) [.dead] [],
 .ret (.idx (.attr (.var 0) [100,101,97,108,105,110,103,115]) (.var 1))]⟩
noncomputable def f40_Shelf_need_open:Fn:=⟨2,3,[.assign 2 (.mcall (.var 0) [110,101,101,100,95,100,101,97,108,105,110,103] [(.var 1)]),
 .ite (.cmp .ne (.attr (.var 2) [115,116,97,116,101]) (.lit (V.str [111,112,101,110]))) [.raise 2] [],
 .ret (.var 2)]⟩
noncomputable def f41_Shelf_need_name:Fn:=⟨2,2,[.ite (.not (.call 3 [(.var 1)])) [.dead] []]⟩
noncomputable def f42_Shelf_at_moment:Fn:=⟨3,6,[.assign 3 (.lit V.none),
 .forP 4 5 (.of (.me (.attr (.var 0) [115,116,111,99,107]) .get [(.var 1),(.list [])])) [.ite (.cmp .le (.var 4) (.var 2)) [.assign 3 (.var 5)] []],
 .ret (.var 3)]⟩
noncomputable def f43_Shelf_seen_by:Fn:=⟨3,4,[.assign 3 (.call 6 [(.attr (.var 1) [119,114,105,116,116,101,110]),(.var 2)]),
 .ite (.cmp .ge (.var 3) (.lit (V.int 0))) [.ret (.idx (.idx (.attr (.var 1) [119,114,105,116,116,101,110]) (.var 3)) (.lit (V.int 1)))] [],
 .ret (.mcall (.var 0) [97,116,95,109,111,109,101,110,116] [(.var 2),(.attr (.var 1) [115,116,97,114,116])])]⟩
noncomputable def f44_Shelf_begin:Fn:=⟨1,1,[.expr (.me (.attr (.var 0) [100,101,97,108,105,110,103,115]) .append [(.new 0 [(.bi .len (.attr (.var 0) [114,111,119]))])]),
 .ret (.bin .sub (.bi .len (.attr (.var 0) [100,101,97,108,105,110,103,115])) (.lit (V.int 1)))]⟩
noncomputable def f45_Shelf_read:Fn:=⟨3,5,[.assign 3 (.mcall (.var 0) [110,101,101,100,95,111,112,101,110] [(.var 1)]),
 .expr (.mcall (.var 0) [110,101,101,100,95,110,97,109,101] [(.var 2)]),
 .assign 4 (.mcall (.var 0) [115,101,101,110,95,98,121] [(.var 3),(.var 2)]),
 .ite (.not (.call 8 [(.var 3),(.var 2)])) [.setitem (.attr (.var 3) [115,101,101,110]) (.var 2) (.lit (V.bool true))] [],
 .expr (.me (.attr (.var 3) [115,97,105,100]) .append [(.tup [(.lit (V.str [114,101,97,100])),(.var 2),(.var 4)])]),
 .ret (.var 4)]⟩
noncomputable def f46_Shelf_under:Fn:=⟨3,8,[.assign 3 (.mcall (.var 0) [110,101,101,100,95,111,112,101,110] [(.var 1)]),
 .ite (.not (.call 2 [(.var 2)])) [.dead] [],
 .assign 4 .dict0,
 .forN 5 (.of (.bi .list (.attr (.var 0) [115,116,111,99,107]))) [.setitem (.var 4) (.var 5) (.lit (V.bool true))],
 .forP 5 6 (.of (.attr (.var 3) [119,114,105,116,116,101,110])) [.setitem (.var 4) (.var 5) (.lit (V.bool true))],
 .assign 7 (.list []),
 .forN 5 (.of (.bi .sorted (.bi .list (.var 4)))) [.assign 6 (.mcall (.var 0) [115,101,101,110,95,98,121] [(.var 3),(.var 5)]),
  .ite (.and [(.call 5 [(.var 5),(.var 2)]),(.cmp .isnt (.var 6) (.lit V.none))]) [.expr (.me (.var 7) .append [(.tup [(.var 5),(.var 6)])])] []],
 .setitem (.attr (.var 3) [104,101,97,100,115]) (.var 2) (.lit (V.bool true)),
 .expr (.me (.attr (.var 3) [115,97,105,100]) .append [(.tup [(.lit (V.str [117,110,100,101,114])),(.var 2),(.bi .list (.var 7))])]),
 .ret (.var 7)]⟩
noncomputable def f47_Shelf_write:Fn:=⟨4,9,[.assign 4 (.mcall (.var 0) [110,101,101,100,95,111,112,101,110] [(.var 1)]),
 .expr (.mcall (.var 0) [110,101,101,100,95,110,97,109,101] [(.var 2)]),
 .ite (.not (.call 4 [(.var 3)])) [.dead] [],
 .forN 5 (.range (.bi .len (.attr (.var 0) [100,101,97,108,105,110,103,115]))) [.assign 6 (.idx (.attr (.var 0) [100,101,97,108,105,110,103,115]) (.var 5)),
  .ite (.and [(.cmp .ne (.var 5) (.var 1)),(.cmp .eq (.attr (.var 6) [115,116,97,116,101]) (.lit (V.str [111,112,101,110]))),(.call 8 [(.var 6),(.var 2)])]) [.raise 6] []],
 .forP 7 8 (.of (.me (.attr (.var 0) [115,116,111,99,107]) .get [(.var 2),(.list [])])) [.ite (.cmp .gt (.var 7) (.attr (.var 4) [115,116,97,114,116])) [.raise 7] []],
 .expr (.me (.attr (.var 4) [119,114,105,116,116,101,110]) .append [(.tup [(.var 2),(.var 3)])]),
 .expr (.me (.attr (.var 4) [115,97,105,100]) .append [(.tup [(.lit (V.str [119,114,105,116,101])),(.var 2),(.var 3)])])]⟩
noncomputable def f48_Shelf_made:Fn:=⟨2,2,[.ret (.bi .len (.attr (.mcall (.var 0) [110,101,101,100,95,111,112,101,110] [(.var 1)]) [119,114,105,116,116,101,110]))]⟩
noncomputable def f49_Shelf_back:Fn:=⟨3,4,[.assign 3 (.mcall (.var 0) [110,101,101,100,95,111,112,101,110] [(.var 1)]),
 .ite (.or [(.not (.call 1 [(.var 2)])),(.not (.cmp2 .le .le (.lit (V.int 0)) (.var 2) (.bi .len (.attr (.var 3) [119,114,105,116,116,101,110]))))]) [.dead] [],
 .setattr (.var 3) [119,114,105,116,116,101,110] (.slice (.attr (.var 3) [119,114,105,116,116,101,110]) .nil (.var 2)),
 .expr (.me (.attr (.var 3) [115,97,105,100]) .append [(.tup [(.lit (V.str [98,97,99,107])),(.var 2)])])]⟩
noncomputable def f50_Shelf_must_be_ahead:Fn:=⟨4,5,[.forN 4 (.of (.var 3)) [.ite (.or [(.call 8 [(.var 1),(.var 4)]),(.call 9 [(.var 1),(.var 4)])]) [.ret (.lit (V.bool true))] []],
 .ret (.and [(.cmp .le (.attr (.var 1) [107,101,112,116,95,97,116]) (.attr (.var 2) [115,116,97,114,116])),(.mcall (.var 0) [119,97,115,95,108,111,111,107,101,100,95,97,116] [(.var 1),(.var 2)])])]⟩
noncomputable def f51_Shelf_was_looked_at:Fn:=⟨3,3,[.ret (.bi .any (.comp (.of (.bi .list (.call 7 [(.attr (.var 1) [119,114,105,116,116,101,110])]))) (.call 9 [(.var 2),(.var 3)])))]⟩
noncomputable def f52_Shelf_keep:Fn:=⟨2,11,[.assign 2 (.mcall (.var 0) [110,101,101,100,95,111,112,101,110] [(.var 1)]),
 .assign 3 (.bi .list (.call 7 [(.attr (.var 2) [119,114,105,116,116,101,110])])),
 .assign 4 (.list []),
 .assign 5 (.list []),
 .forN 6 (.of (.attr (.var 0) [114,111,119])) [.assign 7 (.idx (.attr (.var 0) [100,101,97,108,105,110,103,115]) (.var 6)),
  .ite (.mcall (.var 0) [109,117,115,116,95,98,101,95,97,104,101,97,100] [(.var 7),(.var 2),(.var 3)]) [.expr (.me (.var 4) .append [(.var 6)])] [],
  .ite (.and [(.cmp .gt (.attr (.var 7) [107,101,112,116,95,97,116]) (.attr (.var 2) [115,116,97,114,116])),(.mcall (.var 0) [119,97,115,95,108,111,111,107,101,100,95,97,116] [(.var 7),(.var 2)])]) [.expr (.me (.var 5) .append [(.var 6)])] []],
 .assign 8 (.call 17 [(.attr (.var 0) [114,111,119]),(.var 4),(.var 5)]),
 .ite (.cmp .is (.var 8) (.lit V.none)) [.setattr (.var 2) [115,116,97,116,101] (.lit (V.str [100,114,111,112,112,101,100])),
  .raise 8] [],
 .expr (.me (.attr (.var 0) [114,111,119]) .insert [(.var 8),(.var 1)]),
 .setattr (.var 2) [115,116,97,116,101] (.lit (V.str [107,101,112,116])),
 .setattr (.var 2) [107,101,112,116,95,97,116] (.bi .len (.attr (.var 0) [114,111,119])),
 .assign 9 (.call 7 [(.attr (.var 2) [119,114,105,116,116,101,110])]),
 .forN 10 (.of (.var 3)) [.expr (.me (.me (.attr (.var 0) [115,116,111,99,107]) .setdefault [(.var 10),(.list [])]) .append [(.tup [(.attr (.var 2) [107,101,112,116,95,97,116]),(.idx (.var 9) (.var 10))])])],
 .ret (.var 8)]⟩
noncomputable def f53_Shelf_drop:Fn:=⟨2,3,[.assign 2 (.mcall (.var 0) [110,101,101,100,95,111,112,101,110] [(.var 1)]),
 .setattr (.var 2) [115,116,97,116,101] (.lit (V.str [100,114,111,112,112,101,100]))]⟩
noncomputable def f54_Shelf_order:Fn:=⟨1,1,[.ret (.bi .list (.attr (.var 0) [114,111,119]))]⟩
noncomputable def f55_Shelf_moment:Fn:=⟨1,1,[.ret (.bi .len (.attr (.var 0) [114,111,119]))]⟩
noncomputable def f56_Shelf_ended:Fn:=⟨2,2,[.dead]⟩
noncomputable def f57_Shelf_deeds:Fn:=⟨2,2,[.ret (.comp (.of (.attr (.mcall (.var 0) [110,101,101,100,95,100,101,97,108,105,110,103] [(.var 1)]) [115,97,105,100])) (.call 10 [(.var 2)]))]⟩
noncomputable def f58_Shelf_value:Fn:=⟨2,2,[.expr (.mcall (.var 0) [110,101,101,100,95,110,97,109,101] [(.var 1)]),
 .ret (.mcall (.var 0) [97,116,95,109,111,109,101,110,116] [(.var 1),(.bi .len (.attr (.var 0) [114,111,119]))])]⟩
noncomputable def f59_Shelf_versions:Fn:=⟨2,2,[.expr (.mcall (.var 0) [110,101,101,100,95,110,97,109,101] [(.var 1)]),
 .ret (.bi .list (.me (.attr (.var 0) [115,116,111,99,107]) .get [(.var 1),(.list [])]))]⟩
noncomputable def f60_Shelf_sweep:Fn:=⟨1,6,[.assign 1 (.mm true (.compIf (.of (.attr (.var 0) [100,101,97,108,105,110,103,115])) (.attr (.var 6) [115,116,97,114,116]) (.cmp .eq (.attr (.var 6) [115,116,97,116,101]) (.lit (V.str [111,112,101,110])))) (.bi .len (.attr (.var 0) [114,111,119]))),
 .assign 2 (.lit (V.int 0)),
 .forN 3 (.of (.bi .list (.attr (.var 0) [115,116,111,99,107]))) [.assign 4 (.idx (.attr (.var 0) [115,116,111,99,107]) (.var 3)),
  .assign 5 (.bin .sub (.bi .len (.compIf (.of (.var 4)) (.var 6) (.cmp .le (.idx (.var 6) (.lit (V.int 0))) (.var 1)))) (.lit (V.int 1))),
  .ite (.cmp .gt (.var 5) (.lit (V.int 0))) [.setitem (.attr (.var 0) [115,116,111,99,107]) (.var 3) (.slice (.var 4) (.var 5) .nil),
   .assign 2 (.bin .add (.var 2) (.var 5))] []],
 .ret (.var 2)]⟩
noncomputable def fs:List Fn:=[f0__wall,f1_is_whole,f2_is_head,f3_is_name,f4_is_value,f5_is_under,f6_last_place,f7_last_values,f8_has_written,f9_has_looked,f10_told_deed,f11_is_alike,f12_seen_by,f13_pairs_of,f14_is_same_row,f15_done_by,f16_walked,f17_place_in,f18_whole,f19_cell_at,f20_mixed,f21_name_by,f22_twin,f23_pool,f24_value_by,f25_same,f26_pairs,f27_last,f28_told_under,f29_deed_by,f30_tried,f31_short,f32_played,f33_left_by,f34_walks,f35_versions_good,f36_law,f37_Dealing___init__,f38_Shelf___init__,f39_Shelf_need_dealing,f40_Shelf_need_open,f41_Shelf_need_name,f42_Shelf_at_moment,f43_Shelf_seen_by,f44_Shelf_begin,f45_Shelf_read,f46_Shelf_under,f47_Shelf_write,f48_Shelf_made,f49_Shelf_back,f50_Shelf_must_be_ahead,f51_Shelf_was_looked_at,f52_Shelf_keep,f53_Shelf_drop,f54_Shelf_order,f55_Shelf_moment,f56_Shelf_ended,f57_Shelf_deeds,f58_Shelf_value,f59_Shelf_versions,f60_Shelf_sweep]
noncomputable def cls:List (Nat×List (List Nat×Nat)):=[(37,[]),(38,[([110,101,101,100,95,100,101,97,108,105,110,103],39),([110,101,101,100,95,111,112,101,110],40),([110,101,101,100,95,110,97,109,101],41),([97,116,95,109,111,109,101,110,116],42),([115,101,101,110,95,98,121],43),([98,101,103,105,110],44),([114,101,97,100],45),([117,110,100,101,114],46),([119,114,105,116,101],47),([109,97,100,101],48),([98,97,99,107],49),([109,117,115,116,95,98,101,95,97,104,101,97,100],50),([119,97,115,95,108,111,111,107,101,100,95,97,116],51),([107,101,101,112],52),([100,114,111,112],53),([111,114,100,101,114],54),([109,111,109,101,110,116],55),([101,110,100,101,100],56),([100,101,101,100,115],57),([118,97,108,117,101],58),([118,101,114,115,105,111,110,115],59),([115,119,101,101,112],60)])]
noncomputable def fnN:List Str:=(["_wall","is_whole","is_head","is_name","is_value","is_under","last_place","last_values","has_written","has_looked","told_deed","is_alike","seen_by","pairs_of","is_same_row","done_by","walked","place_in","_law_whole","_law_cell_at"]:List Str)++(["_law_mixed","_law_name_by","_law_twin","_law_pool","_law_value_by","_law_same","_law_pairs","_law_last","_law_told_under","_law_deed_by","_law_tried","_law_short","_law_played","_law_left_by","_law_walks","_law_versions_good","law"]:List Str)
noncomputable def exN:List Str:=["DealError","NoDealing","Over","NoName","NoValue","NoMark","Taken","Late","Crossed","Unlike"]
noncomputable def owN:List Str:=["Dealing","Shelf"]
noncomputable def meN:List (Str×Str):=[("Dealing","__init__"),("Shelf","__init__"),("Shelf","need_dealing"),("Shelf","need_open"),("Shelf","need_name"),("Shelf","at_moment"),("Shelf","seen_by"),("Shelf","begin"),("Shelf","read"),("Shelf","under"),("Shelf","write"),("Shelf","made"),("Shelf","back"),("Shelf","must_be_ahead"),("Shelf","was_looked_at"),("Shelf","keep"),("Shelf","drop"),("Shelf","order"),("Shelf","moment"),("Shelf","ended"),("Shelf","deeds"),("Shelf","value"),("Shelf","versions"),("Shelf","sweep")]
end Mine.L13
namespace Mine.P
open PySem Mine
section
variable {ns:List Int}{C:Calls}{ρ ρ' ρ₁ ρ₂:Env}{σ σ' σ₁ σ₂ σ₃ σ₄:H}{a b c e:E}{x y z v w:V}{es:List E}{vs:List V}
theorem bnd_ok {α β:Type}{m:M α}{k:α->M β}{σ σ':H}{a:α} (e:m σ=.ok a σ'):m.bnd k σ=k a σ':=by unfold M.bnd;exact gw e rfl
theorem bnd2 {α β:Type}{m:M α}{k:α->M β}{σ σ':H}{a:α}{r:R β} (e:m σ=.ok a σ') (h:k a σ'=r):m.bnd k σ=r:=(bnd_ok e).trans h
theorem bndx {α β:Type}{m:M α}{k:α->M β}{σ σ':H}{c:Nat} (e:m σ=.exc c σ'):m.bnd k σ=.exc c σ':=by unfold M.bnd;exact gw e rfl
noncomputable abbrev Ev (ns:List Int) (C:Calls) (ρ:Env) (e:E) (σ:H) (v:V) (σ':H):Prop:=evE ns C ρ e σ=.ok v σ'
noncomputable abbrev Evs (ns:List Int) (C:Calls) (ρ:Env) (e:List E) (σ:H) (v:List V) (σ':H):Prop:=evEs ns C ρ e σ=.ok v σ'
theorem e_bin {op:Bin} (h1:Ev ns C ρ a σ x σ₁) (h2:Ev ns C ρ b σ₁ y σ₂) (h3:binV op x y σ₂=.ok v σ₃):Ev ns C ρ (.bin op a b) σ v σ₃:=bnd2 h1 (bnd2 h2 h3)
theorem e_cmp {op:Cmp} (h1:Ev ns C ρ a σ x σ₁) (h2:Ev ns C ρ b σ₁ y σ₂) (h3:cmpV op x y σ₂=.ok v σ₃):Ev ns C ρ (.cmp op a b) σ v σ₃:=bnd2 h1 (bnd2 h2 h3)
theorem e_not (h1:Ev ns C ρ a σ x σ₁) (h3:notV x σ₁=.ok v σ₂):Ev ns C ρ (.not a) σ v σ₂:=bnd2 h1 h3
theorem e_call {f:Nat} (h1:Evs ns C ρ es σ vs σ₁) (h3:C.call f vs σ₁=.ok v σ₂):Ev ns C ρ (.call f es) σ v σ₂:=bnd2 h1 h3
theorem e_bi {bb:Bi} (h1:Ev ns C ρ a σ x σ₁) (h3:biV ns bb x σ₁=.ok v σ₂):Ev ns C ρ (.bi bb a) σ v σ₂:=bnd2 h1 h3
theorem e_isi {t:Ty} (h1:Ev ns C ρ a σ x σ₁) (h3:isiV t x σ₁=.ok v σ₂):Ev ns C ρ (.isi a t) σ v σ₂:=bnd2 h1 h3
theorem e_me {m:Me} (h1:Ev ns C ρ a σ x σ₁) (h2:meK m x σ₁=.ok w σ₂) (h3:Evs ns C ρ es σ₂ vs σ₃) (h4:meV x m vs σ₃=.ok v σ₄):Ev ns C ρ (.me a m es) σ v σ₄:=bnd2 h1 (bnd2 h2 (bnd2 h3 h4))
theorem e_idx (h1:Ev ns C ρ a σ x σ₁) (h2:Ev ns C ρ b σ₁ y σ₂) (h3:idxV ns x y σ₂=.ok v σ₃):Ev ns C ρ (.idx a b) σ v σ₃:=bnd2 h1 (bnd2 h2 h3)
theorem e_slice (h1:Ev ns C ρ a σ x σ₁) (h2:Ev ns C ρ b σ₁ y σ₂) (h3:Ev ns C ρ c σ₂ z σ₃) (h4:sliceV ns x y z σ₃=.ok v σ₄):Ev ns C ρ (.slice a b c) σ v σ₄:=bnd2 h1 (bnd2 h2 (bnd2 h3 h4))
theorem newL_ok {xs:List V} (h:xs.length<=lim):newL xs σ=.ok (.ref σ.length) (σ++[.list xs]):=by unfold newL;refine gw (if_pos h ..) ?_;rfl
theorem e_list (h1:Evs ns C ρ es σ vs σ₁) (h:vs.length<=lim):Ev ns C ρ (.list es) σ (.ref σ₁.length) (σ₁++[.list vs]):=bnd2 h1 (newL_ok h)
theorem e_tup (h1:Evs ns C ρ es σ vs σ₁) (h:vs.length<=lim):Ev ns C ρ (.tup es) σ (.tup vs) σ₁:=bnd2 h1 (by unfold mkT;refine gw (if_pos h ..) ?_;rfl)
theorem es_nil:Evs ns C ρ [] σ [] σ:=rfl
theorem es_cons (h1:Ev ns C ρ e σ x σ₁) (h2:Evs ns C ρ es σ₁ vs σ₂):Evs ns C ρ (e::es) σ (x::vs) σ₂:=bnd2 h1 (bnd2 h2 rfl)
theorem es_one (h1:Ev ns C ρ e σ x σ₁):Evs ns C ρ [e] σ [x] σ₁:=bnd2 h1 rfl
theorem es_two {e':E} (h1:Ev ns C ρ e σ x σ₁) (h2:Ev ns C ρ e' σ₁ y σ₂):Evs ns C ρ [e,e'] σ [x,y] σ₂:=es_cons h1 (es_one h2)
theorem es_three {e' e'':E} (h1:Ev ns C ρ e σ x σ₁) (h2:Ev ns C ρ e' σ₁ y σ₂) (h3:Ev ns C ρ e'' σ₂ z σ₃):Evs ns C ρ [e,e',e''] σ [x,y,z] σ₃:=es_cons h1 (es_two h2 h3)
theorem and1 {p:Bool} (h1:Ev ns C ρ e σ (.bool p) σ₁):evAnd ns C ρ [e] σ=.ok (.bool p) σ₁:=bnd2 h1 rfl
theorem andF {e':E}{r:List E} (h1:Ev ns C ρ e σ (.bool false) σ₁):evAnd ns C ρ (e::e'::r) σ=.ok (.bool false) σ₁:=bnd2 h1 rfl
theorem andT {e':E}{r:List E}{R₀:R V} (h1:Ev ns C ρ e σ (.bool true) σ₁) (h2:evAnd ns C ρ (e'::r) σ₁=R₀):evAnd ns C ρ (e::e'::r) σ=R₀:=bnd2 h1 h2
theorem or1 {p:Bool} (h1:Ev ns C ρ e σ (.bool p) σ₁):evOr ns C ρ [e] σ=.ok (.bool p) σ₁:=bnd2 h1 rfl
theorem orT {e':E}{r:List E} (h1:Ev ns C ρ e σ (.bool true) σ₁):evOr ns C ρ (e::e'::r) σ=.ok (.bool true) σ₁:=bnd2 h1 rfl
theorem orF {e':E}{r:List E}{R₀:R V} (h1:Ev ns C ρ e σ (.bool false) σ₁) (h2:evOr ns C ρ (e'::r) σ₁=R₀):evOr ns C ρ (e::e'::r) σ=R₀:=bnd2 h1 h2
theorem and2 {e':E}{p q:Bool} (h1:Ev ns C ρ e σ (.bool p) σ) (h2:Ev ns C ρ e' σ (.bool q) σ):Ev ns C ρ (.and [e,e']) σ (.bool (p && q)) σ:=by
 cases p
 ·exact andF h1
 ·exact andT h1 (and1 h2)
theorem or2 {e':E}{p q:Bool} (h1:Ev ns C ρ e σ (.bool p) σ) (h2:Ev ns C ρ e' σ (.bool q) σ):Ev ns C ρ (.or [e,e']) σ (.bool (p || q)) σ:=by
 cases p
 ·exact orF h1 (or1 h2)
 ·exact orT h1
variable {r t f:List S}{Res:RS}
noncomputable def after (ns:List Int) (C:Calls) (r:List S) (x:RS):RS:=match x with
 | .ok .next ρ' σ'=>evSs ns C ρ' σ' r
 | x=>x
theorem ss_cons {s:S}:evSs ns C ρ σ (s::r)=after ns C r (evS ns C ρ σ s):=rfl
theorem v_assign {k:Nat}:evS ns C ρ σ (.assign k e)=RS.ofE (evE ns C ρ e σ) ρ (fun v σ'=>if k < ρ.length then .ok .next (ρ.set k (some v)) σ' else .stuck):=rfl
theorem v_ret:evS ns C ρ σ (.ret e)=RS.ofE (evE ns C ρ e σ) ρ (fun v σ'=>.ok (.ret v) ρ σ'):=rfl
theorem v_expr:evS ns C ρ σ (.expr e)=RS.ofE (evE ns C ρ e σ) ρ (fun _ σ'=>.ok .next ρ σ'):=rfl
theorem v_set:evS ns C ρ σ (.setitem a b e)=RS.ofE (((evE ns C ρ e).bnd fun v=>(evE ns C ρ a).bnd fun x=>(evE ns C ρ b).bnd fun k=>setV x k v) σ) ρ (fun _ σ'=>.ok .next ρ σ'):=rfl
theorem v_forN {k:Nat}{src:Src}{body:List S}:evS ns C ρ σ (.forN k src body)=RS.ofE (evSrc ns C ρ src σ) ρ (fun p σ'=>forLoop (tgtN k) (fun ρ σ=>evSs ns C ρ σ body) p.2 p.1 ρ σ'):=rfl
theorem v_forP {k k':Nat}{src:Src}{body:List S}:evS ns C ρ σ (.forP k k' src body)=RS.ofE (evSrc ns C ρ src σ) ρ (fun p σ'=>forLoop (tgtP k k') (fun ρ σ=>evSs ns C ρ σ body) p.2 p.1 ρ σ'):=rfl
theorem v_if:evS ns C ρ σ (.ite c t f)=RS.ofE (evE ns C ρ c σ) ρ (fun v σ'=>match v with | .bool true=>evSs ns C ρ σ' t | .bool false=>evSs ns C ρ σ' f | _=>.stuck):=rfl
theorem s_assign {k:Nat} (h1:Ev ns C ρ e σ v σ₁) (hk:Nat.blt k ρ.length=true) (h2:evSs ns C (ρ.set k (some v)) σ₁ r=Res):evSs ns C ρ σ (.assign k e::r)=Res:=by
 refine gw (ss_cons ..) (gw (v_assign ..) (gw (show evE ns C ρ e σ=_ from h1) ?_))
 show after ns C r (if k < ρ.length then RS.ok .next (ρ.set k (some v)) σ₁ else .stuck)=Res
 refine gw (if_pos (show k < ρ.length from xu hk)) ?_;exact h2
theorem s_ret (h1:Ev ns C ρ e σ v σ₁):evSs ns C ρ σ (.ret e::r)=.ok (.ret v) ρ σ₁:=by
 refine gw (ss_cons ..) (gw (v_ret ..) ?_)
 refine gw (show evE ns C ρ e σ=_ from h1) ?_;rfl
theorem s_expr (h1:Ev ns C ρ e σ v σ₁) (h2:evSs ns C ρ σ₁ r=Res):evSs ns C ρ σ (.expr e::r)=Res:=by
 refine gw (ss_cons ..) (gw (v_expr ..) ?_)
 refine gw (show evE ns C ρ e σ=_ from h1) ?_;exact h2
theorem s_set (h1:Ev ns C ρ e σ v σ₁) (h2:Ev ns C ρ a σ₁ x σ₂) (h3:Ev ns C ρ b σ₂ y σ₃) (h4:setV x y v σ₃=.ok w σ₄) (h5:evSs ns C ρ σ₄ r=Res):evSs ns C ρ σ (.setitem a b e::r)=Res:=by
 refine gw (ss_cons ..) (gw (v_set ..) ?_)
 refine gw (show ((evE ns C ρ e).bnd fun v=>(evE ns C ρ a).bnd fun x=>(evE ns C ρ b).bnd fun k=>setV x k v) σ=.ok w σ₄ from bnd2 h1 (bnd2 h2 (bnd2 h3 h4))) ?_;exact h5
theorem s_if {p:Bool} (h1:Ev ns C ρ c σ (.bool p) σ₁) (h2:after ns C r (evSs ns C ρ σ₁ (if p then t else f))=Res):evSs ns C ρ σ (.ite c t f::r)=Res:=by
 refine gw (ss_cons ..) (gw (v_if ..) ?_)
 refine gw (show evE ns C ρ c σ=_ from h1) ?_
 cases p <;> exact h2
theorem s_ifT (h1:Ev ns C ρ c σ (.bool true) σ₁) (h2:after ns C r (evSs ns C ρ σ₁ t)=Res):evSs ns C ρ σ (.ite c t f::r)=Res:=s_if (p:=true) h1 h2
theorem s_ifF (h1:Ev ns C ρ c σ (.bool false) σ₁) (h2:evSs ns C ρ σ₁ r=Res):evSs ns C ρ σ (.ite c t []::r)=Res:=s_if (p:=false) h1 h2
theorem after_next {x:RS} (h:x=.ok .next ρ' σ') (h2:evSs ns C ρ' σ' r=Res):after ns C r x=Res:=by refine gw h ?_;exact h2
theorem after_end {x:RS} (h:x=.ok (.ret v) ρ' σ'):after ns C r x=.ok (.ret v) ρ' σ':=by refine gw h ?_;rfl
theorem after_exc {x:RS}{k:Nat} (h:x=.exc k ρ' σ'):after ns C r x=.exc k ρ' σ':=by exact gw h rfl
theorem v_try {b:List S}{k:Nat}{o:Option Nat}:evS ns C ρ σ (.try b k o v)=(match evSs ns C ρ σ b with | .exc c ρ' σ'=>(if C.sub c k then (backV ρ' o v).elim .stuck fun u=>.ok (.ret u) ρ' σ' else .stuck) | r=>r):=rfl
theorem s_try {b:List S}{k:Nat}{o:Option Nat}{f:Fl} (h:evSs ns C ρ σ b=.ok f ρ₁ σ₁) (h2:after ns C r (.ok f ρ₁ σ₁)=Res):evSs ns C ρ σ (.try b k o v::r)=Res:=by
 refine gw ss_cons (gw v_try (gw h ?_));exact h2
theorem s_tryX {b:List S}{k c:Nat}{o:Option Nat} (hs:C.sub c k=true) (h:evSs ns C ρ σ b=.exc c ρ₁ σ₁) (hb:backV ρ₁ o v=some w):evSs ns C ρ σ (.try b k o v::r)=.ok (.ret w) ρ₁ σ₁:=by
 refine gw ss_cons (gw v_try (gw h ?_))
 show after ns C r (if C.sub c k then (backV ρ₁ o v).elim .stuck fun u=>.ok (.ret u) ρ₁ σ₁ else .stuck)=_
 exact gw (if_pos hs) (gw hb rfl)
theorem s_raise {k:Nat}:evSs ns C ρ σ (.raise k::r)=.exc k ρ σ:=rfl
theorem s_exprX {k:Nat} (h:evE ns C ρ e σ=.exc k σ'):evSs ns C ρ σ (.expr e::r)=.exc k ρ σ':=by
 refine gw ss_cons (gw v_expr (gw h ?_));rfl
theorem s_assignX {j k:Nat} (h:evE ns C ρ e σ=.exc k σ'):evSs ns C ρ σ (.assign j e::r)=.exc k ρ σ':=by
 refine gw ss_cons (gw v_assign (gw h ?_));rfl
theorem s_retX {k:Nat} (h:evE ns C ρ e σ=.exc k σ'):evSs ns C ρ σ (.ret e::r)=.exc k ρ σ':=by
 refine gw ss_cons (gw v_ret (gw h ?_));rfl
theorem ss_nil:evSs ns C ρ σ []=.ok .next ρ σ:=rfl
theorem s_forN {k:Nat}{src:Src}{body:List S}{it:It}{n:Nat} (h1:evSrc ns C ρ src σ=.ok (it,n) σ₁) (h2:after ns C r (forLoop (tgtN k) (fun ρ σ=>evSs ns C ρ σ body) n it ρ σ₁)=Res):evSs ns C ρ σ (.forN k src body::r)=Res:=by
 refine gw (ss_cons ..) (gw (v_forN ..) ?_)
 rw [h1,RS.ofE];exact h2
theorem s_forP {k k':Nat}{src:Src}{body:List S}{it:It}{n:Nat} (h1:evSrc ns C ρ src σ=.ok (it,n) σ₁) (h2:after ns C r (forLoop (tgtP k k') (fun ρ σ=>evSs ns C ρ σ body) n it ρ σ₁)=Res):evSs ns C ρ σ (.forP k k' src body::r)=Res:=by
 refine gw (ss_cons ..) (gw (v_forP ..) ?_)
 rw [h1,RS.ofE];exact h2
theorem f_ret {fn:Fn} (hl:vs.length=fn.nargs) (h:evSs ns C (vs.map some++v9 (fn.n - fn.nargs) .none) σ fn.body=.ok (.ret v) ρ' σ'):evF ns C fn vs σ=.ok v σ':=by
 unfold evF;exact gw (if_pos hl ..) (gw h rfl)
theorem f_exc {fn:Fn}{k:Nat} (hl:vs.length=fn.nargs) (h:evSs ns C (vs.map some++v9 (fn.n - fn.nargs) .none) σ fn.body=.exc k ρ' σ'):evF ns C fn vs σ=.exc k σ':=by
 unfold evF;exact gw (if_pos hl) (gw h rfl)
theorem for_stop {tgt:V->Env->Option Env}{body:Env->H->RS}{n:Nat}{it:It} (h:nextIt it σ=some .none):forLoop tgt body n it ρ σ=.ok .next ρ σ:=by
 refine gw (for_eq ..) (gw h ?_);rfl
theorem for_step {tgt:V->Env->Option Env}{body:Env->H->RS}{n:Nat}{it it':It} (h:nextIt it σ=some (some (v,it'))) (ht:tgt v ρ=some ρ₁) (hb:body ρ₁ σ=.ok .next ρ₂ σ₂) (hr:forLoop tgt body n it' ρ₂ σ₂=Res):forLoop tgt body (n + 1) it ρ σ=Res:=by
 refine gw (for_eq ..) (gw h ?_);show turn tgt body ρ σ v _=_;unfold turn;refine gw ht ?_;show thenN (body ρ₁ σ) _=_;refine gw hb ?_;exact hr
theorem for_end {tgt:V->Env->Option Env}{body:Env->H->RS}{n:Nat}{it it':It}{R:RS} (h:nextIt it σ=some (some (v,it'))) (ht:tgt v ρ=some ρ₁) (hb:body ρ₁ σ=R) (hk:∀ k,thenN R k=R):forLoop tgt body (n + 1) it ρ σ=R:=by
 refine gw for_eq (gw h ?_);show turn tgt body ρ σ v _=_;unfold turn;refine gw ht ?_;show thenN (body ρ₁ σ) _=_;refine gw hb ?_;exact hk _
noncomputable def Below (p:Nat->Prop):Nat->Prop
 | 0=>True
 | n + 1=>Below p n/\p n
@[elab_as_elim] theorem below {motive:Nat->Prop}{w n:Nat} (h:w < n) (q:Below motive n):motive w:=by
 induction n with
 | zero=>exact absurd h (y5 _)
 | succ n ih=>exact if e:w=n then e▸q.2 else ih (yy (z4 h) e) q.1
theorem lt_of {i m N:Nat} (e:i + (m + 1)=N):i < N:=e▸jg (ja m)
theorem sc_of {i m N:Nat} (e:i + (m + 1)=N):i + 1 + m=N:=(xq i m).trans e
theorem lm {n:Nat} (h:n<=1000):n<=lim:=za h (by decide)
theorem lm1 {n:Nat} (h:n<=10000):n + 1<=lim:=za (zq h) (by decide)
theorem lmx {n m:Nat} (h:n<=m + 1) (h':m<=10000):n<=lim:=za h (lm1 h')
theorem nz (n:Nat):-4611686018427387904 < (n:Int):=vu (by decide) (z8 n)
theorem ns_ {n:Nat} (h:n<=10000):(n:Int) < 4611686018427387904:=wv (yw.mpr h) (by decide)
theorem nlt {n m:Nat} (h:m<=n):¬ (n:Int) < m:=u9.mpr (yw.mpr h)
theorem for_all {tgt:V->Env->Option Env}{body:Env->H->RS}{it:Nat->It} (P:Nat->Env->H->Prop) (N:Nat)
  (stop:∀ ρ σ,P N ρ σ->nextIt (it N) σ=some .none)
  (step:∀ i ρ σ,i < N->P i ρ σ->∃ v ρ₁ ρ₂ σ₂,nextIt (it i) σ=some (some (v,it (i + 1)))/\tgt v ρ=some ρ₁/\body ρ₁ σ=.ok .next ρ₂ σ₂/\P (i + 1) ρ₂ σ₂) :
  ∀ (m i:Nat) (ρ:Env) (σ:H),i + m=N->P i ρ σ->∃ ρ' σ',forLoop tgt body m (it i) ρ σ=.ok .next ρ' σ'/\P N ρ' σ':=by
 intro m
 induction m with
 | zero =>
  intro i ρ σ e p
  obtain rfl:i=N:=e
  exact ⟨ρ,σ,for_stop (stop ρ σ p),p⟩
 | succ m ih =>
  intro i ρ σ e p
  refine ex4 (step i ρ σ (lt_of e) p) fun v ρ₁ ρ₂ σ₂ q_h=>?_;refine an4 q_h fun h1 h2 h3 h4=>?_
  refine ex2 (ih (i + 1) ρ₂ σ₂ (sc_of e) h4) fun ρ' σ' q_h=>?_;obtain ⟨h5,h6⟩:=q_h
  exact ⟨ρ',σ',for_step h1 h2 h3 h5,h6⟩
end
noncomputable abbrev Gr (σ σ':H):Prop:=σ <+: σ'
theorem Gr.rfl {σ:H}:Gr σ σ:=List.prefix_refl σ
theorem Gr.app (σ τ:H):Gr σ (σ++τ):=List.prefix_append σ τ
theorem Gr.tr {a b c:H} (h:Gr a b) (h':Gr b c):Gr a c:=List.IsPrefix.trans h h'
theorem Gr.at {σ σ':H} (h:Gr σ σ') {i:Nat}{o:O} (e:σ[i]?=some o):σ'[i]?=some o:=by
 obtain ⟨τ,rfl⟩:=h
 refine gw (y7 (zc.mp e).1 ..) ?_;exact e
theorem listAt_of {σ:H}{l:Nat}{xs:List V} (h:σ[l]?=some (.list xs)):listAt σ l=some xs:=by unfold listAt;exact gw h rfl
theorem dictAt_of {σ:H}{l:Nat}{xs:List (List Nat×V)} (h:σ[l]?=some (.dict xs)):dictAt σ l=some xs:=by unfold dictAt;exact gw h rfl
theorem at_new (σ:H) (o:O):(σ++[o])[σ.length]?=some o:=by refine gw (zw (ze _) ..) (gw (xv ..) ?_);rfl
theorem set_new (σ:H) (o o':O):(σ++[o]).set σ.length o'=σ++[o']:=by refine gw (jq _ _ (ze _) ..) (gw (xv ..) ?_);rfl
theorem onL_ok {α:Type}{σ:H}{l:Nat}{xs:List V}{f:List V->M α} (h:σ[l]?=some (.list xs)):onL l f σ=f xs σ:=by unfold onL;exact gw (listAt_of h ..) rfl
theorem onD_ok {α:Type}{σ:H}{l:Nat}{xs:List (List Nat×V)}{f:List (List Nat×V)->M α} (h:σ[l]?=some (.dict xs)):onD l f σ=f xs σ:=by unfold onD;exact gw (dictAt_of h ..) rfl
section
variable {ns:List Int}{C:Calls}{ρ:Env}{σ σ' σ₁ σ₂:H}
theorem gather_all {f:V->M (Option V)}{it:Nat->It} (P:Nat->List V->H->Prop) (N:Nat) (stop:∀ acc σ,P N acc σ->nextIt (it N) σ=some .none)
  (step:∀ i acc σ,i < N->P i acc σ->∃ v,nextIt (it i) σ=some (some (v,it (i + 1)))/\((∃ x σ',f v σ=.ok (some x) σ'/\acc.length + 1<=lim/\P (i + 1) (acc++[x]) σ')∨∃ σ',f v σ=.ok .none σ'/\P (i + 1) acc σ')) :
  ∀ (m i:Nat) (acc:List V) (σ:H),i + m=N->P i acc σ->∃ acc' σ',gather f m (it i) acc σ=.ok acc' σ'/\P N acc' σ':=by
 intro m
 induction m with
 | zero =>
  intro i acc σ e p
  obtain rfl:i=N:=e
  exact ⟨acc,σ,by refine gw (gather_eq ..) (gw (stop acc σ p ..) ?_);rfl,p⟩
 | succ m ih =>
  intro i acc σ e p
  obtain ⟨v,h1,h2⟩:=step i acc σ (lt_of e) p
  rcases h2 with ⟨x,σ',h2,hl,h3⟩ | ⟨σ',h2,h3⟩
  ·refine ex2 (ih (i + 1) (acc++[x]) σ' (sc_of e) h3) fun acc' σ'' q_h=>?_;obtain ⟨h4,h5⟩:=q_h
   exact ⟨acc',σ'',by refine gw (gather_eq ..) (gw h1 ?_);show gat acc _ (f v σ)=_;refine gw h2 ?_;exact (if_pos hl).trans h4,h5⟩
  ·refine ex2 (ih (i + 1) acc σ' (sc_of e) h3) fun acc' σ'' q_h=>?_;obtain ⟨h4,h5⟩:=q_h
   exact ⟨acc',σ'',by refine gw (gather_eq ..) (gw h1 ?_);show gat acc _ (f v σ)=_;refine gw h2 ?_;exact h4,h5⟩
noncomputable def fElt (ns:List Int) (C:Calls) (ρ:Env) (elt:E) (v:V):M (Option V):=(evE ns C (ρ++[some v]) elt).bnd fun x=>.ret (some x)
theorem fElt_ok {elt:E}{v x:V} (h:Ev ns C (ρ++[some v]) elt σ x σ'):fElt ns C ρ elt v σ=.ok (some x) σ':=bnd2 h rfl
theorem e_comp {src:Src}{elt:E}{it:It}{n:Nat}{xs:List V} (h1:evSrc ns C ρ src σ=.ok (it,n) σ₁) (h2:gather (fElt ns C ρ elt) n it [] σ₁=.ok xs σ₂):Ev ns C ρ (.comp src elt) σ (.ref σ₂.length) (σ₂++[.list xs]):=by
 exact bnd2 h1 (bnd2 (a:=xs) (σ':=σ₂) h2 rfl)
noncomputable def fIf (ns:List Int) (C:Calls) (ρ:Env) (elt cond:E) (v:V):M (Option V):=(evE ns C (ρ++[some v]) cond).bnd fun t=>match t with
 | .bool true=>(evE ns C (ρ++[some v]) elt).bnd fun x=>.ret (some x)
 | .bool false=>.ret .none
 | _=>stuck
theorem fIf_t {elt cond:E}{v x:V} (h1:Ev ns C (ρ++[some v]) cond σ (.bool true) σ₁) (h:Ev ns C (ρ++[some v]) elt σ₁ x σ'):fIf ns C ρ elt cond v σ=.ok (some x) σ':=bnd2 h1 (bnd2 h rfl)
theorem fIf_f {elt cond:E}{v:V} (h1:Ev ns C (ρ++[some v]) cond σ (.bool false) σ₁):fIf ns C ρ elt cond v σ=.ok .none σ₁:=bnd2 h1 rfl
theorem e_compIf {src:Src}{elt cond:E}{it:It}{n:Nat}{xs:List V} (h1:evSrc ns C ρ src σ=.ok (it,n) σ₁) (h2:gather (fIf ns C ρ elt cond) n it [] σ₁=.ok xs σ₂):Ev ns C ρ (.compIf src elt cond) σ (.ref σ₂.length) (σ₂++[.list xs]):=by
 exact bnd2 h1 (bnd2 (a:=xs) (σ':=σ₂) h2 rfl)
theorem src_range {e:E}{k:Int} (h:Ev ns C ρ e σ (.int k) σ₁) (h0:-4611686018427387904 < k) (h1:k < 4611686018427387904):evSrc ns C ρ (.range e) σ=.ok (.range 0 k.toNat,k.toNat) σ₁ :=
 bnd2 h (by show (if -4611686018427387904 < k/\k < 4611686018427387904 then M.ret (It.range 0 k.toNat,k.toNat) else stuck) σ₁=_;refine gw (if_pos ⟨h0,h1⟩ ..) ?_;rfl)
theorem src_of {e:E}{l:Nat}{xs:List V} (h:Ev ns C ρ e σ (.ref l) σ₁) (hl:σ₁[l]?=some (.list xs)):evSrc ns C ρ (.of e) σ=.ok (.list l 0,xs.length) σ₁ :=
 bnd2 h (by show pick ((listAt σ₁ l).map fun xs=>(It.list l 0,xs.length)) σ₁=_;refine gw (listAt_of hl ..) ?_;rfl)
theorem src_enum {e:E}{l:Nat}{xs:List V} (h:Ev ns C ρ e σ (.ref l) σ₁) (hl:σ₁[l]?=some (.list xs)):evSrc ns C ρ (.enum e) σ=.ok (.enum l 0,xs.length) σ₁ :=
 bnd2 h (by show pick (((listAt σ₁ l).map fun xs=>(l,xs.length)).map fun p=>(It.enum p.1 0,p.2)) σ₁=_;refine gw (listAt_of hl ..) ?_;rfl)
theorem next_range {i N:Nat} (h:i < N):nextIt (.range i N) σ=some (some (.int i,.range (i + 1) N)):=congrArg some (if_pos h)
theorem stop_range {N:Nat}:nextIt (.range N N) σ=some .none:=congrArg some (if_neg (xj _))
theorem next_list {l i:Nat}{xs:List V}{v:V} (hl:σ[l]?=some (.list xs)) (h:xs[i]?=some v):nextIt (.list l i) σ=some (some (v,.list l (i + 1))):=by unfold nextIt;dsimp only;refine gw (listAt_of hl ..) (gw (ju ..) (gw h ?_));rfl
theorem stop_list {l:Nat}{xs:List V} (hl:σ[l]?=some (.list xs)):nextIt (.list l xs.length) σ=some .none:=by unfold nextIt;dsimp only;refine gw (listAt_of hl ..) (gw (ju ..) (gw (w6 (ze _) ..) ?_));rfl
theorem next_enum {l i:Nat}{xs:List V}{v:V} (hl:σ[l]?=some (.list xs)) (h:xs[i]?=some v):nextIt (.enum l i) σ=some (some (.tup [.int i,v],.enum l (i + 1))):=by unfold nextIt;dsimp only;refine gw (listAt_of hl ..) (gw (ju ..) (gw h ?_));rfl
theorem stop_enum {l:Nat}{xs:List V} (hl:σ[l]?=some (.list xs)):nextIt (.enum l xs.length) σ=some .none:=by unfold nextIt;dsimp only;refine gw (listAt_of hl ..) (gw (ju ..) (gw (w6 (ze _) ..) ?_));rfl
theorem idxN_nat {k:Int}{n:Nat} (h0:0<=k) (h1:k.toNat < n):idxN k n=some k.toNat:=by unfold idxN;exact gw (if_pos h0 ..) (gw (if_pos h1 ..) rfl)
theorem idxS {x:List Nat}{k:Int} (h0:0<=k) (h1:k.toNat < x.length):idxV ns (.str x) (.int k) σ=.ok (.str [x[k.toNat]]) σ:=by
 show pick (((idxN k x.length).bind (x[·]?)).map fun c=>V.str [c]) σ=_
 refine gw (idxN_nat h0 h1 ..) (gw (ww ..) (gw (zf h1 ..) ?_));rfl
theorem idxL {l:Nat}{xs:List V}{k:Int}{v:V} (hl:σ[l]?=some (.list xs)) (h0:0<=k) (h1:xs[k.toNat]?=some v):idxV ns (.ref l) (.int k) σ=.ok v σ:=by
 show onL l (fun xs=>pick ((idxN k xs.length).bind (xs[·]?))) σ=_
 refine gw (onL_ok hl ..) (gw (idxN_nat h0 (zc.mp h1).1 ..) (gw (ww ..) (gw h1 ?_)));rfl
theorem idxD {l:Nat}{kvs:List (List Nat×V)}{x:List Nat}{v:V} (hl:σ[l]?=some (.dict kvs)) (h1:dget kvs x=some v):idxV ns (.ref l) (.str x) σ=.ok v σ:=by
 show onD l (fun kvs=>pick (dget kvs x)) σ=_
 refine gw (onD_ok hl ..) (gw h1 ?_);rfl
theorem lenL {l:Nat}{xs:List V} (hl:σ[l]?=some (.list xs)):biV ns .len (.ref l) σ=.ok (.int xs.length) σ:=by
 show onL l (fun xs=>M.ret (V.int xs.length)) σ=_
 refine gw (onL_ok hl ..) ?_;rfl
theorem addS {x y:List Nat} (h:x.length + y.length<=lim):binV .add (.str x) (.str y) σ=.ok (.str (x++y)) σ:=by
 show mkS (x++y) σ=_
 unfold mkS
 refine gw (if_pos (by refine gw (zd ..) ?_;exact h) ..) ?_;rfl
theorem addL {i j:Nat}{xs ys:List V} (hi:σ[i]?=some (.list xs)) (hj:σ[j]?=some (.list ys)) (h:xs.length + ys.length<=lim):binV .add (.ref i) (.ref j) σ=.ok (.ref σ.length) (σ++[.list (xs++ys)]):=by
 show onL i (fun xs=>onL j fun ys=>newL (xs++ys)) σ=_
 rw [onL_ok hi,onL_ok hj,newL_ok (by rw [zd];exact h)]
theorem cut_len {α:Type} (xs:List α) (lo hi:Option Int):(cut xs lo hi).length<=xs.length:=by
 unfold cut
 exact za (yv ..) (vg _ _).length_le
theorem slS {x:List Nat}{a b:V}{lo hi:Option Int} (ha:optInt a=some lo) (hb:optInt b=some hi) (h:x.length<=lim):sliceV ns (.str x) a b σ=.ok (.str (cut x lo hi)) σ:=by
 unfold sliceV
 refine gw ha (gw hb ?_)
 show mkS (cut x lo hi) σ=_
 unfold mkS
 refine gw (if_pos (za (cut_len _ _ _) h) ..) ?_;rfl
theorem slL {l:Nat}{xs:List V}{a b:V}{lo hi:Option Int} (hl:σ[l]?=some (.list xs)) (ha:optInt a=some lo) (hb:optInt b=some hi) (h:xs.length<=lim):sliceV ns (.ref l) a b σ=.ok (.ref σ.length) (σ++[.list (cut xs lo hi)]):=by
 unfold sliceV
 refine gw ha (gw hb ?_)
 show onL l (fun xs=>newL (cut xs lo hi)) σ=_
 exact gw (onL_ok hl ..) (gw (newL_ok (za (cut_len _ _ _) h) ..) rfl)
theorem modV {x y:Int} (h:y≠0):binV .mod (.int x) (.int y) σ=.ok (.int (x.fmod y)) σ:=by
 show (if y=0 then stuck else M.ret (V.int (x.fmod y))) σ=_
 refine gw (if_neg h ..) ?_;rfl
end
end Mine.P
namespace Mine.L13
open PySem Mine Mine.P
section
variable {ns:List Int}{C:Calls}{σ σ':H}
noncomputable def val:Option Int->V
 | .none=>.none
 | some i=>.int i
theorem mulR (x y:Int) (hy:small y=true):binV .mul (.int x) (.int y) σ=.ok (.int (x * y)) σ:=by
 show (if (small x || small y)=true then M.ret (V.int (x * y)) else stuck) σ=_
 refine gw hy (gw (zaw ..) ?_);rfl
theorem mixed_ok (x:Int):evF ns C f20_mixed [.int x] σ=.ok (.int ((x * 48271 + 7919).fmod 2147483647)) σ:=by
 apply f_ret rfl
 apply s_ret
 apply e_bin
 apply e_bin
 apply e_bin rfl rfl (mulR x _ rfl)
 all_goals exact rfl
theorem lt_ok (x y:Int):cmpV .lt (.int x) (.int y) σ=.ok (.bool (decide (x < y))) σ:=rfl
theorem cell_ok (k:Nat):evF ns C f19_cell_at [.scr,.int k] σ=.ok (.int (ns.getD k 0)) σ:=by
 by_cases h:k < ns.length
 ·apply f_ret rfl
  apply s_ifT
  ·apply e_cmp rfl (e_bi rfl rfl)
   apply (lt_ok _ _).trans
   exact gw (decide_eq_true (vw.mpr h:(k:Int) < ns.length) ..) rfl
  ·apply after_end
   apply s_ret
   apply e_idx rfl rfl
   show pick (((idxN k ns.length).bind (ns[·]?)).map V.int) σ=_
   have e:idxN k ns.length=some k:=by unfold idxN;exact gw (if_pos (z8 k) ..) (gw (xb ..) (gw (if_pos h ..) rfl))
   refine gw e ?_
   show pick ((ns[k]?).map V.int) σ=_
   refine gw (gm ..) (gw (zf h ..) ?_);rfl
 ·apply f_ret rfl
  apply s_ifF
  ·apply e_cmp rfl (e_bi rfl rfl)
   apply (lt_ok _ _).trans
   exact gw (decide_eq_false (fun q=>h (vw.mp q):¬ (k:Int) < ns.length)) rfl
  ·apply s_ret
   refine gw (gm ..) (gw (w6 (yc.mp h) ..) ?_);rfl
theorem under_ok (x y:List Nat):evF ns C f5_is_under [.str x,.str y] σ=.ok (.bool (pre y x)) σ:=rfl
theorem eqI (i j:Int):cmpV .eq (.int i) (.int j) σ=.ok (.bool (decide (i=j))) σ:=congrArg (fun b=>R.ok (V.bool b) σ) (zac _)
theorem eqS (x y:List Nat):cmpV .eq (.str x) (.str y) σ=.ok (.bool (decide (x=y))) σ:=congrArg (fun b=>R.ok (V.bool b) σ) (zac _)
theorem same_ok (h0:∀ i σ,C.call 18 [.int i] σ=.ok (.bool true) σ) (s t:Option Int):evF ns C f25_same [val s,val t] σ=.ok (.bool (decide (s=t))) σ:=by
 cases s with
 | none=>cases t <;> rfl
 | some i =>
  cases t with
  | none=>rfl
  | some j =>
   apply f_ret rfl
   apply s_ifF rfl
   apply s_ret
   apply andT (e_call rfl (h0 i σ))
   apply and1
   apply e_cmp rfl rfl
   apply (eqI i j).trans
   congr 2
   exact decide_eq_decide.mpr ⟨fun q=>by exact gw q rfl,fun q=>by injection q⟩
theorem fmod_lt (x:Int) {y:Int} (h:0 < y):0<=x.fmod y/\x.fmod y < y:=⟨Int.fmod_nonneg_of_pos _ h,Int.fmod_lt_of_pos _ h⟩
noncomputable def inR:Option Int->Prop
 | .none=>True
 | some i=>-10 ^ 30<=i/\i<=10 ^ 30
theorem value_ok (x:Int):∃ t,inR t/\∀ σ,∃ σ',evF ns C f24_value_by [.int x] σ=.ok (val t) σ'/\Gr σ σ':=by
 have q:∀ (k:Int) (σ:H),Ev ns C [some (.int x)] (.cmp .eq (.bin .mod (.var 0) (.lit (V.int 7))) (.lit (V.int k))) σ (.bool (decide (x.fmod 7=k))) σ:=fun k σ=>e_cmp rfl rfl (eqI _ _)
 by_cases h3:x.fmod 7=3
 ·refine ⟨none,trivial,fun σ=>⟨σ,f_ret rfl (s_ifT ((q 3 σ).trans ?_) (after_end (s_ret rfl))),Gr.rfl⟩⟩
  exact gw (decide_eq_true h3 ..) rfl
 ·have h3':=fun σ=>(q 3 σ).trans (by exact gw (decide_eq_false h3 ..) rfl)
  by_cases h4:x.fmod 7=4
  ·have e:=fmod_lt (x.fdiv 7) (y:=5) (by decide)
   have h4':=fun σ=>(q 4 σ).trans (by exact gw (decide_eq_true h4 ..) rfl)
   have hl:∀ σ,Ev ns C [some (.int x)] (.list [(.lit (V.int 0)),(.lit (V.int 1)),(.neg (.lit (V.int 1))),(.bin .pow (.lit (V.int 10)) (.lit (V.int 30))),(.neg (.bin .pow (.lit (V.int 10)) (.lit (V.int 30))))]) σ (.ref σ.length) (σ++[.list [.int 0,.int 1,.int (-1),.int (10 ^ 30),.int (-10 ^ 30)]]):=fun σ=>e_list rfl (by decide)
   have hi:∀ (j:Int) (t:Int),(x.fdiv 7).fmod 5=j->((idxN j 5).bind ([V.int 0,V.int 1,V.int (-1),V.int (10 ^ 30),V.int (-10 ^ 30)][·]?))=some (.int t)->inR (some t) ->
     ∃ t',inR t'/\∀ σ,∃ σ',evF ns C f24_value_by [.int x] σ=.ok (val t') σ'/\Gr σ σ':=fun j t hj ht hr =>
    ⟨some t,hr,fun σ=>⟨_,f_ret rfl (s_ifF (h3' σ) (s_ifT (h4' σ) (after_end (s_ret (e_idx (hl σ) rfl (show idxV ns (.ref σ.length) (.int ((x.fdiv 7).fmod 5)) _=_ from by
     refine gw hj ?_
     unfold idxV
     dsimp only
     refine gw (onL_ok (at_new _ _) ..) ?_
     show pick ((idxN j 5).bind _) _=_
     refine gw ht ?_;rfl)))))),Gr.app _ _⟩⟩
   have e1:=(ud (n:=5) e.1).mpr e.2
   have e2:=Int.toNat_of_nonneg e.1
   exact below (motive:=fun n=>(n:Int)=(x.fdiv 7).fmod 5->_) e1 ⟨⟨⟨⟨⟨trivial,fun e=>hi 0 0 e.symm rfl (by unfold inR;decide)⟩,fun e=>hi 1 1 e.symm rfl (by unfold inR;decide)⟩,fun e=>hi 2 (-1) e.symm rfl (by unfold inR;decide)⟩,fun e=>hi 3 (10 ^ 30) e.symm rfl (by unfold inR;decide)⟩,fun e=>hi 4 (-10 ^ 30) e.symm rfl (by unfold inR;decide)⟩ e2
  ·have h4':=fun σ=>(q 4 σ).trans (by exact gw (decide_eq_false h4 ..) rfl)
   by_cases h5:x.fmod 7=5
   ·have h5':=fun σ=>(q 5 σ).trans (by exact gw (decide_eq_true h5 ..) rfl)
    exact ⟨some _,by have q:=fmod_lt (x.fdiv 7) (y:=9) (by decide);exact ⟨ue (by decide) q.1,ue (jb q.2) (by decide)⟩,fun σ=>⟨σ,f_ret rfl (s_ifF (h3' σ) (s_ifF (h4' σ) (s_ifT (h5' σ) (after_end (s_ret rfl))))),Gr.rfl⟩⟩
   ·have h5':=fun σ=>(q 5 σ).trans (by exact gw (decide_eq_false h5 ..) rfl)
    have hb:=fmod_lt (x.fdiv 7) (y:=2000000000000000000000000000001) (by decide)
    exact ⟨some ((x.fdiv 7).fmod 2000000000000000000000000000001 - 1000000000000000000000000000000),⟨zaj hb.1 1000000000000000000000000000000,zaj (jv hb.2:_<=(2000000000000000000000000000000:Int)) 1000000000000000000000000000000⟩,fun σ=>⟨σ,f_ret rfl (s_ifF (h3' σ) (s_ifF (h4' σ) (s_ifF (h5' σ) (s_ret rfl)))),Gr.rfl⟩⟩
end
end Mine.L13
namespace Mine.L13
open PySem Mine Mine.P
noncomputable def signs:List Nat:=[97,98,99,100,101,102,103,104,105,106,107,108,109,110,111,112,113,114,115,116,117,118,119,120,121,122,48,49,50,51,52,53,54,55,56,57,46]
noncomputable def Sg (x:List Nat):Prop:=∀ c∈x,signs.contains c=true
noncomputable def Nm (x:List Nat):Prop:=1<=x.length/\x.length<=12/\Sg x
theorem Sg.app {x y:List Nat} (h:Sg x) (h':Sg y):Sg (x++y):=fun c hc=>(z5.mp hc).elim (h c) (h' c)
theorem Sg.cut {x:List Nat} (h:Sg x) (lo hi:Option Int):Sg (cut x lo hi):=fun c hc=>h c (w9 (xm hc))
theorem Sg.one {c:Nat} (h:signs.contains c=true):Sg [c]:=fun d hd=>zg.mp hd▸h
theorem cut_take {α:Type} (x:List α) {k:Int} (h:0<=k):cut x .none (some k)=x.take k.toNat:=by
 show (x.drop 0).take (clampN k x.length - 0)=_
 unfold clampN
 refine gw (if_pos h ..) (gw (List.drop_zero ..) (gw (jw ..) ?_))
 by_cases q:k.toNat<=x.length
 ·exact gw (yf q ..) rfl
 ·have q:=z9 (xd q)
  exact gw (uf q ..) (gw (zu ..) (gw (y9 q ..) rfl))
theorem cut_drop {α:Type} (x:List α) {k:Int} (h:0<=k):(cut x (some k) .none).length<=x.length - k.toNat:=by
 show ((x.drop (clampN k x.length)).take (x.length - clampN k x.length)).length<=_
 refine za (yv _ _) ?_
 unfold clampN
 refine gw (if_pos h ..) (gw (w5 ..) ?_)
 rcases zax k.toNat x.length with q | q
 ·refine gw (yf q ..) ?_;exact ze _
 ·refine gw (uf q ..) (gw (xv ..) ?_);exact z7 _
theorem Nm.head {x:List Nat} (h:Sg x) (h1:1<=x.length) {k:Int} (hk:1<=k) (hl:k<=12∨x.length<=12):Nm (cut x .none (some k)):=by
 have hz:0<=k:=ue (by decide) hk
 have e:=cut_take x (k:=k) hz
 refine ⟨?_,?_,h.cut _ _⟩
 ·refine gw e (gw (yu ..) ?_);exact Nat.le_min.mpr ⟨(Int.le_toNat (n:=1) hz).mpr hk,h1⟩
 ·refine gw e (gw (yu ..) ?_);exact hl.elim (fun q=>za (kn _ _) (fe (n:=12).mpr q)) (za (ke _ _))
section
variable {ns:List Int}{C:Calls}{σ σ':H}
theorem sign_ok (x:Int):∃ c,idxV ns (.str signs) (.int (x.fmod 37)) σ=.ok (.str [c]) σ/\signs.contains c=true:=by
 obtain ⟨h1,h2⟩:=fmod_lt x (y:=37) (by decide)
 exact ⟨_,idxS (x:=signs) h1 ((ud (n:=37) h1).mpr h2),zad.mpr (ye _)⟩
theorem name_ok (h12:∀ x σ,∃ y:Int,C.call 20 [.int x] σ=.ok (.int y) σ) (c:Int):∃ x,evF ns C f21_name_by [.int c] σ=.ok (.str x) σ/\Nm x:=by
 obtain ⟨g1,g2⟩:=fmod_lt c (y:=12) (by decide)
 have hN:(1 + c.fmod 12).toNat<=12/\1<=(1 + c.fmod 12).toNat:=⟨fe (n:=12).mpr (Int.add_le_add_left (jv g2:_<=(11:Int)) 1),(Int.le_toNat (n:=1) (gd (by decide) g1)).mpr (gp g1)⟩
 obtain ⟨ρ',σ',h,x,m,o,hx,hs,hρ,rfl⟩:=for_all (tgt:=tgtN 4) (body:=fun ρ σ=>evSs ns C ρ σ [.assign 3 (.call 20 [(.var 3)]),.assign 2 (.bin .add (.var 2) (.idx (.var 1) (.bin .mod (.var 3) (.lit (V.int 37)))))]) (it:=fun i=>.range i (1 + c.fmod 12).toNat)
  (fun i ρ σ'=>∃ (x:List Nat) (m:Int) (o:Option V),x.length=i/\Sg x/\ρ=[some (.int c),some (.str signs),some (.str x),some (.int m),o]/\σ'=σ) (1 + c.fmod 12).toNat (fun _ _ _=>stop_range)
  (fun i ρ σ' hi p=>by
   refine ex3 (p) fun x m o q_h=>?_;refine an4 q_h fun hx hs q_5 q_6=>?_;obtain rfl:=q_5;obtain rfl:=q_6
   obtain ⟨y,hy⟩:=h12 m σ'
   obtain ⟨d,hd,hds⟩:=sign_ok (ns:=ns) (σ:=σ') y
   refine ⟨_,_,_,_,next_range hi,rfl,s_assign (e_call rfl hy) rfl (s_assign (e_bin rfl (e_idx rfl rfl hd) (addS (x:=x) (y:=[d]) ?_)) rfl ss_nil),x++[d],y,_,?_,hs.app (.one hds),rfl,rfl⟩
   ·refine gw hx ?_;exact za hi (za hN.1 (by decide))
   ·refine gw (zd ..) (gw hx ?_);rfl)
  (1 + c.fmod 12).toNat 0 [some (.int c),some (.str signs),some (.str []),some (.int c),.none] σ (zo _) ⟨[],c,_,rfl,(fun _ h=>absurd h z0),rfl,rfl⟩
 subst hρ
 refine ⟨x,f_ret (fn:=f21_name_by) (vs:=[.int c]) rfl (s_assign (v:=.str signs) rfl rfl (s_assign rfl rfl (s_assign rfl rfl (s_forN (src_range (k:=1 + c.fmod 12) rfl (vu (by decide) (gd (by decide) g1)) (jx (Int.add_lt_add_left g2 1) (by decide))) (after_next h (s_ret rfl)))))),hx▸hN.2,hx▸hN.1,hs⟩
theorem findS (x:List Nat) (c:Nat):meV (.str x) .find [.str [c]] σ=.ok (.int (findN c x 0)) σ:=rfl
theorem twin_len {A B T n:Nat} (h1:A<=T) (h2:B<=n - (T + 1)) (h3:T < n) (h4:n<=12):A + 1 + B<=12:=za (xc (zq h1) h2) (za (ya (vi h3)) h4)
theorem twin_ok {x:List Nat} (hx:Nm x) (c:Int):∃ y,evF ns C f22_twin [.str x,.int c] σ=.ok (.str y) σ/\Nm y:=by
 refine an3 (hx) fun h1 h2 hs=>?_
 have hp:(0:Int) < x.length:=uv.mpr h1
 obtain ⟨g1,g2⟩:=fmod_lt c (y:=x.length) hp
 have hT:(c.fmod x.length).toNat < x.length:=(ud g1).mpr g2
 have hz:x.length<=lim:=za h2 (by decide)
 obtain ⟨d,hd,hds⟩:=sign_ok (ns:=ns) (σ:=σ) (findN x[(c.fmod x.length).toNat] signs 0 + 1 + (c.fdiv 12).fmod 36)
 have c1:(cut x .none (some (c.fmod x.length))).length<=(c.fmod x.length).toNat:=by refine gw (cut_take x g1 ..) ?_;exact kj _ _
 have c2:=cut_drop x (k:=c.fmod x.length + 1) (gd g1 (by decide))
 rw [Int.toNat_add g1 (by decide)] at c2
 have ky:=twin_len c1 c2 hT h2
 refine ⟨_,f_ret (fn:=f22_twin) (vs:=[.str x,.int c]) rfl (s_assign (v:=.str signs) rfl rfl (s_assign (v:=.int (c.fmod x.length)) (e_bin rfl (e_bi rfl rfl) (modV (u5 hp))) rfl (s_assign (v:=.int (findN x[(c.fmod x.length).toNat] signs 0 + 1 + (c.fdiv 12).fmod 36)) (e_bin (e_bin (e_me rfl rfl (es_one (e_idx rfl rfl (idxS g1 hT))) (findS _ _)) rfl rfl) rfl rfl) rfl
  (s_ret (e_bin (e_bin (e_slice rfl rfl rfl (slS (lo:=.none) (hi:=some (c.fmod x.length)) rfl rfl hz)) (e_idx rfl rfl hd) (addS ?_)) (e_slice rfl rfl rfl (slS (lo:=some (c.fmod x.length + 1)) (hi:=.none) rfl rfl hz)) (addS ?_)))))),?_,?_,((hs.cut _ _).app (.one hds)).app (hs.cut _ _)⟩
 ·exact za (zp _ _) (za ky (by decide))
 ·refine gw (zd ..) ?_;exact za ky (by decide)
 ·refine gw (zd ..) (gw (zd ..) ?_);exact za (vc 1 _) (zp _ _)
 ·refine gw (zd ..) (gw (zd ..) ?_);exact ky
end
end Mine.L13
namespace Mine.L13
open PySem Mine Mine.P
noncomputable def isN (v:V):Prop:=∃ x,v=.str x/\Nm x
noncomputable def allN (xs:List V):Prop:=∀ v∈xs,isN v
theorem allN.app {xs ys:List V} (h:allN xs) (h':allN ys):allN (xs++ys):=fun v hv=>(z5.mp hv).elim (h v) (h' v)
theorem allN.cut {xs:List V} (h:allN xs) (lo hi:Option Int):allN (cut xs lo hi):=fun v hv=>h v (w9 (xm hv))
theorem allN.nil:allN []:=fun _ h=>absurd h z0
theorem allN.cons {x:List Nat}{xs:List V} (h:Nm x) (h':allN xs):allN (.str x::xs):=fun v hv=>(zy.mp hv).elim (fun e=>⟨x,e,h⟩) (h' v)
section
variable {ns:List Int}{C:Calls}{σ σ':H}
theorem strI {i:Nat} (h:i < 1000):biV ns .str (.int i) σ=.ok (.str (digs i)) σ:=by
 show (if (0:Int)<=i/\(i:Int) < 1000 then M.ret (V.str (digs (i:Int).toNat)) else stuck) σ=_
 refine gw (if_pos ⟨z8 i,vw.mpr h⟩ ..) ?_;rfl
theorem digs_len (i:Nat):(digs i).length<=3:=by unfold digs;split <;> (try split) <;> simp
theorem dig_ok:∀ d:Nat,d < 10->signs.contains (48 + d)=true:=by decide
theorem digs_sg {i:Nat} (h:i < 1000):Sg (digs i):=by
 have d0:=dig_ok (i % 10) (Nat.mod_lt _ (by decide))
 have d1:=dig_ok (i / 10 % 10) (Nat.mod_lt _ (by decide))
 unfold digs
 split
 ·rename_i q;exact .one (dig_ok i q)
 ·split
  ·rename_i q;exact Sg.app (x:=[_]) (.one (dig_ok (i / 10) (zak q))) (.one d0)
  ·exact Sg.app (x:=[_]) (.one (dig_ok (i / 100) (zak h))) (Sg.app (x:=[_]) (.one d1) (.one d0))
theorem pool_ok (h13:∀ c σ,∃ x,C.call 21 [.int c] σ=.ok (.str x) σ/\Nm x) (h14:∀ x c σ,Nm x->∃ y,C.call 22 [.str x,.int c] σ=.ok (.str y) σ/\Nm y) (a b:Int) :
  ∃ l xs σ',evF ns C f23_pool [.int a,.int b] σ=.ok (.ref l) σ'/\Gr σ σ'/\σ'[l]?=some (.list xs)/\xs≠[]/\xs.length<=137/\allN xs:=by
 have hl:∀ {n m:Nat},n<=m->(m.ble 1000=true)->n<=lim:=fun h h'=>za h (za (xu h') (by decide))
 obtain ⟨x,hx,nx⟩:=h13 a σ
 refine an3 (nx) fun x1 x2 sx=>?_
 obtain ⟨y,hy,ny⟩:=h13 b σ
 refine an3 (ny) fun y1 y2 sy=>?_
 obtain ⟨t,ht,t2⟩:=h14 x b σ ⟨x1,x2,sx⟩
 have A1:x.length + y.length<=24:=xc x2 y2
 have A2:y.length + 1<=13:=yz y2 1
 have A3:(y++[97]).length + x.length<=25:=by refine gw (zd ..) ?_;exact xc A2 x2
 have hp:(0:Int) < x.length:=uv.mpr x1
 have b1:=(fmod_lt b hp).1
 obtain ⟨m1,m2⟩:=fmod_lt (a.fdiv 7) (y:=7) (by decide)
 let L1:List V:=[.str x,.str t,.str y,.str (cut (x++y) .none (some 12)),.str (cut x .none (some (1 + b.fmod x.length)))]
 let L2:List V:=[.str (cut (y++[46]) .none (some 12)),.str (cut ((y++[97])++x) .none (some 12))]
 have n1:allN L1:=.cons ⟨x1,x2,sx⟩ (.cons t2 (.cons ⟨y1,y2,sy⟩ (.cons (.head (sx.app sy) (by refine gw (zd ..) ?_;exact za x1 (zp _ _)) (by decide) (.inl (by decide))) (.cons (.head sx x1 (gp b1) (.inr x2)) .nil))))
 have n2:allN L2:=.cons (.head (sy.app (.one rfl)) (by refine gw (zd ..) ?_;exact vc _ _) (by decide) (.inl (by decide))) (.cons (.head ((sy.app (.one rfl)).app sx) (by refine gw (zd ..) ?_;exact za x1 (vc _ _)) (by decide) (.inl (by decide))) .nil)
 let L3:List V:=cut (L1++L2) .none (some (1 + (a.fdiv 7).fmod 7))
 have n3:allN L3:=(n1.app n2).cut _ _
 have l3:L3.length<=7:=cut_len (L1++L2) _ _
 have p3:L3≠[]:=fun q=>by
  have e:L3=(L1++L2).take (1 + (a.fdiv 7).fmod 7).toNat:=cut_take _ (gd (by decide) m1)
  rw [q,Int.toNat_add (by decide) m1,vx] at e
  cases e
 let σ1:=σ++[.list L1]
 let σ2:=σ1++[.list L2]
 let σ3:=σ2++[.list (L1++L2)]
 let σ4:=σ3++[.list L3]
 have G4:Gr σ σ4:=((Gr.app σ _).tr (Gr.app σ1 _)).tr ((Gr.app σ2 _).tr (Gr.app σ3 _))
 have S1:Ev ns C [some (.int a),some (.int b),some (.str x),some (.str y),.none] (.list [(.var 2),(.call 22 [(.var 2),(.var 1)]),(.var 3),(.slice (.bin .add (.var 2) (.var 3)) .nil (.lit (V.int 12))),(.slice (.var 2) .nil (.bin .add (.lit (V.int 1)) (.bin .mod (.var 1) (.bi .len (.var 2)))))]) σ (.ref σ.length) σ1 :=
  e_list (es_cons rfl (es_cons (e_call rfl ht) (es_cons rfl (es_two (e_slice (e_bin rfl rfl (addS (hl A1 rfl))) rfl rfl (slS (lo:=.none) (hi:=some 12) rfl rfl (by refine gw (zd ..) ?_;exact hl A1 rfl)))
   (e_slice rfl rfl (e_bin rfl (e_bin rfl (e_bi rfl rfl) (modV (u5 hp))) rfl) (slS (lo:=.none) (hi:=some (1 + b.fmod x.length)) rfl rfl (hl x2 rfl))))))) (hl (ze 5) rfl)
 have S2:Ev ns C [some (.int a),some (.int b),some (.str x),some (.str y),some (.ref σ.length)] (.slice (.bin .add (.var 4) (.list [(.slice (.bin .add (.var 3) (.lit (V.str [46]))) .nil (.lit (V.int 12))),(.slice (.bin .add (.bin .add (.var 3) (.lit (V.str [97]))) (.var 2)) .nil (.lit (V.int 12)))])) .nil (.bin .add (.lit (V.int 1)) (.bin .mod (.bin .fdiv (.var 0) (.lit (V.int 7))) (.lit (V.int 7))))) σ1 (.ref σ3.length) σ4 :=
  e_slice (e_bin rfl (e_list (es_two (e_slice (e_bin rfl rfl (addS (hl A2 rfl))) rfl rfl (slS (lo:=.none) (hi:=some 12) rfl rfl (by refine gw (zd ..) ?_;exact hl A2 rfl)))
   (e_slice (e_bin (e_bin rfl rfl (addS (hl A2 rfl))) rfl (addS (hl A3 rfl))) rfl rfl (slS (lo:=.none) (hi:=some 12) rfl rfl (by refine gw (zd ..) ?_;exact hl A3 rfl)))) (hl (ze 2) rfl))
   (addL ((Gr.app σ1 _).at (at_new σ _)) (at_new σ1 _) (hl (ze 7) rfl))) rfl rfl (slL (at_new σ2 _) rfl rfl (hl (ze 7) rfl))
 have Q:Ev ns C [some (.int a),some (.int b),some (.str x),some (.str y),some (.ref σ3.length)] (.cmp .eq (.bin .mod (.bin .fdiv (.var 1) (.lit (V.int 7))) (.lit (V.int 4))) (.lit (V.int 1))) σ4 (.bool (decide ((b.fdiv 7).fmod 4=1))) σ4:=e_cmp rfl rfl (eqI _ _)
 by_cases hq:(b.fdiv 7).fmod 4=1
 ·obtain ⟨w1,w2⟩:=fmod_lt (b.fdiv 28) (y:=130) (by decide)
  have w3:((b.fdiv 28).fmod 130).toNat < 130:=(ud (n:=130) w1).mpr w2
  refine ex2 (gather_all (f:=fElt ns C [some (.int a),some (.int b),some (.str x),some (.str y),some (.ref σ3.length)] (.bin .add (.lit (V.str [110])) (.bi .str (.var 5)))) (it:=fun i=>.range i ((b.fdiv 28).fmod 130).toNat)
   (fun i acc σ'=>acc.length=i/\allN acc/\σ'=σ4) ((b.fdiv 28).fmod 130).toNat (fun _ _ _=>stop_range)
   (fun i acc σ' hi p=>by
    refine an3 (p) fun h1 h2 q_2=>?_;obtain rfl:=q_2
    have hi':i < 130:=u6 hi w3
    have d:=yl (digs_len i) 1
    refine ⟨_,next_range hi,.inl ⟨.str ([110]++digs i),σ4,fElt_ok (e_bin rfl (e_bi rfl (strI (u6 hi' (by decide)))) (addS (hl d rfl))),h1▸hl hi' rfl,by refine gw (zd ..) (gw h1 ?_);rfl,h2.app (.cons ⟨by refine gw (zd ..) ?_;exact zp _ _,by refine gw (zd ..) ?_;exact za d (by decide),Sg.app (.one rfl) (digs_sg (u6 hi' (by decide)))⟩ .nil),rfl⟩⟩)
   ((b.fdiv 28).fmod 130).toNat 0 [] σ4 (zo _) ⟨rfl,.nil,rfl⟩) fun acc σ' q_h=>?_;refine an4 q_h fun hg hacc nacc q_5=>?_;obtain rfl:=q_5
  have l4:L3.length + acc.length<=137:=xc l3 (hacc▸z9 w3)
  refine ⟨_,L3++acc,_,f_ret (fn:=f23_pool) (vs:=[.int a,.int b]) rfl (s_assign (e_call rfl hx) rfl (s_assign (e_call rfl hy) rfl (s_assign S1 rfl (s_assign S2 rfl (s_ifT (Q.trans (by exact gw (decide_eq_true hq ..) rfl)) (after_next (s_assign (e_bin rfl (e_comp (src_range (k:=(b.fdiv 28).fmod 130) rfl (vu (by decide) w1) (jx w2 (by decide))) hg) (addL ((Gr.app σ4 _).at (at_new σ3 _)) (at_new σ4 _) (hl l4 rfl))) rfl ss_nil) (s_ret rfl))))))),(G4.tr (Gr.app σ4 _)).tr (Gr.app _ _),at_new _ _,fun q=>p3 (List.append_eq_nil_iff.mp q).1,by refine gw (zd ..) ?_;exact l4,n3.app nacc⟩
 ·exact ⟨σ3.length,L3,σ4,f_ret (fn:=f23_pool) (vs:=[.int a,.int b]) rfl (s_assign (e_call rfl hx) rfl (s_assign (e_call rfl hy) rfl (s_assign S1 rfl (s_assign S2 rfl (s_ifF (Q.trans (by exact gw (decide_eq_false hq ..) rfl)) (s_ret rfl)))))),G4,at_new σ3 _,p3,za l3 (by decide),n3⟩
end
end Mine.L13
namespace Mine.L13
open PySem Mine Mine.P
noncomputable abbrev Ws:=List (List Nat×Option Int)
noncomputable abbrev Kv:=List (List Nat×V)
noncomputable def wV (ws:Ws):List V:=ws.map fun p=>.tup [.str p.1,val p.2]
noncomputable def wE (ws:Ws):Kv:=ws.map fun p=>(p.1,val p.2)
noncomputable def put (d:Kv) (ws:Ws):Kv:=dputs d (wE ws)
noncomputable def get (d:Kv) (n:List Nat):V:=(dget d n).getD .none
noncomputable def look (o:Option V) (ws:Ws) (n:List Nat):Option V:=ws.foldl (fun a q=>if q.1=n then some (val q.2) else a) o
theorem dget_dput (k n:List Nat) (v:V):∀ d:Kv,dget (dput d k v) n=if k=n then some v else dget d n:=by
 intro d
 induction d with
 | nil =>
  show (if k=n then some v else .none)=_;rfl
 | cons p_ r ih =>
  obtain ⟨a,x⟩:=p_
  show dget (if a=k then (a,v)::r else (a,x)::dput r k v) n=if k=n then some v else (if a=n then some x else dget r n)
  by_cases h:a=k
  ·refine gw (if_pos h ..) ?_
   show (if a=n then some v else dget r n)=_
   refine gw h ?_;split <;> rfl
  ·refine gw (if_neg h ..) ?_
   show (if a=n then some x else dget (dput r k v) n)=_
   refine gw ih ?_
   by_cases h1:a=n
   ·exact gw (if_pos h1 ..) (gw (if_neg (fun q=>h (h1.trans q.symm))) (gw (if_pos h1 ..) rfl))
   ·exact gw (if_neg h1 ..) (gw (if_neg h1 ..) rfl)
theorem dput_len (k:List Nat) (v:V):∀ d:Kv,(dput d k v).length<=d.length + 1:=by
 intro d
 induction d with
 | nil =>
  exact ze _
 | cons p_ r ih =>
  obtain ⟨a,x⟩:=p_
  show (if a=k then (a,v)::r else (a,x)::dput r k v).length<=_
  split
  ·exact yh _
  ·exact zq (ih)
theorem put_snoc (d:Kv) (ws:Ws) (p:List Nat×Option Int):put d (ws++[p])=dput (put d ws) p.1 (val p.2):=by
 unfold put wE dputs
 refine gw (yg ..) (gw (wy ..) ?_);rfl
theorem put_get (n:List Nat):∀ (ws:Ws) (d:Kv),dget (put d ws) n=look (dget d n) ws n:=by
 intro ws
 induction ws with
 | nil =>
  intro _
  exact rfl
 | cons p ws ih =>
  intro d
  show dget (put (dput d p.1 (val p.2)) ws) n=look (if p.1=n then some (val p.2) else dget d n) ws n
  rw [ih,dget_dput]
theorem put_len (ws:Ws) (d:Kv):(put d ws).length<=d.length + ws.length:=by
 induction ws generalizing d with
 | nil=>exact ze _
 | cons p ws ih =>
  refine za (ih (dput d p.1 (val p.2))) ?_
  have:=dput_len p.1 (val p.2) d
  exact za (yz this _) (ya (xq _ _))
section
variable {ns:List Int}{C:Calls}{σ σ':H}
theorem wV_at {ws:Ws}{i:Nat} (h:i < ws.length):(wV ws)[i]?=some (.tup [.str ws[i].1,val ws[i].2]):=by
 unfold wV;refine gw (zv ..) (gw (zf h ..) ?_);rfl
theorem take_at {α:Type} (l:List α) {i:Nat} (h:i < l.length):l.take (i + 1)=l.take i++[l[i]]:=by refine gw (List.take_succ ..) (gw (zf h ..) ?_);rfl
theorem setD {l:Nat}{kvs:Kv}{x:List Nat}{v:V} (hl:σ[l]?=some (.dict kvs)) (h:(dput kvs x v).length<=lim):setV (.ref l) (.str x) v σ=.ok .none (σ.set l (.dict (dput kvs x v))):=by
 show onD l (fun kvs=>putD l (dput kvs x v)) σ=_
 refine gw (onD_ok hl ..) ?_
 unfold putD
 rw [if_pos h]
theorem values_ok {l:Nat}{ws:Ws} (hl:σ[l]?=some (.list (wV ws))) (hz:ws.length<=1000):evF ns C f7_last_values [.ref l] σ=.ok (.ref σ.length) (σ++[.dict (put [] ws)]):=by
 obtain ⟨ρ',σ',h,o,o',rfl,rfl⟩:=for_all (tgt:=tgtP 2 3) (body:=fun ρ σ=>evSs ns C ρ σ [.setitem (.var 1) (.var 2) (.var 3)]) (it:=fun i=>.list l i)
  (fun i ρ σ'=>∃ o o':Option V,ρ=[some (.ref l),some (.ref σ.length),o,o']/\σ'=σ++[.dict (put [] (ws.take i))]) (wV ws).length
  (fun ρ σ' p=>by obtain ⟨o,o',rfl,rfl⟩:=p;exact stop_list ((Gr.app σ _).at hl))
  (fun i ρ σ' hi p=>by
   obtain ⟨o,o',rfl,rfl⟩:=p
   have hi':i < ws.length:=by rw [wV,zb] at hi;exact hi
   have e:=put_snoc [] (ws.take i) ws[i]
   replace e:=(take_at ws hi' ..)▸e
   refine ⟨_,_,_,_,next_list ((Gr.app σ _).at hl) (wV_at hi'),rfl,s_set rfl rfl rfl (setD (at_new σ _) (by refine bw e ?_;exact za (put_len _ []) (za (yl (za (yv _ _) hz) _) (by decide)))) ss_nil,_,_,rfl,?_⟩
   exact gw (set_new ..) (bw e rfl))
  (wV ws).length 0 [some (.ref l),some (.ref σ.length),.none,.none] (σ++[.dict []]) (zo _) ⟨_,_,rfl,rfl⟩
 rw [wV,zb,zu] at h
 exact f_ret (fn:=f7_last_values) (vs:=[.ref l]) rfl (s_assign (v:=.ref σ.length) rfl rfl (s_forP (src_of rfl ((Gr.app σ _).at hl)) (after_next (by rw [wV,zb];exact h) (s_ret rfl))))
noncomputable def LP (ws:Ws) (n:List Nat) (i:Nat) (p:Int):Prop:=(p=-1/\look .none (ws.take i) n=.none)∨∃ (j:Nat) (t:Option Int),p=j/\ws[j]?=some (n,t)/\look .none (ws.take i) n=some (val t)
theorem look_take {ws:Ws}{i:Nat} (h:i < ws.length) (n:List Nat):look .none (ws.take (i + 1)) n=if ws[i].1=n then some (val ws[i].2) else look .none (ws.take i) n:=by
 refine gw (take_at ws h ..) ?_;unfold look;refine gw (wy ..) ?_;rfl
theorem place_ok {l:Nat}{ws:Ws} (hl:σ[l]?=some (.list (wV ws))) (hz:ws.length<=1000) (n:List Nat):∃ p,evF ns C f6_last_place [.ref l,.str n] σ=.ok (.int p) σ/\LP ws n ws.length p:=by
 obtain ⟨ρ',σ',h,p,o,hp,rfl,rfl⟩:=for_all (tgt:=tgtN 3) (body:=fun ρ σ=>evSs ns C ρ σ [.ite (.cmp .eq (.idx (.idx (.var 0) (.var 3)) (.lit (V.int 0))) (.var 1)) [.assign 2 (.var 3)] []]) (it:=fun i=>.range i ws.length)
  (fun i ρ σ'=>∃ (p:Int) (o:Option V),LP ws n i p/\ρ=[some (.ref l),some (.str n),some (.int p),o]/\σ'=σ) ws.length (fun _ _ _=>stop_range)
  (fun i ρ σ' hi p=>by
   obtain ⟨p,o,hp,rfl,rfl⟩:=p
   have hc:Ev ns C [some (.ref l),some (.str n),some (.int p),some (.int i)] (.cmp .eq (.idx (.idx (.var 0) (.var 3)) (.lit (V.int 0))) (.var 1)) σ' (.bool (decide (ws[i].1=n))) σ' :=
    e_cmp (e_idx (e_idx rfl rfl (idxL hl (z8 i) (wV_at hi))) rfl rfl) rfl (eqS _ _)
   have lt:=look_take hi n
   by_cases hq:ws[i].1=n
   ·refine ⟨_,_,_,_,next_range hi,rfl,s_ifT (hc.trans (by exact gw (decide_eq_true hq ..) rfl)) (after_next (s_assign rfl rfl ss_nil) ss_nil),i,_,.inr ⟨i,ws[i].2,rfl,?_,?_⟩,rfl,rfl⟩
    ·exact gw (zf hi ..) (bw hq rfl)
    ·exact gw lt (gw (if_pos hq ..) rfl)
   ·refine ⟨_,_,_,_,next_range hi,rfl,s_ifF (hc.trans (by exact gw (decide_eq_false hq ..) rfl)) ss_nil,p,_,?_,rfl,rfl⟩
    unfold LP
    refine gw lt (gw (if_neg hq ..) ?_)
    exact hp)
  ws.length 0 [some (.ref l),some (.str n),some (.int (-1)),.none] σ (zo _) ⟨-1,_,.inl ⟨rfl,rfl⟩,rfl,rfl⟩
 have hs:evSrc ns C [some (.ref l),some (.str n),some (.int (-1)),.none] (.range (.bi .len (.var 0))) σ'=.ok (.range 0 ws.length,ws.length) σ':=by
  have:=src_range (ns:=ns) (C:=C) (ρ:=[some (.ref l),some (.str n),some (.int (-1)),.none]) (e:=.bi .len (.var 0)) (k:=(wV ws).length) (e_bi rfl (lenL hl)) (nz _) (by rw [wV,zb];exact ns_ (za hz (by decide)))
  rw [wV,zb,xb] at this
  exact this
 exact ⟨p,f_ret (fn:=f6_last_place) (vs:=[.ref l,.str n]) rfl (s_assign rfl rfl (s_forN hs (after_next h (s_ret rfl)))),hp⟩
theorem kD {l:Nat}{kvs:Kv}{m:Me} (hl:σ[l]?=some (.dict kvs)) (h:meOn m=2):meK m (.ref l) σ=.ok .none σ:=by
 unfold meK;dsimp only;refine gw hl ?_;dsimp only;exact gw (if_pos h ..) rfl
end
end Mine.L13
namespace Mine.L13
open PySem Mine Mine.P
noncomputable def keysOf (d:Kv):List (List Nat):=d.map (·.1)
noncomputable def subS (a b:Nat):Bool:=a == b || b == 0
noncomputable def T0:Tab:=⟨fs,cls,subS⟩
section
variable {ns:List Int}{C:Calls}{ρ ρ' ρ₁:Env}{σ σ' σ₁ σ₂ σ₃ σ₄:H}{a e o:E}{x v w:V}{es:List E}{vs:List V}{r:List S}{Res:RS}{k:Nat}
theorem for_or {tgt:V->Env->Option Env}{body:Env->H->RS}{it:Nat->It} (P:Nat->Env->H->Prop) (D:RS->Prop) (N:Nat) (stop:∀ ρ σ,P N ρ σ->nextIt (it N) σ=some .none)
  (step:∀ i ρ σ,i < N->P i ρ σ->∃ v ρ₁,nextIt (it i) σ=some (some (v,it (i + 1)))/\tgt v ρ=some ρ₁/\((∃ ρ₂ σ₂,body ρ₁ σ=.ok .next ρ₂ σ₂/\P (i + 1) ρ₂ σ₂)∨∃ R,body ρ₁ σ=R/\(∀ k,thenN R k=R)/\D R)) :
  ∀ (m i:Nat) (ρ:Env) (σ:H),i + m=N->P i ρ σ->(∃ ρ' σ',forLoop tgt body m (it i) ρ σ=.ok .next ρ' σ'/\P N ρ' σ')∨D (forLoop tgt body m (it i) ρ σ):=by
 intro m
 induction m with
 | zero =>
  intro i ρ σ e p
  obtain rfl:i=N:=e
  exact .inl ⟨ρ,σ,for_stop (stop ρ σ p),p⟩
 | succ m ih =>
  intro i ρ σ e p
  refine ex2 (step i ρ σ (lt_of e) p) fun v ρ₁ q_h=>?_;refine an3 q_h fun h1 h2 h3=>?_
  rcases h3 with ⟨ρ₂,σ₂,h3,h4⟩ | ⟨R,h3,hk,h4⟩
  ·refine gw (for_step h1 h2 h3 rfl ..) ?_
   exact ih (i + 1) ρ₂ σ₂ (sc_of e) h4
  ·refine gw (for_end h1 h2 h3 hk) ?_;exact .inr h4
theorem neI (i j:Int):cmpV .ne (.int i) (.int j) σ=.ok (.bool (!decide (i=j))) σ:=congrArg (fun b=>R.ok (V.bool b) σ) (zas _)
theorem neS (x y:List Nat):cmpV .ne (.str x) (.str y) σ=.ok (.bool (!decide (x=y))) σ:=congrArg (fun b=>R.ok (V.bool b) σ) (zas _)
theorem listD {l:Nat}{P:Kv} (hl:σ[l]?=some (.dict P)) (h:P.length<=1000):biV ns .list (.ref l) σ=.ok (.ref σ.length) (σ++[.list ((keysOf P).map V.str)]):=by
 have hlim:lim=16777216:=rfl
 have e:itemsV σ (.ref l)=some ((keysOf P).map V.str):=by unfold itemsV;dsimp only;rw [hl,keysOf,ug];rfl
 show (pick (itemsV σ (.ref l))).bnd newL σ=_
 refine gw e ?_
 exact newL_ok (by rw [zb,keysOf,zb];exact lm h)
theorem kL {l:Nat}{xs:List V}{m:Me} (hl:σ[l]?=some (.list xs)) (h:meOn m=1):meK m (.ref l) σ=.ok .none σ:=by
 unfold meK;dsimp only;refine gw hl ?_;dsimp only;exact gw (if_pos h ..) rfl
theorem appL {l:Nat}{xs:List V}{v:V} (hl:σ[l]?=some (.list xs)) (h:xs.length + 1<=lim):meV (.ref l) .append [v] σ=.ok .none (σ.set l (.list (xs++[v]))):=by
 unfold meV;dsimp only;refine gw hl ?_
 show putL l (xs++[v]) σ=_
 unfold putL
 rw [if_pos (by rw [zd];exact h)]
theorem v_seta {n:List Nat}:evS ns C ρ σ (.setattr a n e)=RS.ofE (((evE ns C ρ e).bnd fun v=>(evE ns C ρ a).bnd fun u=>setaV u n v) σ) ρ (fun _ σ'=>.ok .next ρ σ'):=rfl
theorem e_new {c:Nat} (h1:Evs ns C ρ es σ vs σ₁) (h3:C.new c vs σ₁=.ok v σ₂):Ev ns C ρ (.new c es) σ v σ₂:=bnd2 h1 h3
theorem e_attr {n:List Nat} (h1:Ev ns C ρ a σ x σ₁) (h2:attrV x n σ₁=.ok v σ₂):Ev ns C ρ (.attr a n) σ v σ₂:=bnd2 h1 h2
theorem attrI {c d:Nat}{kvs:Kv}{n:List Nat} (hl:σ[d]?=some (.dict kvs)) (h:dget kvs n=some v):attrV (.inst c d) n σ=.ok v σ:=by
 show onD d (fun kvs=>pick (dget kvs n)) σ=_
 refine gw (onD_ok hl ..) (gw h ?_);rfl
theorem e_mcall {m:List Nat}{i:Nat} (h1:Ev ns C ρ o σ x σ₁) (h2:C.mlook x m σ₁=.ok i σ₂) (h3:Evs ns C ρ es σ₂ vs σ₃) (h4:C.call i (x::vs) σ₃=.ok v σ₄):Ev ns C ρ (.mcall o m es) σ v σ₄:=bnd2 h1 (bnd2 h2 (bnd2 h3 h4))
theorem e_callX {f k:Nat} (h1:Evs ns C ρ es σ vs σ₁) (h3:C.call f vs σ₁=.exc k σ₂):evE ns C ρ (.call f es) σ=.exc k σ₂:=bnd2 h1 h3
theorem e_mcallX {m:List Nat}{i k:Nat} (h1:Ev ns C ρ o σ x σ₁) (h2:C.mlook x m σ₁=.ok i σ₂) (h3:Evs ns C ρ es σ₂ vs σ₃) (h4:C.call i (x::vs) σ₃=.exc k σ₄):evE ns C ρ (.mcall o m es) σ=.exc k σ₄:=bnd2 h1 (bnd2 h2 (bnd2 h3 h4))
theorem e_mm {b:E}{i j:Int} (h1:Ev ns C ρ a σ (.int i) σ₁) (h2:Ev ns C ρ b σ₁ (.int j) σ₂):Ev ns C ρ (.mm false a b) σ (.int (min i j)) σ₂:=bnd2 h1 (bnd2 h2 rfl)
theorem s_seta {n:List Nat} (h1:Ev ns C ρ e σ v σ₁) (h2:Ev ns C ρ a σ₁ x σ₂) (h4:setaV x n v σ₂=.ok w σ₄) (h5:evSs ns C ρ σ₄ r=Res):evSs ns C ρ σ (.setattr a n e::r)=Res:=by
 refine gw (ss_cons ..) (gw (v_seta ..) ?_)
 refine gw (show ((evE ns C ρ e).bnd fun v=>(evE ns C ρ a).bnd fun u=>setaV u n v) σ=.ok w σ₄ from bnd2 h1 (bnd2 h2 h4)) ?_;exact h5
theorem setaI {c d:Nat}{kvs:Kv}{n:List Nat} (hl:σ[d]?=some (.dict kvs)) (h:(dput kvs n v).length<=lim):setaV (.inst c d) n v σ=.ok .none (σ.set d (.dict (dput kvs n v))):=by
 show onD d (fun kvs=>putD d (dput kvs n v)) σ=_
 refine gw (onD_ok hl ..) ?_
 unfold putD
 exact gw (if_pos h ..) rfl
theorem f_next {fn:Fn} (hl:vs.length=fn.nargs) (h:evSs ns C (vs.map some++v9 (fn.n - fn.nargs) .none) σ fn.body=.ok .next ρ' σ'):evF ns C fn vs σ=.ok .none σ':=by
 unfold evF;exact gw (if_pos hl ..) (gw h rfl)
theorem look_ok (hm:C.mlook=mlookOf T0) {d i:Nat}{kvs:Kv}{m:List Nat} (h:σ[d]?=some (.dict kvs)) (h1:dget kvs m=.none) (h2:((T0.cls[1]?).bind fun p=>p.2.lookup m)=some i):C.mlook (.inst 1 d) m σ=.ok i σ:=by
 refine gw hm ?_
 show onD d (fun kvs=>match dget kvs m with | .none=>pick ((T0.cls[1]?).bind fun p=>p.2.lookup m) | some _=>stuck) σ=_
 refine gw (onD_ok h ..) (gw h1 (gw h2 ?_));rfl
theorem set_off {m:Nat} (o:O) {i:Nat}{x:O} (h:i≠m) (e:σ[i]?=some x):(σ.set m o)[i]?=some x:=by refine gw (jy (Ne.symm h) ..) ?_;exact e
theorem set_on {m:Nat}{x:O} (h:σ[m]?=some x) (o:O):(σ.set m o)[m]?=some o:=jk (zc.mp h).1
end
theorem cps {p:Prop} (h:∀ G:Prop,(p->G)->G):p:=h p id
structure Dl where
 start:Nat
 st:Nat
 kat:Nat
 ws:Ws
 said:List V
 seen:List (List Nat)
 heads:List (List Nat)
structure St where
 n:Nat
 d:Nat->Dl
 row:List Nat
 names:List (List Nat)
 hist:List Nat->List (Nat×Option Int)
inductive Cell where
 | b (j:Nat) | d (j k:Nat) | h (x:List Nat)
structure Pl where
 at_:Cell->Nat
 ow:Nat->Cell
noncomputable abbrev Fz:=Nat->Option O
noncomputable def mood (s:Nat):List Nat:=if s=0 then [111,112,101,110] else if s=1 then [100,114,111,112,112,101,100] else [107,101,112,116]
noncomputable def dlE (D:Dl) (w s e h:Nat):Kv:=[([115,116,97,114,116],.int D.start),([115,116,97,116,101],.str (mood D.st)),([107,101,112,116,95,97,116],.int D.kat),([119,114,105,116,116,101,110],.ref w),([115,97,105,100],.ref s),([115,101,101,110],.ref e),([104,101,97,100,115],.ref h)]
noncomputable def nV (l:List (List Nat)):List V:=l.map V.str
noncomputable def tV (l:List (List Nat)):Kv:=l.map fun x=>(x,.bool true)
noncomputable def shE (s d r:Nat):Kv:=[([115,116,111,99,107],.ref s),([100,101,97,108,105,110,103,115],.ref d),([114,111,119],.ref r)]
noncomputable def hV (l:List (Nat×Option Int)):List V:=l.map fun p=>.tup [.int p.1,val p.2]
noncomputable def renD (D:Dl) (P:Pl) (k:Nat):Nat->O
 | 0=>.dict (dlE D (P.at_ (.d 1 k)) (P.at_ (.d 2 k)) (P.at_ (.d 3 k)) (P.at_ (.d 4 k)))
 | 1=>.list (wV D.ws)
 | 2=>.list D.said
 | 3=>.dict (tV D.seen)
 | _=>.dict (tV D.heads)
theorem renD_ne {D D':Dl}{P:Pl}{k q i:Nat} (h:i≠q) (hi:i < 5) (h0:q=0∨(D'.start=D.start/\D'.st=D.st/\D'.kat=D.kat)) (h1:q=1∨D'.ws=D.ws) (h2:q=2∨D'.said=D.said) (h3:q=3∨D'.seen=D.seen) (h4:q=4∨D'.heads=D.heads):renD D' P k i=renD D P k i:=by
 match i with
 | 0=>obtain ⟨a,b,c⟩:=h0.resolve_left h.symm;show O.dict (dlE D' _ _ _ _)=O.dict (dlE D _ _ _ _);unfold dlE;exact gw a (gw b (gw c rfl))
 | 1=>exact congrArg (fun x=>O.list (wV x)) (h1.resolve_left h.symm)
 | 2=>exact congrArg O.list (h2.resolve_left h.symm)
 | 3=>exact congrArg (fun x=>O.dict (tV x)) (h3.resolve_left h.symm)
 | i + 4=>exact congrArg (fun x=>O.dict (tV x)) (h4.resolve_left fun e=>h ((congrArg (· + 4) (uc.mp (gq hi))).trans e.symm))
noncomputable def renB (S:St) (P:Pl):Nat->O
 | 0=>.dict (shE (P.at_ (.b 1)) (P.at_ (.b 2)) (P.at_ (.b 3)))
 | 1=>.dict (S.names.map fun x=>(x,.ref (P.at_ (.h x))))
 | 2=>.list ((xf S.n).map fun k=>.inst 0 (P.at_ (.d 0 k)))
 | _=>.list (S.row.map fun k:Nat=>.int k)
theorem renB_ne {S S':St}{P:Pl}{q j:Nat} (h:j≠q) (hj:j < 4) (h1:q=1∨S'.names=S.names) (h2:q=2∨S'.n=S.n) (h3:q=3∨S'.row=S.row):renB S' P j=renB S P j:=by
 match j with
 | 0=>rfl
 | 1=>exact congrArg (fun x:List (List Nat)=>O.dict (x.map fun x=>(x,.ref (P.at_ (.h x))))) (h1.resolve_left h.symm)
 | 2=>exact congrArg (fun n=>O.list ((xf n).map fun k=>.inst 0 (P.at_ (.d 0 k)))) (h2.resolve_left h.symm)
 | j + 3=>exact congrArg (fun x:List Nat=>O.list (x.map fun k:Nat=>.int k)) (h3.resolve_left fun e=>h ((congrArg (· + 3) (uc.mp (gq hj))).trans e.symm))
noncomputable def ren (S:St) (P:Pl):Cell->O
 | .b j=>renB S P j
 | .d j k=>renD (S.d k) P k j
 | .h x=>.list (hV (S.hist x))
noncomputable def live (S:St):Cell->Prop
 | .b j=>j < 4
 | .d j k=>j < 5/\k < S.n
 | .h x=>x∈S.names
structure Inv (G:Fz) (S:St) (P:Pl) (σ:H):Prop where
 c:∀ c,live S c->σ[P.at_ c]?=some (ren S P c)/\P.ow (P.at_ c)=c
 fz:∀ i o,G i=some o->σ[i]?=some o/\∀ c,live S c->P.at_ c≠i
section
variable {G:Fz}{S S':St}{P P':Pl}{σ σ' σ₁:H}{c c₀:Cell}{o:O}
theorem Inv.gr (h:Inv G S P σ) (g:Gr σ σ'):Inv G S P σ':=⟨fun c l=>⟨g.at (h.c c l).1,(h.c c l).2⟩,fun i o e=>⟨g.at (h.fz i o e).1,(h.fz i o e).2⟩⟩
theorem Inv.lt (h:Inv G S P σ) (l:live S c):P.at_ c < σ.length:=(zc.mp (h.c c l).1).1
theorem Inv.ne (h:Inv G S P σ) {d:Cell} (l:live S c) (l':live S d) (e:c≠d):P.at_ c≠P.at_ d:=fun q=>e (by exact bw ((h.c c l).2 ..) (bw ((h.c d l').2 ..) (gw q rfl)))
theorem Inv.step (h:Inv G S P σ) (g:Gr σ σ₁) (l:live S c₀) (he:P'.at_ c₀=P.at_ c₀)
  (hc:∀ c,live S' c->(live S c/\P'.at_ c=P.at_ c/\P'.ow (P.at_ c)=c/\(c≠c₀->ren S' P' c=ren S P c))∨(σ.length<=P'.at_ c/\σ₁[P'.at_ c]?=some (ren S' P' c)/\P'.ow (P'.at_ c)=c))
  (ho:o=ren S' P' c₀):Inv G S' P' (σ₁.set (P.at_ c₀) o):=by
 subst ho
 refine ⟨fun c lc=>?_,fun i o e=>?_⟩
 ·rcases hc c lc with ⟨l1,e1,e2,e3⟩ | ⟨g1,e1,e2⟩
  ·refine gw e1 ?_
   by_cases q:c=c₀
   ·subst q
    exact ⟨set_on (g.at (h.c c l1).1) _,e2⟩
   ·refine gw (e3 q ..) ?_
    exact ⟨set_off _ (h.ne l1 l q) (g.at (h.c c l1).1),e2⟩
  ·exact ⟨set_off _ (xt (zm (h.lt l) g1)) e1,e2⟩
 ·obtain ⟨f1,f2⟩:=h.fz i o e
  have:=(zc.mp f1).1
  exact ⟨set_off _ (f2 c₀ l).symm (g.at f1),fun c lc=>(hc c lc).elim (fun q=>by refine gw (q.2.1 ..) ?_;exact f2 c q.1) fun q=>xt (zm this q.1)⟩
theorem Inv.store (h:Inv G S P σ) (l:live S c₀) (hl:∀ c,live S' c->live S c) (hr:∀ c,c≠c₀->live S c->ren S' P c=ren S P c) (ho:o=ren S' P c₀):Inv G S' P (σ.set (P.at_ c₀) o) :=
 h.step (P':=P) Gr.rfl l rfl (fun c lc=>.inl ⟨hl c lc,rfl,(h.c c (hl c lc)).2,fun q=>hr c q (hl c lc)⟩) ho
theorem Inv.b (h:Inv G S P σ) (j:Nat) (hj:j < 4):σ[P.at_ (.b j)]?=some (renB S P j):=(h.c (.b j) hj).1
theorem Inv.d (h:Inv G S P σ) (j:Nat) {k:Nat} (hj:j < 5) (hk:k < S.n):σ[P.at_ (.d j k)]?=some (renD (S.d k) P k j):=(h.c (.d j k) ⟨hj,hk⟩).1
theorem Inv.h (h:Inv G S P σ) {x:List Nat} (hx:x∈S.names):σ[P.at_ (.h x)]?=some (.list (hV (S.hist x))):=(h.c (.h x) hx).1
noncomputable def St.setD (S:St) (k:Nat) (D:Dl):St:={ S with d:=fun j=>if j=k then D else S.d j }
theorem Inv.storeD (h:Inv G S P σ) {j k:Nat}{D:Dl} (l:live S (.d j k)) (hr:∀ i,i≠j->i < 5->renD D P k i=renD (S.d k) P k i) (ho:o=renD D P k j):Inv G (S.setD k D) P (σ.set (P.at_ (.d j k)) o):=by
 refine h.store l (fun c q=>?_) (fun c q lc=>?_) ?_
 ·cases c <;> exact q
 ·cases c with
  | b i=>rfl
  | h x=>rfl
  | d i k' =>
   show renD (if k'=k then D else S.d k') P k' i=_
   by_cases e:k'=k
   ·subst e
    refine gw (if_pos rfl ..) ?_
    exact hr i (fun e=>q (by exact gw e rfl)) lc.1
   ·refine gw (if_neg e ..) ?_;rfl
 ·show o=renD (if k=k then D else S.d k) P k j
  refine gw (if_pos rfl ..) ?_;exact ho
theorem St.setD_at (S:St) (k:Nat) (D:Dl):(S.setD k D).d k=D:=if_pos rfl
theorem St.setD_ne (S:St) {k k':Nat} (D:Dl) (h:k'≠k):(S.setD k D).d k'=S.d k':=if_neg h
theorem St.setD_setD (S:St) (k:Nat) (D D':Dl):(S.setD k D).setD k D'=S.setD k D':=by
 unfold St.setD
 congr 1
 funext j
 show (if j=k then D' else (if j=k then D else S.d j))=if j=k then D' else S.d j
 by_cases h:j=k
 ·exact gw (if_pos h ..) (gw (if_pos h ..) rfl)
 ·exact gw (if_neg h ..) (gw (if_neg h ..) (gw (if_neg h ..) rfl))
structure Fr (G:Fz) (S:St) (P:Pl) (a:Nat):Prop where
 ne:∀ c,live S c->P.at_ c≠a
 no:G a=.none
theorem Inv.fr (I:Inv G S P σ) {a:Nat} (h:σ.length<=a):Fr G S P a:=⟨fun c l=>yj (zm (I.lt l) h),by
 cases e:G a with
 | none=>rfl
 | some o=>exact (yc.mpr h (zc.mp (I.fz a o e).1).1).elim⟩
theorem Inv.put (I:Inv G S P σ) {a:Nat} (f:Fr G S P a) (o:O):Inv G S P (σ.set a o) :=
 ⟨fun c l=>⟨set_off _ (f.ne c l) (I.c c l).1,(I.c c l).2⟩,fun i x e=>⟨set_off _ (fun q=>by replace e:=(f.no ..)▸q▸e;cases e) (I.fz i x e).1,(I.fz i x e).2⟩⟩
open Classical in
noncomputable def mx (S:St) (P:Pl) (σ:H):Fz:=fun i=>if ∃ c,live S c/\P.at_ c=i then .none else σ[i]?
theorem Inv.mx (I:Inv G S P σ):Inv (mx S P σ) S P σ:=⟨I.c,fun i o e=>by
 unfold Mine.L13.mx at e
 split at e
 ·cases e
 ·rename_i q
  exact ⟨e,fun c l w=>q ⟨c,l,w⟩⟩⟩
noncomputable def Free (S:St) (P:Pl) (a:Nat):Prop:=∀ c,live S c->P.at_ c≠a
noncomputable def nof:Fz:=fun _=>.none
theorem Inv.kept (I:Inv (Mine.L13.mx S P σ) S' P' σ') {a:Nat} (f:Free S P a) (h:σ[a]?=some o):σ'[a]?=some o/\Free S' P' a :=
 I.fz a o (by
  unfold Mine.L13.mx
  refine gw (if_neg (fun q=>by obtain ⟨c,l,e⟩:=q;exact f c l e)) ?_;exact h)
end
end Mine.L13
namespace Mine.L13
open PySem Mine Mine.P
noncomputable abbrev sh (P:Pl):V:=.inst 1 (P.at_ (.b 0))
noncomputable abbrev dl (P:Pl) (k:Nat):V:=.inst 0 (P.at_ (.d 0 k))
section
variable {ns:List Int}{C:Calls}{ρ:Env}{σ σ' σ₁ σ₂ σ₃ σ₄:H}{a b c:E}{x y z v w:V}{G:Fz}{S:St}{P:Pl}
theorem e_cmp2T {op op':Cmp} (h1:Ev ns C ρ a σ x σ₁) (h2:Ev ns C ρ b σ₁ y σ₂) (h3:cmpV op x y σ₂=.ok (.bool true) σ₂) (h4:Ev ns C ρ c σ₂ z σ₃) (h5:cmpV op' y z σ₃=.ok v σ₄):Ev ns C ρ (.cmp2 op op' a b c) σ v σ₄ :=
 bnd2 h1 (bnd2 h2 (bnd2 h3 (bnd2 h4 h5)))
theorem le_t {i j:Int} (h:i<=j):cmpV .le (.int i) (.int j) σ=.ok (.bool true) σ:=by show R.ok (V.bool (decide (i<=j))) σ=_;exact gw (decide_eq_true h ..) rfl
theorem le_f {i j:Int} (h:¬ i<=j):cmpV .le (.int i) (.int j) σ=.ok (.bool false) σ:=by show R.ok (V.bool (decide (i<=j))) σ=_;exact gw (decide_eq_false h ..) rfl
theorem lt_t {i j:Int} (h:i < j):cmpV .lt (.int i) (.int j) σ=.ok (.bool true) σ:=by show R.ok (V.bool (decide (i < j))) σ=_;exact gw (decide_eq_true h ..) rfl
theorem lt_f {i j:Int} (h:¬ i < j):cmpV .lt (.int i) (.int j) σ=.ok (.bool false) σ:=by show R.ok (V.bool (decide (i < j))) σ=_;exact gw (decide_eq_false h ..) rfl
theorem gt_ok (x y:Int):cmpV .gt (.int x) (.int y) σ=.ok (.bool (decide (y < x))) σ:=rfl
theorem ge_ok (x y:Int):cmpV .ge (.int x) (.int y) σ=.ok (.bool (decide (y<=x))) σ:=rfl
theorem bools_map {α:Type} (f:α->Bool):∀ l:List α,boolsOf (l.map fun c=>V.bool (f c))=some (l.map f):=by
 intro l
 induction l with
 | nil =>
  exact rfl
 | cons a l ih =>
  show (boolsOf (l.map fun c=>V.bool (f c))).map (f a::·)=_;refine gw ih ?_;rfl
theorem anyL {l:Nat}{xs:List V}{bs:List Bool} (hl:σ[l]?=some (.list xs)) (h:boolsOf xs=some bs):biV ns .any (.ref l) σ=.ok (.bool (bs.any id)) σ:=by
 show onL l (fun xs=>pick ((boolsOf xs).map fun bs=>V.bool (bs.any id))) σ=_
 refine gw (onL_ok hl ..) (gw h ?_);rfl
theorem allL {l:Nat}{xs:List V}{bs:List Bool} (hl:σ[l]?=some (.list xs)) (h:boolsOf xs=some bs):biV ns .all (.ref l) σ=.ok (.bool (bs.all id)) σ:=by
 show onL l (fun xs=>pick ((boolsOf xs).map fun bs=>V.bool (bs.all id))) σ=_
 refine gw (onL_ok hl ..) (gw h ?_);rfl
theorem head_ok (x:List Nat) (hx:x.length<=12):∃ σ',evF ns C f2_is_head [.str x] σ=.ok (.bool (x.all fun c=>signs.contains c)) σ'/\Gr σ σ':=by
 refine ex2 (gather_all (f:=fElt ns C [some (.str x)] (.cmp .isin (.var 1) (.con (V.str signs)))) (it:=fun i=>.seq x i)
  (fun i acc σ'=>acc=(x.take i).map (fun c=>V.bool (signs.contains c))/\σ'=σ) x.length
  (fun acc σ' _=>by show some ((x[x.length]?).map _)=_;refine gw (w6 (ze _) ..) ?_;rfl)
  (fun i acc σ' hi p=>by
   obtain ⟨rfl,rfl⟩:=p
   refine ⟨.str [x[i]],by show some ((x[i]?).map _)=_;refine gw (zf hi ..) ?_;rfl,.inl ⟨.bool (signs.contains x[i]),σ',fElt_ok (show Ev ns C _ (.cmp .isin (.var 1) (.con (V.str signs))) σ' _ σ' from e_cmp rfl rfl rfl),?_,?_,rfl⟩⟩
   ·refine gw (zb ..) (gw (yu ..) ?_);exact za (zq (za (ke _ _) hx)) (by decide)
   ·refine gw (take_at x hi ..) (gw (yg ..) ?_);rfl)
  x.length 0 [] σ (zo _) ⟨rfl,rfl⟩) fun acc σ' q_h=>?_;refine an3 q_h fun h q_3 q_4=>?_;obtain rfl:=q_3;obtain rfl:=q_4
 refine ⟨σ'++[.list ((x.take x.length).map fun c=>V.bool (signs.contains c))],f_ret (fn:=f2_is_head) (vs:=[.str x]) rfl (s_ifF (orF rfl (or1 (e_cmp (e_bi rfl rfl) rfl ((gt_ok _ _).trans (by exact gw (decide_eq_false (show ¬ (12:Int) < x.length from u9.mpr (yw.mpr hx))) rfl))))) (s_ret (e_bi (e_comp (it:=.seq x 0) (n:=x.length) rfl h) ((allL (at_new _ _) (bools_map _ _)).trans ?_)))),Gr.app _ _⟩
 refine gw (zu ..) (gw (List.all_map ..) ?_);rfl
theorem name_is (h2:∀ (x:List Nat) (σ:H),x.length<=12->∃ σ',C.call 2 [.str x] σ=.ok (.bool (x.all fun c=>signs.contains c)) σ'/\Gr σ σ') (x:List Nat) (hx:x.length<=12) :
  ∃ σ',evF ns C f3_is_name [.str x] σ=.ok (.bool ((x.all fun c=>signs.contains c) && decide (0 < x.length))) σ'/\Gr σ σ':=by
 obtain ⟨σ',h,g⟩:=h2 x σ hx
 refine ⟨σ',f_ret rfl (s_ret ?_),g⟩
 cases hb:x.all fun c=>signs.contains c with
 | false=>replace h:=hb▸h;exact andF (e_call rfl h)
 | true =>
  replace h:=hb▸h
  refine andT (e_call rfl h) (and1 (e_cmp (e_bi rfl rfl) rfl ((gt_ok _ _).trans ?_)))
  refine gw (Bool.true_and ..) ?_
  congr 2
  exact decide_eq_decide.mpr uv
theorem Nm.is {x:List Nat} (h:Nm x):((x.all fun c=>signs.contains c) && decide (0 < x.length))=true:=by
 refine gw (jn.mpr h.2.2 ..) (gw (decide_eq_true (show 0 < x.length from h.1)) ?_);rfl
theorem need_name_ok (h3:∀ (x:List Nat) (σ:H),x.length<=12->∃ σ',C.call 3 [.str x] σ=.ok (.bool ((x.all fun c=>signs.contains c) && decide (0 < x.length))) σ'/\Gr σ σ') (s:V) {x:List Nat} (hx:Nm x):∃ σ',evF ns C f41_Shelf_need_name [s,.str x] σ=.ok .none σ'/\Gr σ σ':=by
 obtain ⟨σ',h,g⟩:=h3 x σ hx.2.1
 replace h:=(hx.is ..)▸h
 exact ⟨σ',f_next rfl (s_ifF (e_not (e_call rfl h) rfl) ss_nil),g⟩
theorem value_is (h1:∀ i σ,C.call 1 [.int i] σ=.ok (.bool true) σ) {t:Option Int} (ht:inR t):evF ns C f4_is_value [val t] σ=.ok (.bool true) σ:=by
 cases t with
 | none=>rfl
 | some i=>exact f_ret rfl (s_ifF rfl (s_ret (andT (e_call rfl (h1 i σ)) (and1 (e_cmp2T rfl rfl (le_t (i:=0 - 1000000000000000000000000000000) ht.1) rfl (le_t ht.2))))))
theorem sh_stock (I:Inv G S P σ):attrV (sh P) [115,116,111,99,107] σ=.ok (.ref (P.at_ (.b 1))) σ:=attrI (I.b 0 (by decide)) rfl
theorem sh_deals (I:Inv G S P σ):attrV (sh P) [100,101,97,108,105,110,103,115] σ=.ok (.ref (P.at_ (.b 2))) σ:=attrI (I.b 0 (by decide)) rfl
theorem sh_row (I:Inv G S P σ):attrV (sh P) [114,111,119] σ=.ok (.ref (P.at_ (.b 3))) σ:=attrI (I.b 0 (by decide)) rfl
theorem len_deals (I:Inv G S P σ):biV ns .len (.ref (P.at_ (.b 2))) σ=.ok (.int S.n) σ:=by
 exact gw (lenL (I.b 2 (by decide)) ..) (gw (zb ..) (gw (vj ..) rfl))
theorem len_row (I:Inv G S P σ):biV ns .len (.ref (P.at_ (.b 3))) σ=.ok (.int S.row.length) σ:=by
 exact gw (lenL (I.b 3 (by decide)) ..) (gw (zb ..) rfl)
theorem at_deals (I:Inv G S P σ) {k:Nat} (hk:k < S.n):idxV ns (.ref (P.at_ (.b 2))) (.int k) σ=.ok (dl P k) σ :=
 idxL (I.b 2 (by decide)) (z8 k) (by refine gw (xb ..) (gw (zv ..) (gw (List.getElem?_range hk ..) ?_));rfl)
theorem need_dealing_ok (h1:∀ i σ,C.call 1 [.int i] σ=.ok (.bool true) σ) (I:Inv G S P σ) {k:Nat} (hk:k < S.n):evF ns C f39_Shelf_need_dealing [sh P,.int k] σ=.ok (dl P k) σ :=
 f_ret rfl (s_ifF (orF (e_not (e_call rfl (h1 k σ)) rfl) (or1 (e_not (e_cmp2T rfl rfl (le_t (z8 k)) (e_bi (e_attr rfl (sh_deals I)) (len_deals I)) (lt_t (vw.mpr hk))) rfl))) (s_ret (e_idx (e_attr rfl (sh_deals I)) rfl (at_deals I hk))))
theorem eqS' (x y:List Nat):cmpV .ne (.str x) (.str y) σ=.ok (.bool (!decide (x=y))) σ:=neS x y
theorem dl_state (I:Inv G S P σ) {k:Nat} (hk:k < S.n):attrV (dl P k) [115,116,97,116,101] σ=.ok (.str (mood (S.d k).st)) σ:=attrI (I.d 0 (by decide) hk) rfl
theorem dl_start (I:Inv G S P σ) {k:Nat} (hk:k < S.n):attrV (dl P k) [115,116,97,114,116] σ=.ok (.int (S.d k).start) σ:=attrI (I.d 0 (by decide) hk) rfl
theorem dl_at (I:Inv G S P σ) {k:Nat} (hk:k < S.n):attrV (dl P k) [107,101,112,116,95,97,116] σ=.ok (.int (S.d k).kat) σ:=attrI (I.d 0 (by decide) hk) rfl
theorem dl_ws (I:Inv G S P σ) {k:Nat} (hk:k < S.n):attrV (dl P k) [119,114,105,116,116,101,110] σ=.ok (.ref (P.at_ (.d 1 k))) σ:=attrI (I.d 0 (by decide) hk) rfl
theorem dl_said (I:Inv G S P σ) {k:Nat} (hk:k < S.n):attrV (dl P k) [115,97,105,100] σ=.ok (.ref (P.at_ (.d 2 k))) σ:=attrI (I.d 0 (by decide) hk) rfl
theorem dl_seen (I:Inv G S P σ) {k:Nat} (hk:k < S.n):attrV (dl P k) [115,101,101,110] σ=.ok (.ref (P.at_ (.d 3 k))) σ:=attrI (I.d 0 (by decide) hk) rfl
theorem dl_heads (I:Inv G S P σ) {k:Nat} (hk:k < S.n):attrV (dl P k) [104,101,97,100,115] σ=.ok (.ref (P.at_ (.d 4 k))) σ:=attrI (I.d 0 (by decide) hk) rfl
theorem mood_open (s:Nat):decide (mood s=[111,112,101,110])=decide (s=0):=by
 unfold mood
 by_cases h:s=0
 ·refine gw (if_pos h ..) (gw (decide_eq_true h ..) ?_);rfl
 ·refine gw (if_neg h ..) (gw (decide_eq_false h ..) ?_)
  split <;> rfl
noncomputable abbrev Need (C:Calls):Prop:=∀ {G:Fz}{S:St}{P:Pl}{σ:H}{k:Nat},Inv G S P σ->k < S.n->C.call 39 [sh P,.int k] σ=.ok (dl P k) σ
theorem need_open_ok (hm:C.mlook=mlookOf T0) (h30:Need C) (I:Inv G S P σ) {k:Nat} (hk:k < S.n) (ho:(S.d k).st=0):evF ns C f40_Shelf_need_open [sh P,.int k] σ=.ok (dl P k) σ :=
 f_ret rfl (s_assign (e_mcall rfl (look_ok hm (I.b 0 (by decide)) rfl rfl) rfl (h30 I hk)) rfl (s_ifF (e_cmp (e_attr rfl (dl_state I hk)) rfl ((neS _ _).trans (by refine gw ho ?_;rfl))) (s_ret rfl)))
theorem need_open_no (hm:C.mlook=mlookOf T0) (h30:Need C) (I:Inv G S P σ) {k:Nat} (hk:k < S.n) (ho:(S.d k).st≠0):evF ns C f40_Shelf_need_open [sh P,.int k] σ=.exc 2 σ :=
 f_exc rfl (s_assign (e_mcall rfl (look_ok hm (I.b 0 (by decide)) rfl rfl) rfl (h30 I hk)) rfl (s_ifT (e_cmp (e_attr rfl (dl_state I hk)) rfl ((neS _ _).trans (by refine gw (mood_open ..) (gw (decide_eq_false ho ..) ?_);rfl))) (after_exc s_raise)))
end
end Mine.L13
namespace Mine.L13
open PySem Mine Mine.P
noncomputable def wrote (ws:Ws) (n:List Nat):Bool:=(look .none ws n).isSome
theorem dget_map (f:List Nat->V) (n:List Nat):∀ l:List (List Nat),dget (l.map fun x=>(x,f x)) n=if n∈l then some (f n) else .none:=by
 intro l
 induction l with
 | nil =>
  refine gw (if_neg z0 ..) ?_;rfl
 | cons a l ih =>
  show (if a=n then some (f a) else dget (l.map fun x=>(x,f x)) n)=_
  refine gw ih ?_
  by_cases h:a=n
  ·exact gw (if_pos h ..) (gw (if_pos (h▸zh) ..) (gw h rfl))
  ·refine gw (if_neg h ..) ?_
   by_cases h':n∈l
   ·exact gw (if_pos h' ..) (gw (if_pos (zj _ h') ..) rfl)
   ·exact gw (if_neg h' ..) (gw (if_neg (fun q=>(zy.mp q).elim (fun e=>h e.symm) h')) rfl)
section
variable {ns:List Int}{C:Calls}{ρ:Env}{σ σ' σ₁ σ₂ σ₃ σ₄:H}{G:Fz}{S:St}{P:Pl}
noncomputable abbrev LastPl (C:Calls):Prop:=∀ {l:Nat}{ws:Ws}{σ:H},σ[l]?=some (.list (wV ws))->ws.length<=1000->∀ n,∃ p,C.call 6 [.ref l,.str n] σ=.ok (.int p) σ/\LP ws n ws.length p
theorem has_written_ok (h6:LastPl C) (I:Inv G S P σ) {k:Nat} (hk:k < S.n) (hz:(S.d k).ws.length<=1000) (n:List Nat):evF ns C f8_has_written [dl P k,.str n] σ=.ok (.bool (wrote (S.d k).ws n)) σ:=by
 obtain ⟨p,hp,q⟩:=h6 (I.d 1 (by decide) hk) hz n
 refine f_ret rfl (s_ret (e_cmp (e_call (es_two (e_attr rfl (dl_ws I hk)) rfl) hp) rfl ((ge_ok _ _).trans ?_)))
 unfold wrote
 unfold LP at q
 replace q:=(zu ..)▸q
 rcases q with ⟨rfl,q⟩ | ⟨j,t,rfl,_,q⟩
 ·refine gw q ?_;rfl
 ·refine gw q (gw (decide_eq_true (z8 j) ..) ?_);rfl
theorem inD {l:Nat}{kvs:Kv}{n:List Nat} (hl:σ[l]?=some (.dict kvs)):cmpV .isin (.str n) (.ref l) σ=.ok (.bool (dget kvs n).isSome) σ:=by
 show (match σ[l]? with | some (.list xs)=>pick ((anyEq (.str n) xs).map V.bool) σ | some (.dict kvs)=>onS (.str n) (fun x=>M.ret (V.bool (dget kvs x).isSome)) σ | .none=>R.stuck)=_
 refine gw hl ?_;rfl
theorem dget_tV (l:List (List Nat)) (n:List Nat):(dget (tV l) n).isSome=decide (n∈l):=by
 unfold tV
 rw [dget_map (fun _=>V.bool true)]
 by_cases h:n∈l
 ·rw [if_pos h,decide_eq_true h];rfl
 ·rw [if_neg h,decide_eq_false h];rfl
theorem keys_tV (l:List (List Nat)):keysOf (tV l)=l:=by unfold keysOf tV;refine gw (ug ..) ?_;exact List.map_id l
noncomputable abbrev IsU (C:Calls):Prop:=∀ (x y:List Nat) (σ:H),C.call 5 [.str x,.str y] σ=.ok (.bool (pre y x)) σ
theorem any_of {src elt:E}{ks:List (List Nat)}{l:Nat} (f:List Nat->Bool) (hs:Ev ns C ρ src σ (.ref l) σ₁) (hl:σ₁[l]?=some (.list (ks.map V.str))) (hz:ks.length<=1000) (hc:∀ x σ',Gr σ₁ σ'->∃ σ'',Ev ns C (ρ++[some (.str x)]) elt σ' (.bool (f x)) σ''/\Gr σ' σ''):∃ σ',Ev ns C ρ (.bi .any (.comp (.of src) elt)) σ (.bool (ks.any f)) σ'/\Gr σ₁ σ':=by
 refine ex2 (gather_all (f:=fElt ns C ρ elt) (it:=fun i=>.list l i)
  (fun i acc σ'=>acc=(ks.take i).map (fun c=>V.bool (f c))/\Gr σ₁ σ') (ks.map V.str).length (fun acc σ' p=>stop_list (p.2.at hl))
  (fun i acc σ' hi p=>by
   obtain ⟨rfl,g⟩:=p
   replace hi:=(zb ..)▸hi
   obtain ⟨σ'',e,g'⟩:=hc ks[i] σ' g
   refine ⟨.str ks[i],next_list (g.at hl) (by refine gw (zv ..) (gw (zf hi ..) ?_);rfl),.inl ⟨.bool (f ks[i]),σ'',fElt_ok e,?_,?_,g.tr g'⟩⟩
   ·refine gw (zb ..) (gw (yu ..) ?_);exact lm (za (Nat.succ_le_of_lt (yk (kn _ _) hi)) hz)
   ·refine gw (take_at ks hi ..) (gw (yg ..) ?_);rfl)
  (ks.map V.str).length 0 [] σ₁ (zo _) ⟨rfl,Gr.rfl⟩) fun acc σ' q_h=>?_;refine an3 q_h fun hg q_3 g=>?_;obtain rfl:=q_3
 refine ⟨σ'++[.list ((ks.take (ks.map V.str).length).map fun c=>V.bool (f c))],e_bi (e_comp (src_of hs hl) hg) ((anyL (at_new σ' _) (bools_map _ _)).trans ?_),g.tr (Gr.app _ _)⟩
 refine gw (zb ..) (gw (zu ..) (gw (List.any_map ..) ?_));rfl
noncomputable def looks (D:Dl) (n:List Nat):Bool:=decide (n∈D.seen) || D.heads.any fun h=>pre h n
theorem has_looked_ok (h5:IsU C) (I:Inv G S P σ) {k:Nat} (hk:k < S.n) (hz:(S.d k).heads.length<=1000) (n:List Nat):∃ σ',evF ns C f9_has_looked [dl P k,.str n] σ=.ok (.bool (looks (S.d k) n)) σ'/\Gr σ σ':=by
 have q1:Ev ns C [some (dl P k),some (.str n)] (.cmp .isin (.var 1) (.attr (.var 0) [115,101,101,110])) σ (.bool (decide (n∈(S.d k).seen))) σ:=e_cmp rfl (e_attr rfl (dl_seen I hk)) ((inD (I.d 3 (by decide) hk)).trans (by exact gw (dget_tV ..) rfl))
 unfold looks
 cases hs:decide (n∈(S.d k).seen) with
 | true=>replace q1:=hs▸q1;exact ⟨σ,f_ret (fn:=f9_has_looked) rfl (s_ifT q1 (after_end (s_ret rfl))),Gr.rfl⟩
 | false =>
  replace q1:=hs▸q1
  have h4:biV ns .list (.ref (P.at_ (.d 4 k))) σ=.ok (.ref σ.length) (σ++[.list ((S.d k).heads.map V.str)]):=(listD (P:=tV (S.d k).heads) (I.d 4 (by decide) hk) (by unfold tV;refine gw (zb ..) ?_;exact hz)).trans (by exact gw (keys_tV ..) rfl)
  obtain ⟨σ',e,g⟩:=any_of (ns:=ns) (ρ:=[some (dl P k),some (.str n)]) (src:=.bi .list (.attr (.var 0) [104,101,97,100,115])) (elt:=.call 5 [(.var 1),(.var 2)]) (fun h=>pre h n) (e_bi (e_attr rfl (dl_heads I hk)) h4) (at_new σ _) hz (fun x σ' _=>⟨σ',e_call rfl (h5 n x σ'),Gr.rfl⟩)
  exact ⟨σ',f_ret (fn:=f9_has_looked) rfl (s_ifF q1 (s_ret e)),(Gr.app σ _).tr g⟩
noncomputable abbrev Looked (C:Calls):Prop:=∀ {G:Fz}{S:St}{P:Pl}{σ:H}{k:Nat},Inv G S P σ->k < S.n->(S.d k).heads.length<=1000->∀ n,∃ σ',C.call 9 [dl P k,.str n] σ=.ok (.bool (looks (S.d k) n)) σ'/\Gr σ σ'
noncomputable abbrev Values (C:Calls):Prop:=∀ {l:Nat}{ws:Ws}{σ:H},σ[l]?=some (.list (wV ws))->ws.length<=1000->C.call 7 [.ref l] σ=.ok (.ref σ.length) (σ++[.dict (put [] ws)])
noncomputable def kys (ws:Ws):List (List Nat):=keysOf (put [] ws)
noncomputable def wl (ws:Ws) (D:Dl):Bool:=(kys ws).any (looks D)
theorem was_looked_ok (h7:Values C) (h9:Looked C) (I:Inv G S P σ) {j k:Nat} (hj:j < S.n) (hk:k < S.n) (hz:(S.d j).ws.length<=1000) (hh:(S.d k).heads.length<=1000):∃ σ',evF ns C f51_Shelf_was_looked_at [sh P,dl P j,dl P k] σ=.ok (.bool (wl (S.d j).ws (S.d k))) σ'/\Gr σ σ':=by
 have pl:(put [] (S.d j).ws).length<=1000:=za (put_len _ []) (za (yl hz _) (by decide))
 have hks:(kys (S.d j).ws).length<=1000:=by unfold kys keysOf;refine gw (zb ..) ?_;exact pl
 have g2:Gr σ (σ++[O.dict (put [] (S.d j).ws)]++[O.list ((kys (S.d j).ws).map V.str)]):=(Gr.app σ _).tr (Gr.app _ _)
 obtain ⟨σ',e,g⟩:=any_of (ns:=ns) (ρ:=[some (sh P),some (dl P j),some (dl P k)]) (src:=.bi .list (.call 7 [(.attr (.var 1) [119,114,105,116,116,101,110])])) (elt:=.call 9 [(.var 2),(.var 3)]) (looks (S.d k)) (e_bi (e_call (es_one (e_attr rfl (dl_ws I hj))) (h7 (I.d 1 (by decide) hj) hz)) (listD (at_new σ _) pl)) (at_new _ _) hks (fun x σ' g=>by
  obtain ⟨σ'',e,g'⟩:=h9 (I.gr (g2.tr g)) hk hh x
  exact ⟨σ'',e_call rfl e,g'⟩)
 exact ⟨σ',f_ret (fn:=f51_Shelf_was_looked_at) rfl (s_ret e),g2.tr g⟩
noncomputable abbrev WasL (C:Calls):Prop:=∀ {G:Fz}{S:St}{P:Pl}{σ:H}{j k:Nat},Inv G S P σ->j < S.n->k < S.n->(S.d j).ws.length<=1000->(S.d k).heads.length<=1000->∃ σ',C.call 51 [sh P,dl P j,dl P k] σ=.ok (.bool (wl (S.d j).ws (S.d k))) σ'/\Gr σ σ'
noncomputable abbrev Wrote (C:Calls):Prop:=∀ {G:Fz}{S:St}{P:Pl}{σ:H}{k:Nat},Inv G S P σ->k < S.n->(S.d k).ws.length<=1000->∀ n,C.call 8 [dl P k,.str n] σ=.ok (.bool (wrote (S.d k).ws n)) σ
noncomputable def Mb (J K:Dl) (ks:List (List Nat)):Prop:=(∃ n∈ks,wrote J.ws n=true∨looks J n=true)∨(J.kat<=K.start/\wl J.ws K=true)
noncomputable def Bh (J K:Dl):Prop:=K.start < J.kat/\wl J.ws K=true
theorem ahead_ok (hm:C.mlook=mlookOf T0) (h8:Wrote C) (h9:Looked C) (h42:WasL C) (I:Inv G S P σ) {j k l:Nat} (hj:j < S.n) (hk:k < S.n) (hz:(S.d j).ws.length<=1000) (hhj:(S.d j).heads.length<=1000) (hhk:(S.d k).heads.length<=1000) {ks:List (List Nat)} (hl:σ[l]?=some (.list (ks.map V.str))) :
  ∃ b σ',evF ns C f50_Shelf_must_be_ahead [sh P,dl P j,dl P k,.ref l] σ=.ok (.bool b) σ'/\Gr σ σ'/\(Mb (S.d j) (S.d k) ks->b=true):=by
 refine cps fun G K=>?_
 have hq:=for_or (tgt:=tgtN 4) (body:=fun ρ σ=>evSs ns C ρ σ [.ite (.or [(.call 8 [(.var 1),(.var 4)]),(.call 9 [(.var 1),(.var 4)])]) [.ret (.lit (V.bool true))] []]) (it:=fun i=>.list l i)
  (fun i ρ σ'=>(∃ o,ρ=[some (sh P),some (dl P j),some (dl P k),some (.ref l),o])/\Gr σ σ'/\∀ n∈ks.take i,wrote (S.d j).ws n=false/\looks (S.d j) n=false) (fun r=>∃ ρ' σ',r=.ok (.ret (.bool true)) ρ' σ'/\Gr σ σ') (ks.map V.str).length
  (fun ρ σ' p=>stop_list (p.2.1.at hl))
  (fun i ρ σ' hi p=>by
   obtain ⟨⟨o,rfl⟩,g,no⟩:=p
   replace hi:=(zb ..)▸hi
   have I':=I.gr g
   have e8:=h8 I' hj hz ks[i]
   obtain ⟨σ'',e9,g'⟩:=h9 I' hj hhj ks[i]
   refine ⟨.str ks[i],_,next_list (g.at hl) (by refine gw (zv ..) (gw (zf hi ..) ?_);rfl),rfl,?_⟩
   cases hw:wrote (S.d j).ws ks[i] with
   | true=>replace e8:=hw▸e8;exact .inr ⟨_,s_ifT (orT (e_call rfl e8)) (after_end (s_ret rfl)),fun _=>rfl,_,_,rfl,g⟩
   | false =>
    replace e8:=hw▸e8
    cases hb:looks (S.d j) ks[i] with
    | true=>replace e9:=hb▸e9;exact .inr ⟨_,s_ifT (orF (e_call rfl e8) (or1 (e_call rfl e9))) (after_end (s_ret rfl)),fun _=>rfl,_,_,rfl,g.tr g'⟩
    | false =>
     replace e9:=hb▸e9
     refine .inl ⟨_,_,s_ifF (orF (e_call rfl e8) (or1 (e_call rfl e9))) ss_nil,⟨_,rfl⟩,g.tr g',fun n hn=>?_⟩
     rw [take_at ks hi] at hn
     exact (z5.mp hn).elim (no n) fun q=>by rw [zg.mp q];exact ⟨hw,hb⟩)
  (ks.map V.str).length 0 [some (sh P),some (dl P j),some (dl P k),some (.ref l),.none] σ (zo _) ⟨⟨_,rfl⟩,Gr.rfl,fun _ h=>absurd h z0⟩
 rcases hq with ⟨ρ',σ',h,⟨o,rfl⟩,g,no⟩ | ⟨ρ',σ',h,g⟩
 ·have I':=I.gr g
  rw [zb,zu] at no
  have nn:¬ ∃ n∈ks,wrote (S.d j).ws n=true∨looks (S.d j) n=true:=fun ⟨n,hn,q⟩=>by
   rw [(no n hn).1,(no n hn).2] at q
   exact q.elim (fun q=>nomatch q) fun q=>nomatch q
  obtain ⟨σ'',e42,g'⟩:=h42 I' hj hk hz hhk
  have hc:Ev ns C [some (sh P),some (dl P j),some (dl P k),some (.ref l),o] (.cmp .le (.attr (.var 1) [107,101,112,116,95,97,116]) (.attr (.var 2) [115,116,97,114,116])) σ' (.bool (decide (((S.d j).kat:Int)<=(S.d k).start))) σ':=e_cmp (e_attr rfl (dl_at I' hj)) (e_attr rfl (dl_start I' hk)) rfl
  cases hb:decide (((S.d j).kat:Int)<=(S.d k).start) with
  | false=>replace hc:=hb▸hc;exact K ⟨_,σ',f_ret (fn:=f50_Shelf_must_be_ahead) rfl (s_forN (src_of rfl hl) (after_next h (s_ret (andF hc)))),g,fun m=>m.elim (fun q=>absurd q nn) fun q=>absurd (yw.mpr q.1) (of_decide_eq_false hb)⟩
  | true=>replace hc:=hb▸hc;exact K ⟨_,σ'',f_ret (fn:=f50_Shelf_must_be_ahead) rfl (s_forN (src_of rfl hl) (after_next h (s_ret (andT hc (and1 (e_mcall rfl (look_ok hm (I'.b 0 (by decide)) rfl rfl) rfl e42)))))),g.tr g',fun m=>m.elim (fun q=>absurd q nn) fun q=>q.2⟩
 ·exact K ⟨true,σ',f_ret (fn:=f50_Shelf_must_be_ahead) rfl (s_forN (src_of rfl hl) (after_end h)),g,fun _=>rfl⟩
noncomputable def iV (l:List Nat):List V:=l.map fun k:Nat=>.int k
theorem indexL {l:Nat}{xs:List V}{v:V}{n:Nat} (hl:σ[l]?=some (.list xs)) (h:firstEq v xs 0=some n):meV (.ref l) .index [v] σ=.ok (.int n) σ:=by
 unfold meV;dsimp only;refine gw hl ?_
 show pick ((firstEq v xs 0).map fun (n:Nat)=>V.int n) σ=_
 refine gw h ?_;rfl
theorem getD2 {l:Nat}{kvs:Kv}{x:List Nat}{v:V} (hl:σ[l]?=some (.dict kvs)):meV (.ref l) .get [.str x,v] σ=.ok ((dget kvs x).getD v) σ:=by
 unfold meV;dsimp only;rw [hl];rfl
theorem stock_get (I:Inv G S P σ) (hh:∀ x,x∉S.names->S.hist x=[]) {n:List Nat}{i:Nat} (h0:ρ[0]?=some (some (sh P))) (hi:ρ[i]?=some (some (.str n))) :
  ∃ l,Ev ns C ρ (.me (.attr (.var 0) [115,116,111,99,107]) .get [(.var i),(.list [])]) σ (.ref l) (σ++[.list []])/\(σ++[.list []])[l]?=some (.list (hV (S.hist n))):=by
 have ev:∀ {j:Nat}{v:V}{σ:H},ρ[j]?=some (some v)->Ev ns C ρ (.var j) σ v σ:=fun {j v σ} h=>by show (match ρ[j]? with | some (some v)=>M.ret v | _=>stuck) σ=_;refine gw h ?_;rfl
 have I':=I.gr (Gr.app σ [.list []])
 have e:Ev ns C ρ (.me (.attr (.var 0) [115,116,111,99,107]) .get [(.var i),(.list [])]) σ ((dget (S.names.map fun x=>(x,V.ref (P.at_ (.h x)))) n).getD (.ref σ.length)) (σ++[.list []]) :=
  e_me (e_attr (ev h0) (sh_stock I)) (kD (I.b 1 (by decide)) rfl) (es_two (ev hi) (e_list rfl (z7 _))) (getD2 (I'.b 1 (by decide)))
 rw [dget_map fun x=>V.ref (P.at_ (.h x))] at e
 by_cases h:n∈S.names
 ·replace e:=(if_pos h ..)▸e
  exact ⟨_,e,I'.h h⟩
 ·replace e:=(if_neg h ..)▸e
  refine ⟨_,e,?_⟩
  refine gw (hh n h ..) ?_;exact at_new σ _
theorem hV_at {l:List (Nat×Option Int)}{i:Nat} (h:i < l.length):(hV l)[i]?=some (.tup [.int l[i].1,val l[i].2]):=by
 unfold hV;refine gw (zv ..) (gw (zf h ..) ?_);rfl
noncomputable abbrev NeedN (C:Calls):Prop:=∀ (s:V) {x:List Nat} (σ:H),Nm x->∃ σ',C.call 41 [s,.str x] σ=.ok .none σ'/\Gr σ σ'
end
end Mine.L13
namespace Mine.L13
open PySem Mine Mine.P
section
variable {ns:List Int}{C:Calls}{ρ:Env}{σ σ':H}
theorem any_int (k:Nat):∀ l:List Nat,anyEq (.int k) (iV l)=some (decide (k∈l)):=by
 intro l
 induction l with
 | nil =>
  exact rfl
 | cons a l ih =>
  show (match some (decide ((a:Int)=k)),anyEq (.int k) (iV l) with | some p,some q=>some (p || q) | _,_=>.none)=_
  refine gw ih ?_
  show some (decide ((a:Int)=k) || decide (k∈l))=_
  congr 1
  refine iw (jz ..) (gw (wt ..) (gw (decide_eq_true_eq ..) (gw (decide_eq_true_eq ..) (gw (decide_eq_true_eq ..) (iw (zy ..) ?_)))))
  exact ⟨fun h=>h.imp (fun e=>(v5.mp e).symm) id,fun h=>h.imp (fun e=>v5.mpr e.symm) id⟩
theorem first_int {k:Nat}:∀ (l:List Nat) (i:Nat),k∈l->∃ m,firstEq (.int k) (iV l) i=some (i + m)/\l[m]?=some k:=by
 intro l
 induction l with
 | nil =>
  intro _ h
  exact absurd h z0
 | cons a l ih =>
  intro i h
  show ∃ m,(if decide ((a:Int)=k)=true then (anyEq (.int k) (iV l)).map fun _=>i else firstEq (.int k) (iV l) (i + 1))=some (i + m)/\(a::l)[m]?=some k
  by_cases e:a=k
  ·refine gw (if_pos (decide_eq_true (v5.mpr e)) ..) (gw (any_int ..) ?_);exact ⟨0,rfl,congrArg some e⟩
  ·rw [if_neg (by rw [decide_eq_false fun q=>e (v5.mp q)];exact wh)]
   obtain ⟨m,q,w⟩:=ih (i + 1) ((zy.mp h).elim (fun q=>absurd q.symm e) id)
   exact ⟨m + 1,q.trans (congrArg some (xq i m)),w⟩
theorem iV_at {l:List Nat}{i:Nat} (h:i < l.length):(iV l)[i]?=some (.int l[i]):=by unfold iV;refine gw (zv ..) (gw (zf h ..) ?_);rfl
theorem iV_len (l:List Nat):(iV l).length=l.length:=zb ..
theorem min_nat (p i:Nat):min (p:Int) i=((min p i:Nat):Int):=by
 rcases zax p i with h | h
 ·exact gw (yf h ..) (gw (j0 (yw.mpr h) ..) rfl)
 ·exact gw (uf h ..) (gw (jo (yw.mpr h) ..) rfl)
theorem inI {b:Nat}{bs:List Nat} (k:Nat) (hb:σ[b]?=some (.list (iV bs))):cmpV .isin (.int k) (.ref b) σ=.ok (.bool (decide (k∈bs))) σ:=by
 show (match σ[b]? with | some (.list xs)=>pick ((anyEq (.int k) xs).map V.bool) σ | some (.dict kvs)=>onS (.int k) (fun x=>.ret (V.bool (dget kvs x).isSome)) σ | .none=>R.stuck)=_
 refine gw hb ?_
 show pick ((anyEq (.int k) (iV bs)).map V.bool) σ=_
 refine gw (any_int ..) ?_;rfl
noncomputable def Plc (rs as bs:List Nat) (v:V):Prop:=v=.none∨∃ p:Nat,v=.int p/\p<=rs.length/\(∀ k∈as,k∈rs.take p)/\∀ i k,rs[i]?=some k->k∈bs->p<=i
theorem place_in_ok {r a b:Nat}{rs as bs:List Nat} (hr:σ[r]?=some (.list (iV rs))) (ha:σ[a]?=some (.list (iV as))) (hb:σ[b]?=some (.list (iV bs))) (hz:rs.length<=1000) (hs:∀ k∈as,k∈rs) :
  ∃ v,evF ns C f17_place_in [.ref r,.ref a,.ref b] σ=.ok v σ/\Plc rs as bs v:=by
 refine cps fun G' K=>?_
 have hlr:biV ns .len (.ref r) σ=.ok (.int rs.length) σ:=by exact gw (lenL hr) (gw (iV_len ..) rfl)
 obtain ⟨ρ',σ',h,⟨p,o,hp,rfl,hp2⟩,rfl⟩:=for_all (tgt:=tgtN 4) (body:=fun ρ σ=>evSs ns C ρ σ [.ite (.cmp .isin (.idx (.var 0) (.var 4)) (.var 2)) [.assign 3 (.mm false (.var 3) (.var 4))] []]) (it:=fun i=>.range i rs.length)
  (fun i ρ σ'=>(∃ (p:Nat) (o:Option V),p<=rs.length/\ρ=[some (.ref r),some (.ref a),some (.ref b),some (.int p),o,.none]/\∀ j k,j < i->rs[j]?=some k->k∈bs->p<=j)/\σ'=σ) rs.length (fun _ _ _=>stop_range)
  (fun i ρ σ' hi q=>by
   obtain ⟨⟨p,o,hp,rfl,hp2⟩,rfl⟩:=q
   have hc:Ev ns C [some (.ref r),some (.ref a),some (.ref b),some (.int p),some (.int i),.none] (.cmp .isin (.idx (.var 0) (.var 4)) (.var 2)) σ' (.bool (decide (rs[i]∈bs))) σ' :=
    e_cmp (e_idx rfl rfl (idxL hr (z8 i) (v:=.int rs[i]) (by refine gw (xb ..) ?_;exact iV_at hi))) rfl (inI _ hb)
   by_cases q:rs[i]∈bs
   ·refine ⟨.int i,_,_,σ',next_range hi,rfl,s_ifT (hc.trans (by exact gw (decide_eq_true q ..) rfl)) (after_next (s_assign (e_mm rfl rfl) rfl ss_nil) ss_nil),⟨min p i,some (.int i),za (kn _ _) hp,?_,fun j k hj e hk=>?_⟩,rfl⟩
    ·show [_,_,_,some (V.int (min (p:Int) i)),_,_]=_
     exact gw (min_nat ..) rfl
    ·exact (vz (z4 hj)).elim (fun q=>za (kn _ _) (hp2 j k q e hk)) fun q=>q▸ke _ _
   ·refine ⟨.int i,_,_,σ',next_range hi,rfl,s_ifF (hc.trans (by exact gw (decide_eq_false q ..) rfl)) ss_nil,⟨p,some (.int i),hp,rfl,fun j k hj e hk=>?_⟩,rfl⟩
    refine (vz (z4 hj)).elim (fun q=>hp2 j k q e hk) fun w=>absurd ?_ q
    subst w
    replace e:=(zf hi ..)▸e
    exact Option.some.inj e▸hk)
  rs.length 0 [some (.ref r),some (.ref a),some (.ref b),some (.int rs.length),.none,.none] σ (zo _) ⟨⟨rs.length,.none,ze _,rfl,fun _ _ h=>absurd h (y5 _)⟩,rfl⟩
 have hsr:=src_range (ns:=ns) (C:=C) (ρ:=[some (.ref r),some (.ref a),some (.ref b),some (.int rs.length),.none,.none]) (σ:=σ') (e:=.bi .len (.var 0)) (k:=rs.length) (e_bi rfl hlr) (nz _) (ns_ (za hz (by decide)))
 replace hsr:=(xb ..)▸hsr
 have h2:=for_or (tgt:=tgtN 5) (body:=fun ρ σ=>evSs ns C ρ σ [.ite (.cmp .ge (.me (.var 0) .index [(.var 5)]) (.var 3)) [.ret (.lit V.none)] []]) (it:=fun i=>.list a i)
  (fun i ρ σ''=>(∃ o',ρ=[some (.ref r),some (.ref a),some (.ref b),some (.int p),o,o'])/\σ''=σ'/\∀ k∈as.take i,k∈rs.take p) (fun R=>∃ ρ',R=.ok (.ret .none) ρ' σ') (iV as).length (fun ρ σ p=>by obtain ⟨_,rfl,_⟩:=p;exact stop_list ha)
  (fun i ρ σ'' hi q=>by
   obtain ⟨⟨o',rfl⟩,rfl,no⟩:=q
   have hi':i < as.length:=by replace hi:=(iV_len ..)▸hi;exact hi
   obtain ⟨m,e1,hm⟩:=first_int rs 0 (hs as[i] (ye hi'))
   replace e1:=(zo ..)▸e1
   have hc:Ev ns C [some (.ref r),some (.ref a),some (.ref b),some (.int p),o,some (.int as[i])] (.cmp .ge (.me (.var 0) .index [(.var 5)]) (.var 3)) σ'' (.bool (decide ((p:Int)<=m))) σ'':=e_cmp (e_me rfl (kL hr rfl) rfl (indexL hr e1)) rfl (ge_ok _ _)
   refine ⟨.int as[i],_,next_list ha (iV_at hi'),rfl,?_⟩
   by_cases q:(p:Int)<=m
   ·exact .inr ⟨_,s_ifT (hc.trans (by exact gw (decide_eq_true q ..) rfl)) (after_end (s_ret rfl)),fun _=>rfl,_,rfl⟩
   ·refine .inl ⟨_,σ'',s_ifF (hc.trans (by exact gw (decide_eq_false q ..) rfl)) ss_nil,⟨_,rfl⟩,rfl,fun k hk=>?_⟩
    replace hk:=(take_at as hi' ..)▸hk
    refine (z5.mp hk).elim (no k) fun w=>?_
    refine gw (zg.mp w ..) ?_
    exact yr ((wg (xd fun z=>q (yw.mpr z))).trans hm))
  (iV as).length 0 [some (.ref r),some (.ref a),some (.ref b),some (.int p),o,.none] σ' (zo _) ⟨⟨_,rfl⟩,rfl,fun _ h=>absurd h z0⟩
 rcases h2 with ⟨ρ'',σ'',h',⟨o',rfl⟩,rfl,no⟩ | ⟨ρ'',h'⟩
 ·replace no:=(zu ..)▸(iV_len ..)▸no
  exact K ⟨_,f_ret (fn:=f17_place_in) rfl (s_assign (e_bi rfl hlr) rfl (s_forN hsr (after_next h (s_forN (src_of rfl ha) (after_next h' (s_ret rfl)))))),.inr ⟨p,rfl,hp,no,fun i k e hk=>hp2 i k (zc.mp e).1 e hk⟩⟩
 ·exact K ⟨_,f_ret (fn:=f17_place_in) rfl (s_assign (e_bi rfl hlr) rfl (s_forN hsr (after_next h (s_forN (src_of rfl ha) (after_end h'))))),.inl rfl⟩
end
end Mine.L13
namespace Mine.L13
open PySem Mine Mine.P
noncomputable def Pl.grow (P:Pl) (L k j₀ c:Nat):Pl where
 at_:=fun x=>match x with
  | .d j k'=>if k'=k/\j₀<=j/\j < j₀ + c then L + (j - j₀) else P.at_ (.d j k')
  | x=>P.at_ x
 ow:=fun i=>if i < L then P.ow i else .d (j₀ + (i - L)) k
noncomputable def Pl.growH (P:Pl) (L:Nat) (x:List Nat):Pl where
 at_:=fun c=>match c with
  | .h y=>if y=x then L else P.at_ (.h y)
  | c=>P.at_ c
 ow:=fun i=>if i < L then P.ow i else .h x
section
variable {G:Fz}{S S':St}{P P':Pl}{σ σ' σ₁:H}{c c₀:Cell}{o:O}{L k j₀ n:Nat}
theorem grow_off {j k':Nat} (h:k'≠k∨j < j₀∨j₀ + n<=j):(P.grow L k j₀ n).at_ (.d j k')=P.at_ (.d j k'):=if_neg fun q=>h.elim (fun w=>w q.1) fun w=>w.elim (yc.mpr q.2.1) (Nat.not_le.mpr q.2.2)
theorem grow_on {j:Nat} (h:j₀<=j) (h':j < j₀ + n):(P.grow L k j₀ n).at_ (.d j k)=L + (j - j₀):=if_pos ⟨rfl,h,h'⟩
theorem renB_eq (hb:∀ j,P'.at_ (.b j)=P.at_ (.b j)) (h0:∀ k,k < S.n->P'.at_ (.d 0 k)=P.at_ (.d 0 k)) (hh:∀ x,x∈S.names->P'.at_ (.h x)=P.at_ (.h x)) (j:Nat):renB S P' j=renB S P j:=by
 match j with
 | 0=>show O.dict (shE _ _ _)=_;rw [hb,hb,hb];rfl
 | 1=>exact congrArg O.dict (wq fun x q=>by exact gw (hh x q ..) rfl)
 | 2=>exact congrArg O.list (wq fun x q=>by exact gw (h0 x (vo.mp q) ..) rfl)
 | _ + 3=>rfl
theorem renD_eq {D:Dl}{j:Nat} (h:j=0->∀ i,1<=i->i < 5->P'.at_ (.d i k)=P.at_ (.d i k)):renD D P' k j=renD D P k j:=by
 match j with
 | 0=>show O.dict (dlE _ _ _ _ _)=_;refine gw (h rfl 1 (by decide) (by decide) ..) (gw (h rfl 2 (by decide) (by decide) ..) (gw (h rfl 3 (by decide) (by decide) ..) (gw (h rfl 4 (by decide) (by decide) ..) ?_)));rfl
 | 1=>rfl
 | 2=>rfl
 | 3=>rfl
 | _ + 4=>rfl
theorem Inv.grow (I:Inv G S P σ) (g:Gr σ σ₁) (l:live S c₀) (hne:∀ j,j₀<=j->j < j₀ + n->c₀≠.d j k)
  (hnew:∀ j,j₀<=j->j < j₀ + n->σ₁[σ.length + (j - j₀)]?=some (ren S' (P.grow σ.length k j₀ n) (.d j k)))
  (hold:∀ c,live S' c->(∀ j,j₀<=j->j < j₀ + n->c≠.d j k)->live S c/\(c≠c₀->ren S' (P.grow σ.length k j₀ n) c=ren S P c))
  (ho:o=ren S' (P.grow σ.length k j₀ n) c₀):Inv G S' (P.grow σ.length k j₀ n) (σ₁.set (P.at_ c₀) o):=by
 have off:∀ c,(∀ j,j₀<=j->j < j₀ + n->c≠.d j k)->(P.grow σ.length k j₀ n).at_ c=P.at_ c:=fun c h=>by
  cases c with
  | b j=>rfl
  | h x=>rfl
  | d j k'=>exact grow_off (by
    by_cases q:k'=k
    ·by_cases q1:j < j₀
     ·exact .inr (.inl q1)
     ·by_cases q2:j < j₀ + n
      ·exact absurd (by exact gw q rfl) (h j (yc.mp q1) q2)
      ·exact .inr (.inr (yc.mp q2))
    ·exact .inl q)
 refine I.step g l (off c₀ hne) (fun c lc=>?_) ho
 by_cases q:∀ j,j₀<=j->j < j₀ + n->c≠.d j k
 ·obtain ⟨l1,e⟩:=hold c lc q
  refine .inl ⟨l1,off c q,?_,e⟩
  show (if P.at_ c < σ.length then P.ow (P.at_ c) else _)=c
  refine gw (if_pos (I.lt l1) ..) ?_;exact (I.c c l1).2
 ·refine .inr ?_
  obtain ⟨j,q1,q2,q3⟩:∃ j,j₀<=j/\j < j₀ + n/\c=.d j k:=Classical.byContradiction fun w=>q fun j a b e=>w ⟨j,a,b,e⟩
  subst q3
  refine gw (grow_on q1 q2 ..) ?_
  refine ⟨zp _ _,hnew j q1 q2,?_⟩
  show (if σ.length + (j - j₀) < σ.length then _ else Cell.d (j₀ + (σ.length + (j - j₀) - σ.length)) k)=_
  refine gw (if_neg (yc.mpr (zp _ _)) ..) ?_
  exact gw (xk ..) (gw (Nat.add_sub_cancel' q1 ..) rfl)
theorem Inv.growH (I:Inv G S P σ) {x:List Nat} (g:Gr σ σ₁) (l:live S c₀) (hne:c₀≠.h x)
  (hnew:σ₁[σ.length]?=some (ren S' (P.growH σ.length x) (.h x)))
  (hold:∀ c,live S' c->c≠.h x->live S c/\(c≠c₀->ren S' (P.growH σ.length x) c=ren S P c))
  (ho:o=ren S' (P.growH σ.length x) c₀):Inv G S' (P.growH σ.length x) (σ₁.set (P.at_ c₀) o):=by
 have off:∀ c,c≠.h x->(P.growH σ.length x).at_ c=P.at_ c:=fun c h=>by
  cases c with
  | b j=>rfl
  | d j k=>rfl
  | h y=>exact if_neg fun e=>h (by exact gw e rfl)
 refine I.step g l (off c₀ hne) (fun c lc=>?_) ho
 by_cases q:c=.h x
 ·subst q
  refine .inr ?_
  have e:(P.growH σ.length x).at_ (.h x)=σ.length:=if_pos rfl
  refine gw e ?_
  exact ⟨ze _,hnew,if_neg (xj _)⟩
 ·obtain ⟨l1,e⟩:=hold c lc q
  refine .inl ⟨l1,off c q,?_,e⟩
  show (if P.at_ c < σ.length then P.ow (P.at_ c) else _)=c
  rw [if_pos (I.lt l1)];exact (I.c c l1).2
end
section
variable {ns:List Int}{C:Calls}{ρ:Env}{σ σ' σ₁ σ₂ σ₃ σ₄:H}{G:Fz}{S:St}{P:Pl}
theorem at_mid (a t:H) (o:O):(a++[o]++t)[a.length]?=some o:=(Gr.app _ t).at (at_new a o)
theorem set_mid (a t:H) (o o':O):(a++[o]++t).set a.length o'=a++[o']++t:=by
 rw [List.set_append_left _ _ (by rw [zd];exact yo _),set_new]
theorem setaM {c:Nat}{t:H}{kvs:Kv}{n:List Nat}{v:V} (h:fc (dput kvs n v).length 16=true):setaV (.inst c σ.length) n v (σ++[.dict kvs]++t)=.ok .none (σ++[.dict (dput kvs n v)]++t):=by
 exact gw (setaI (at_mid σ t _) (za (xu h) (by decide)) ..) (gw (set_mid ..) rfl)
theorem len_mid (σ t:H) (o:O):σ.length + 1 + t.length=(σ++[o]++t).length:=by refine gw (zd ..) (gw (zd ..) ?_);rfl
theorem newL_mid (t:H) (o:O):Ev ns C ρ (.list []) (σ++[o]++t) (.ref (σ.length + 1 + t.length)) (σ++[o]++(t++[.list []])):=by
 refine gw (len_mid σ t o ..) (bw (zk ..) ?_)
 exact e_list rfl (z7 _)
theorem newD_mid (t:H) (o:O):Ev ns C ρ .dict0 (σ++[o]++t) (.ref (σ.length + 1 + t.length)) (σ++[o]++(t++[.dict []])):=by
 refine gw (len_mid σ t o ..) (bw (zk ..) ?_)
 rfl
noncomputable def dl0 (r:Nat):Dl:=⟨r,0,0,[],[],[],[]⟩
theorem deal_init_ok (r:Nat):evF ns C f37_Dealing___init__ [.inst 0 σ.length,.int r] (σ++[.dict []])=.ok .none (σ++[.dict (dlE (dl0 r) (σ.length + 1) (σ.length + 2) (σ.length + 3) (σ.length + 4))]++[.list [],.list [],.dict [],.dict []]):=by
 have e:σ++[O.dict []]=σ++[O.dict []]++[]:=(yi _).symm
 refine gw e ?_
 exact f_next (fn:=f37_Dealing___init__) rfl (s_seta rfl rfl (setaM rfl) (s_seta rfl rfl (setaM rfl) (s_seta rfl rfl (setaM rfl) (s_seta (newL_mid _ _) rfl (setaM rfl) (s_seta (newL_mid _ _) rfl (setaM rfl) (s_seta (newD_mid _ _) rfl (setaM rfl) (s_seta (newD_mid _ _) rfl (setaM rfl) ss_nil)))))))
end
end Mine.L13
namespace Mine.L13
open PySem Mine Mine.P
noncomputable def St.beg (S:St):St:={ S.setD S.n (dl0 S.row.length) with n:=S.n + 1 }
noncomputable def Pl.Sim (P P':Pl):Prop:=P'.at_ (.b 0)=P.at_ (.b 0)
section
variable {ns:List Int}{C:Calls}{ρ:Env}{σ σ' σ₁:H}{G:Fz}{S:St}{P:Pl}
theorem at_more (a t:H) (o:O) (i:Nat):(a++[o]++t)[a.length + (i + 1)]?=t[i]?:=by
 rw [zw (by rw [zd];exact yl (vc 1 i) _)]
 congr 1
 refine gw (zd ..) ?_;exact zal _ _ _
noncomputable abbrev NewD (C:Calls):Prop:=∀ (r:Nat) (σ:H),C.new 0 [.int r] σ=.ok (.inst 0 σ.length) (σ++[.dict (dlE (dl0 r) (σ.length + 1) (σ.length + 2) (σ.length + 3) (σ.length + 4))]++[.list [],.list [],.dict [],.dict []])
theorem begin_ok (h0:NewD C) (I:Inv G S P σ) (hz:S.n<=1000):∃ P' σ',evF ns C f44_Shelf_begin [sh P] σ=.ok (.int S.n) σ'/\P.Sim P'/\Inv G S.beg P' σ':=by
 let P':=P.grow σ.length S.n 0 5
 let σ1:=σ++[O.dict (dlE (dl0 S.row.length) (σ.length + 1) (σ.length + 2) (σ.length + 3) (σ.length + 4))]++[O.list [],.list [],.dict [],.dict []]
 have g:Gr σ σ1:=(Gr.app σ _).tr (Gr.app _ _)
 let xs:List V:=(xf S.n).map fun k=>.inst 0 (P.at_ (.d 0 k))
 have I':Inv G S.beg P' (σ1.set (P.at_ (.b 2)) (.list (xs++[.inst 0 σ.length]))):=by
  refine I.grow (S':=S.beg) g (by show 2 < 4;decide) (fun j _ _=>by intro q;cases q) (fun j _ hj=>?_) (fun c lc hc=>?_) ?_
  ·show σ1[σ.length + (j - 0)]?=some (renD (if S.n=S.n then dl0 S.row.length else S.d S.n) P' S.n j)
   refine gw (if_pos rfl ..) (gw (jw ..) ?_)
   have hj:j < 5:=zo 5▸hj
   refine below (motive:=fun j=>σ1[σ.length + j]?=some (renD (dl0 S.row.length) P' S.n j)) hj ⟨⟨⟨⟨⟨trivial,?_⟩,at_more σ _ _ 0⟩,at_more σ _ _ 1⟩,at_more σ _ _ 2⟩,at_more σ _ _ 3⟩
   show σ1[σ.length]?=some (.dict (dlE _ (P'.at_ (.d 1 S.n)) (P'.at_ (.d 2 S.n)) (P'.at_ (.d 3 S.n)) (P'.at_ (.d 4 S.n))))
   refine gw (grow_on (by decide) (by decide) ..) (gw (grow_on (by decide) (by decide) ..) (gw (grow_on (by decide) (by decide) ..) (gw (grow_on (by decide) (by decide) ..) ?_)))
   exact at_mid σ _ _
  ·cases c with
   | b j=>exact ⟨lc,fun q=>(renB_ne (S:=S) (S':=S.beg) (q:=2) (fun e=>q (by exact gw e rfl)) lc (.inr rfl) (.inl rfl) (.inr rfl)).trans (renB_eq (S:=S) (P:=P) (P':=P') (fun _=>rfl) (fun k hk=>grow_off (.inl (yj hk))) (fun _ _=>rfl) j)⟩
   | h x=>exact ⟨lc,fun _=>rfl⟩
   | d j k =>
    obtain ⟨h1,h2⟩:=lc
    have h2:k < S.n + 1:=h2
    have this:k≠S.n:=fun q=>hc j (z7 _) (zo 5▸h1) (by exact gw q rfl)
    refine ⟨⟨h1,yy (z4 h2) this⟩,fun _=>?_⟩
    show renD (if k=S.n then dl0 S.row.length else S.d k) P' k j=renD (S.d k) P k j
    refine gw (if_neg this ..) ?_
    exact renD_eq (fun _ i _ _=>grow_off (.inl this))
  ·show O.list _=.list ((xf (S.n + 1)).map fun k=>V.inst 0 (P'.at_ (.d 0 k)))
   refine gw (List.range_succ ..) (gw (yg ..) ?_)
   congr 2
   ·exact wq fun k q=>by exact gw (grow_off (.inl (yj (vo.mp q))) ..) rfl
   ·show _=[V.inst 0 (P'.at_ (.d 0 S.n))]
    refine gw (grow_on (by decide) (by decide) ..) ?_;rfl
 refine ⟨P',_,f_ret (fn:=f44_Shelf_begin) rfl (s_expr (e_me (e_attr rfl (sh_deals I)) (kL (I.b 2 (by decide)) rfl) (es_one (e_new (es_one (e_bi (e_attr rfl (sh_row I)) (len_row I))) (h0 _ _))) (appL (xs:=xs) (g.at (I.b 2 (by decide))) ?_)) (s_ret (e_bin (e_bi (e_attr (x:=sh P) rfl (sh_deals (P:=P') I')) (len_deals (P:=P') I')) rfl ?_))),rfl,I'⟩
 ·show (zam _ _).length + 1<=lim
  refine gw (zb ..) (gw (vj ..) ?_);exact lm1 (za hz (by decide))
 ·show R.ok (V.int (((S.n + 1:Nat):Int) - 1)) _=_
  congr 2;exact v1 (S.n:Int) 1
end
end Mine.L13
namespace Mine.L13
open PySem Mine Mine.P
section
variable {ns:List Int}{C:Calls}{ρ:Env}{σ σ' σ₁ σ₂ σ₃ σ₄:H}{G:Fz}{S:St}{P:Pl}{k:Nat}
theorem var_ok {j:Nat}{v:V} (h:ρ[j]?=some (some v)):Ev ns C ρ (.var j) σ v σ:=by show (match ρ[j]? with | some (some v)=>M.ret v | _=>stuck) σ=_;refine gw h ?_;rfl
noncomputable abbrev NeedO (C:Calls):Prop:=∀ {G:Fz}{S:St}{P:Pl}{σ:H}{k:Nat},Inv G S P σ->k < S.n->((S.d k).st=0->C.call 40 [sh P,.int k] σ=.ok (dl P k) σ)/\((S.d k).st≠0->C.call 40 [sh P,.int k] σ=.exc 2 σ)
theorem opened (h31:NeedO C) (hm:C.mlook=mlookOf T0) (I:Inv G S P σ) (hk:k < S.n) (ho:(S.d k).st=0) (h0:ρ[0]?=some (some (sh P))) (h1:ρ[1]?=some (some (.int k))):Ev ns C ρ (.mcall (.var 0) [110,101,101,100,95,111,112,101,110] [(.var 1)]) σ (dl P k) σ :=
 e_mcall (var_ok h0) (look_ok hm (I.b 0 (by decide)) rfl rfl) (es_one (var_ok h1)) ((h31 I hk).1 ho)
theorem over (h31:NeedO C) (hm:C.mlook=mlookOf T0) (I:Inv G S P σ) (hk:k < S.n) (ho:(S.d k).st≠0) (h0:ρ[0]?=some (some (sh P))) (h1:ρ[1]?=some (some (.int k))):evE ns C ρ (.mcall (.var 0) [110,101,101,100,95,111,112,101,110] [(.var 1)]) σ=.exc 2 σ :=
 e_mcallX (var_ok h0) (look_ok hm (I.b 0 (by decide)) rfl rfl) (es_one (var_ok h1)) ((h31 I hk).2 ho)
theorem wV_snoc (ws:Ws) (n:List Nat) (t:Option Int):wV ws++[.tup [.str n,val t]]=wV (ws++[(n,t)]):=by unfold wV;refine gw (yg ..) ?_;rfl
theorem wV_len (ws:Ws):(wV ws).length=ws.length:=zb ..
theorem tup_ok {es:List E}{vs:List V} (h1:Evs ns C ρ es σ vs σ₁) (h:fc vs.length 16=true):Ev ns C ρ (.tup es) σ (.tup vs) σ₁:=e_tup h1 (za (xu h) (by decide))
theorem Inv.said (I:Inv G S P σ) (hk:k < S.n) (v:V):Inv G (S.setD k { S.d k with said:=(S.d k).said++[v] }) P (σ.set (P.at_ (.d 2 k)) (.list ((S.d k).said++[v]))) :=
 I.storeD (j:=2) ⟨(by decide:2 < 5),hk⟩ (fun i hi h5=>renD_ne (q:=2) hi h5 (.inr ⟨rfl,rfl,rfl⟩) (.inr rfl) (.inl rfl) (.inr rfl) (.inr rfl)) rfl
theorem and3 {e1 e2 e3:E}{p q r:Bool} (h1:Ev ns C ρ e1 σ (.bool p) σ) (h2:Ev ns C ρ e2 σ (.bool q) σ) (h3:Ev ns C ρ e3 σ (.bool r) σ):Ev ns C ρ (.and [e1,e2,e3]) σ (.bool (p && (q && r))) σ:=by
 cases p
 ·exact andF h1
 ·cases q
  ·exact andT h1 (andF h2)
  ·exact andT h1 (andT h2 (and1 h3))
theorem write_ok (hm:C.mlook=mlookOf T0) (h31:NeedO C) (h32:NeedN C) (h4:∀ {t σ},inR t->C.call 4 [val t] σ=.ok (.bool true) σ) (h8:Wrote C)
  (I:Inv G S P σ) (hh:∀ x,x∉S.names->S.hist x=[]) (hk:k < S.n) (hz:S.n<=1000) (hw:∀ j,j < S.n->(S.d j).ws.length<=1000) (hs:(S.d k).said.length<=1000) (ho:(S.d k).st=0) {n:List Nat} (hx:Nm n) {t:Option Int} (ht:inR t) :
  ∃ σ',(∃ e,evF ns C f47_Shelf_write [sh P,.int k,.str n,val t] σ=.exc e σ'/\Inv G S P σ')∨(evF ns C f47_Shelf_write [sh P,.int k,.str n,val t] σ=.ok .none σ'/\Inv G (S.setD k { S.d k with ws:=(S.d k).ws++[(n,t)],said:=(S.d k).said++[.tup [.str [119,114,105,116,101],.str n,val t]] }) P σ'):=by
 refine cps fun G' K=>?_
 obtain ⟨σ1,e32,g1⟩:=h32 (sh P) σ hx
 have I1:=I.gr g1
 have a1:∀ {R:RS}{b:List Mine.S},evSs ns C [some (sh P),some (.int k),some (.str n),some (val t),some (dl P k),.none,.none,.none,.none] σ1 (.forN 5 (.range (.bi .len (.attr (.var 0) [100,101,97,108,105,110,103,115]))) b::f47_Shelf_write.body.drop 4)=R ->
   evSs ns C [some (sh P),some (.int k),some (.str n),some (val t),.none,.none,.none,.none,.none] σ ([.assign 4 (.mcall (.var 0) [110,101,101,100,95,111,112,101,110] [(.var 1)]),.expr (.mcall (.var 0) [110,101,101,100,95,110,97,109,101] [(.var 2)]),.ite (.not (.call 4 [(.var 3)])) [.dead] []]++.forN 5 (.range (.bi .len (.attr (.var 0) [100,101,97,108,105,110,103,115]))) b::f47_Shelf_write.body.drop 4)=R:=fun h =>
  s_assign (opened h31 hm I hk ho rfl rfl) rfl (s_expr (e_mcall rfl (look_ok hm (I.b 0 (by decide)) rfl rfl) rfl e32) (s_ifF (e_not (e_call rfl (h4 ht)) rfl) h))
 have hsr:=src_range (ns:=ns) (C:=C) (ρ:=[some (sh P),some (.int k),some (.str n),some (val t),some (dl P k),.none,.none,.none,.none]) (σ:=σ1) (e:=.bi .len (.attr (.var 0) [100,101,97,108,105,110,103,115])) (k:=S.n) (e_bi (e_attr rfl (sh_deals I1)) (len_deals I1)) (nz _) (ns_ (za hz (by decide)))
 rw [xb] at hsr
 have q1:=for_or (tgt:=tgtN 5) (body:=fun ρ σ=>evSs ns C ρ σ [.assign 6 (.idx (.attr (.var 0) [100,101,97,108,105,110,103,115]) (.var 5)),
  .ite (.and [(.cmp .ne (.var 5) (.var 1)),(.cmp .eq (.attr (.var 6) [115,116,97,116,101]) (.lit (V.str [111,112,101,110]))),(.call 8 [(.var 6),(.var 2)])]) [.raise 6] []]) (it:=fun i=>.range i S.n)
  (fun i ρ σ'=>(∃ o o',ρ=[some (sh P),some (.int k),some (.str n),some (val t),some (dl P k),o,o',.none,.none])/\σ'=σ1) (fun R=>∃ ρ',R=.exc 6 ρ' σ1) S.n (fun _ _ _=>stop_range)
  (fun i ρ σ' hi p=>by
   obtain ⟨⟨o,o',rfl⟩,rfl⟩:=p
   have hc:∃ b,Ev ns C [some (sh P),some (.int k),some (.str n),some (val t),some (dl P k),some (.int i),some (dl P i),.none,.none] (.and [(.cmp .ne (.var 5) (.var 1)),(.cmp .eq (.attr (.var 6) [115,116,97,116,101]) (.lit (V.str [111,112,101,110]))),(.call 8 [(.var 6),(.var 2)])]) σ' (.bool b) σ' :=
    ⟨_,and3 (e_cmp rfl rfl (neI _ _)) (e_cmp (e_attr rfl (dl_state I1 hi)) rfl (eqS _ _)) (e_call rfl (h8 I1 hi (hw i hi) n))⟩
   obtain ⟨b,hc⟩:=hc
   refine ⟨.int i,_,next_range hi,rfl,?_⟩
   cases b with
   | true=>exact .inr ⟨_,s_assign (e_idx (e_attr rfl (sh_deals I1)) rfl (at_deals I1 hi)) rfl (s_ifT hc (after_exc s_raise)),fun _=>rfl,_,rfl⟩
   | false=>exact .inl ⟨_,_,s_assign (e_idx (e_attr rfl (sh_deals I1)) rfl (at_deals I1 hi)) rfl (s_ifF hc ss_nil),⟨_,_,rfl⟩,rfl⟩)
  S.n 0 [some (sh P),some (.int k),some (.str n),some (val t),some (dl P k),.none,.none,.none,.none] σ1 (zo _) ⟨⟨_,_,rfl⟩,rfl⟩
 rcases q1 with ⟨ρ',σ',h,⟨o,o',rfl⟩,rfl⟩ | ⟨ρ',h⟩
 ·obtain ⟨l,eg,hl⟩:=stock_get (ns:=ns) (C:=C) (ρ:=[some (sh P),some (.int k),some (.str n),some (val t),some (dl P k),o,o',.none,.none]) (i:=2) I1 hh rfl rfl
  have I2:=I1.gr (Gr.app σ' [.list []])
  have q2:=for_or (tgt:=tgtP 7 8) (body:=fun ρ σ=>evSs ns C ρ σ [.ite (.cmp .gt (.var 7) (.attr (.var 4) [115,116,97,114,116])) [.raise 7] []]) (it:=fun i=>.list l i)
   (fun i ρ σ''=>(∃ q q',ρ=[some (sh P),some (.int k),some (.str n),some (val t),some (dl P k),o,o',q,q'])/\σ''=σ'++[.list []]) (fun R=>∃ ρ',R=.exc 7 ρ' (σ'++[.list []])) (hV (S.hist n)).length (fun ρ σ p=>by obtain ⟨_,rfl⟩:=p;exact stop_list hl)
   (fun i ρ σ'' hi p=>by
    obtain ⟨⟨q,q',rfl⟩,rfl⟩:=p
    have hi':i < (S.hist n).length:=by rw [hV,zb] at hi;exact hi
    have hc:∃ b,Ev ns C [some (sh P),some (.int k),some (.str n),some (val t),some (dl P k),o,o',some (.int (S.hist n)[i].1),some (val (S.hist n)[i].2)] (.cmp .gt (.var 7) (.attr (.var 4) [115,116,97,114,116])) (σ'++[.list []]) (.bool b) (σ'++[.list []]) :=
     ⟨_,e_cmp rfl (e_attr rfl (dl_start I2 hk)) (gt_ok _ _)⟩
    obtain ⟨b,hc⟩:=hc
    refine ⟨_,_,next_list hl (hV_at hi'),rfl,?_⟩
    cases b with
    | true=>exact .inr ⟨_,s_ifT hc (after_exc s_raise),fun _=>rfl,_,rfl⟩
    | false=>exact .inl ⟨_,_,s_ifF hc ss_nil,⟨_,_,rfl⟩,rfl⟩)
   (hV (S.hist n)).length 0 [some (sh P),some (.int k),some (.str n),some (val t),some (dl P k),o,o',.none,.none] (σ'++[.list []]) (zo _) ⟨⟨_,_,rfl⟩,rfl⟩
  rcases q2 with ⟨ρ'',σ'',h',⟨q,q',rfl⟩,rfl⟩ | ⟨ρ'',h'⟩
  ·let D1:Dl:={ S.d k with ws:=(S.d k).ws++[(n,t)] }
   have I3:Inv G (S.setD k D1) P ((σ'++[O.list []]).set (P.at_ (.d 1 k)) (O.list (wV (S.d k).ws++[V.tup [.str n,val t]]))):=I2.storeD ⟨(by decide:1 < 5),hk⟩ (fun i hi h5=>renD_ne (q:=1) hi h5 (.inr ⟨rfl,rfl,rfl⟩) (.inl rfl) (.inr rfl) (.inr rfl) (.inr rfl)) (congrArg O.list (wV_snoc _ _ _))
   have eD:(S.setD k D1).d k=D1:=S.setD_at k D1
   have hk':k < (S.setD k D1).n:=hk
   have I4:=I3.said hk' (.tup [.str [119,114,105,116,101],.str n,val t])
   have hsd:=I3.d 2 (by decide) hk'
   rw [eD] at hsd I4
   rw [St.setD_setD] at I4
   refine K ⟨_,.inr ⟨f_next (fn:=f47_Shelf_write) rfl (a1 (s_forN hsr (after_next h (s_forP (src_of eg hl) (after_next h' (s_expr (e_me (e_attr rfl (dl_ws I2 hk)) (kL (I2.d 1 (by decide) hk) rfl) (es_one (tup_ok rfl rfl)) (appL (I2.d 1 (by decide) hk) ?_)) (s_expr (e_me (e_attr rfl (dl_said I3 hk')) (kL hsd rfl) (es_one (tup_ok rfl rfl)) (appL hsd ?_)) ss_nil))))))),I4⟩⟩
   ·show (wV _).length + 1<=lim
    rw [wV_len];exact lm1 (za (hw k hk) (by decide))
   ·exact lm1 (za hs (by decide))
  ·exact K ⟨_,.inl ⟨7,f_exc (fn:=f47_Shelf_write) rfl (a1 (s_forN hsr (after_next h (s_forP (src_of eg hl) (after_exc h'))))),I2⟩⟩
 ·exact K ⟨_,.inl ⟨6,f_exc (fn:=f47_Shelf_write) rfl (a1 (s_forN hsr (after_exc h))),I1⟩⟩
theorem write_over (hm:C.mlook=mlookOf T0) (h31:NeedO C) (I:Inv G S P σ) (hk:k < S.n) (ho:(S.d k).st≠0) {n v:V}:evF ns C f47_Shelf_write [sh P,.int k,n,v] σ=.exc 2 σ :=
 f_exc (fn:=f47_Shelf_write) rfl (s_assignX (over h31 hm I hk ho rfl rfl))
end
end Mine.L13
namespace Mine.L13
open PySem Mine Mine.P
theorem St.setD_same (S:St) (k:Nat):S.setD k (S.d k)=S:=by
 unfold St.setD
 have:(fun j=>if j=k then S.d k else S.d j)=S.d:=funext fun j=>by
  by_cases h:j=k
  ·exact gw (if_pos h ..) (gw h rfl)
  ·exact gw (if_neg h ..) rfl
 exact gw (this ..) rfl
noncomputable def addN (l:List (List Nat)) (n:List Nat):List (List Nat):=if n∈l then l else l++[n]
theorem addN_len (l:List (List Nat)) (n:List Nat):(addN l n).length<=l.length + 1:=by
 unfold addN
 split
 ·exact yh _
 ·refine gw (zd ..) ?_;exact ze _
theorem dput_tV (n:List Nat):∀ l:List (List Nat),dput (tV l) n (.bool true)=tV (addN l n):=by
 intro l
 induction l with
 | nil =>
  exact rfl
 | cons a l ih =>
  show (if a=n then (a,V.bool true)::tV l else (a,V.bool true)::dput (tV l) n (.bool true))=_
  refine gw ih ?_
  unfold addN
  by_cases h:a=n
  ·refine gw (if_pos h ..) (gw (if_pos (h▸zh) ..) ?_);rfl
  ·refine gw (if_neg h ..) ?_
   by_cases h':n∈l
   ·refine gw (if_pos h' ..) (gw (if_pos (zj _ h') ..) ?_);rfl
   ·refine gw (if_neg h' ..) (gw (if_neg (fun q=>(zy.mp q).elim (fun e=>h e.symm) h')) ?_);rfl
noncomputable def lw (ws:Ws) (n:List Nat):Option (Option Int):=ws.foldl (fun a q=>if q.1=n then some q.2 else a) .none
theorem look_lw (n:List Nat) (ws:Ws):look .none ws n=(lw ws n).map val:=by
 have:∀ (ws:Ws) (o:Option (Option Int)),look (o.map val) ws n=(ws.foldl (fun a q=>if q.1=n then some q.2 else a) o).map val:=by
  intro ws
  induction ws with
  | nil=>intro o;rfl
  | cons p ws ih =>
   intro o
   show look (if p.1=n then some (val p.2) else o.map val) ws n=(ws.foldl _ (if p.1=n then some p.2 else o)).map val
   rw [← ih]
   congr 1
   split <;> rfl
 exact this ws .none
theorem val_inj {s t:Option Int} (h:val s=val t):s=t:=by
 cases s with
 | none=>cases t with
  | none=>rfl
  | some j=>cases h
 | some i=>cases t with
  | none=>cases h
  | some j=>cases h;rfl
theorem map_val {o:Option (Option Int)}{t:Option Int} (h:o.map val=some (val t)):o=some t:=by
 cases o with
 | none=>cases h
 | some s=>exact congrArg some (val_inj (Option.some.inj h))
theorem lw_wrote (ws:Ws) (n:List Nat):(lw ws n).isSome=wrote ws n:=by unfold wrote;refine gw (look_lw ..) ?_;cases lw ws n <;> rfl
noncomputable def amv (l:List (Nat×Option Int)) (m:Nat):Option Int:=l.foldl (fun a p=>if p.1<=m then p.2 else a) .none
theorem amv_snoc (l:List (Nat×Option Int)) (p:Nat×Option Int) (m:Nat):amv (l++[p]) m=if p.1<=m then p.2 else amv l m:=by unfold amv;refine gw (wy ..) ?_;rfl
noncomputable def sb (ws:Ws) (f:List Nat->Option Int) (n:List Nat):Option Int:=(lw ws n).getD (f n)
noncomputable def St.base (S:St) (k:Nat) (n:List Nat):Option Int:=amv (S.hist n) (S.d k).start
section
variable {ns:List Int}{C:Calls}{ρ:Env}{σ σ' σ₁ σ₂ σ₃ σ₄:H}{G:Fz}{S:St}{P:Pl}{k c:Nat}
theorem len_one {α:Type} (l:List α) (a:α):(l++[a]).length=l.length + 1:=by refine gw (zd ..) ?_;rfl
theorem listL {l:Nat}{xs:List V} (hl:σ[l]?=some (.list xs)) (h:xs.length<=1000):biV ns .list (.ref l) σ=.ok (.ref σ.length) (σ++[.list xs]):=by
 have e:itemsV σ (.ref l)=some xs:=by unfold itemsV;dsimp only;exact gw hl rfl
 show (pick (itemsV σ (.ref l))).bnd newL σ=_
 rw [e]
 exact newL_ok (lm h)
theorem moment_at_ok (I:Inv G S P σ) (hh:∀ x,x∉S.names->S.hist x=[]) {n:List Nat}{m:Nat}:∃ σ',evF ns C f42_Shelf_at_moment [sh P,.str n,.int m] σ=.ok (val (amv (S.hist n) m)) σ'/\Gr σ σ':=by
 obtain ⟨l,e,hl⟩:=stock_get (ns:=ns) (C:=C) (ρ:=[some (sh P),some (.str n),some (.int m),some .none,.none,.none]) (i:=1) I hh rfl rfl
 obtain ⟨ρ',σ',h,⟨o,o',rfl⟩,rfl⟩:=for_all (tgt:=tgtP 4 5) (body:=fun ρ σ=>evSs ns C ρ σ [.ite (.cmp .le (.var 4) (.var 2)) [.assign 3 (.var 5)] []]) (it:=fun i=>.list l i)
  (fun i ρ σ'=>(∃ o o',ρ=[some (sh P),some (.str n),some (.int m),some (val (amv ((S.hist n).take i) m)),o,o'])/\σ'=σ++[.list []]) (hV (S.hist n)).length (fun ρ σ p=>by obtain ⟨_,rfl⟩:=p;exact stop_list hl)
  (fun i ρ σ' hi p=>by
   obtain ⟨⟨o,o',rfl⟩,rfl⟩:=p
   have hi':i < (S.hist n).length:=by rw [hV,zb] at hi;exact hi
   have es:=amv_snoc ((S.hist n).take i) (S.hist n)[i] m
   replace es:=(take_at _ hi' ..)▸es
   by_cases q:(S.hist n)[i].1<=m
   ·replace es:=(if_pos q ..)▸es
    exact ⟨_,_,_,_,next_list hl (hV_at hi'),rfl,s_ifT (e_cmp rfl rfl (le_t (yw.mpr q))) (after_next (s_assign rfl rfl ss_nil) ss_nil),⟨_,_,by refine gw es ?_;rfl⟩,rfl⟩
   ·replace es:=(if_neg q ..)▸es
    exact ⟨_,_,_,_,next_list hl (hV_at hi'),rfl,s_ifF (e_cmp rfl rfl (le_f fun z=>q (yw.mp z))) ss_nil,⟨_,_,by refine gw es ?_;rfl⟩,rfl⟩)
  (hV (S.hist n)).length 0 [some (sh P),some (.str n),some (.int m),some .none,.none,.none] (σ++[.list []]) (zo _) ⟨⟨_,_,rfl⟩,rfl⟩
 rw [show (S.hist n).take (hV (S.hist n)).length=S.hist n by rw [show (hV (S.hist n)).length=(S.hist n).length from zb ..,zu]] at h
 exact ⟨_,f_ret (fn:=f42_Shelf_at_moment) rfl (s_assign rfl rfl (s_forP (src_of e hl) (after_next h (s_ret rfl)))),Gr.app _ _⟩
noncomputable abbrev AtM (C:Calls):Prop:=∀ {G:Fz}{S:St}{P:Pl}{σ:H},Inv G S P σ->(∀ x,x∉S.names->S.hist x=[])->∀ {n:List Nat}{m:Nat},∃ σ',C.call 42 [sh P,.str n,.int m] σ=.ok (val (amv (S.hist n) m)) σ'/\Gr σ σ'
theorem seen_by_ok (hm:C.mlook=mlookOf T0) (h6:LastPl C) (h33:AtM C) (I:Inv G S P σ) (hh:∀ x,x∉S.names->S.hist x=[]) (hk:k < S.n) (hz:(S.d k).ws.length<=1000) (n:List Nat):∃ σ',evF ns C f43_Shelf_seen_by [sh P,dl P k,.str n] σ=.ok (val (sb (S.d k).ws (S.base k) n)) σ'/\Gr σ σ':=by
 obtain ⟨p,hp',q⟩:=h6 (I.d 1 (by decide) hk) hz n
 have ha:Ev ns C [some (sh P),some (dl P k),some (.str n),.none] (.call 6 [(.attr (.var 1) [119,114,105,116,116,101,110]),(.var 2)]) σ (.int p) σ:=e_call (es_two (e_attr rfl (dl_ws I hk)) rfl) hp'
 unfold LP at q
 replace q:=(look_lw ..)▸(zu ..)▸q
 unfold sb
 rcases q with ⟨rfl,q⟩ | ⟨j,t,rfl,q,q'⟩
 ·obtain ⟨σ2,e2,g2⟩:=h33 I hh (n:=n) (m:=(S.d k).start)
  refine gw (show lw (S.d k).ws n=.none from f7.mp q) ?_
  exact ⟨σ2,f_ret (fn:=f43_Shelf_seen_by) rfl (s_assign ha rfl (s_ifF (e_cmp rfl rfl ((ge_ok _ _).trans rfl)) (s_ret (e_mcall rfl (look_ok hm (I.b 0 (by decide)) rfl rfl) (es_two rfl (e_attr rfl (dl_start I hk))) e2)))),g2⟩
 ·obtain ⟨hj,ej⟩:=zc.mp q
  have e1:(wV (S.d k).ws)[j]?=some (.tup [.str n,val t]):=by exact gw (wV_at hj ..) (gw ej rfl)
  refine gw (map_val q' ..) ?_
  exact ⟨σ,f_ret (fn:=f43_Shelf_seen_by) rfl (s_assign ha rfl (s_ifT (e_cmp rfl rfl ((ge_ok _ _).trans (by exact gw (decide_eq_true (z8 j) ..) rfl))) (after_end (s_ret (e_idx (e_idx (e_attr rfl (dl_ws I hk)) rfl (idxL (I.d 1 (by decide) hk) (z8 j) e1)) rfl rfl))))),Gr.rfl⟩
noncomputable abbrev SeenBy (C:Calls):Prop:=∀ {G:Fz}{S:St}{P:Pl}{σ:H}{k:Nat},Inv G S P σ->(∀ x,x∉S.names->S.hist x=[])->k < S.n->(S.d k).ws.length<=1000->∀ n,∃ σ',C.call 43 [sh P,dl P k,.str n] σ=.ok (val (sb (S.d k).ws (S.base k) n)) σ'/\Gr σ σ'
theorem read_over (hm:C.mlook=mlookOf T0) (h31:NeedO C) (I:Inv G S P σ) (hk:k < S.n) (ho:(S.d k).st≠0) {n:V}:evF ns C f45_Shelf_read [sh P,.int k,n] σ=.exc 2 σ :=
 f_exc (fn:=f45_Shelf_read) rfl (s_assignX (over h31 hm I hk ho rfl rfl))
noncomputable def Dl.rd (D:Dl) (n:List Nat) (v:V):Dl:={ D with seen:=if wrote D.ws n then D.seen else addN D.seen n,said:=D.said++[v] }
theorem read_ok (hm:C.mlook=mlookOf T0) (h31:NeedO C) (h32:NeedN C) (h34:SeenBy C) (h8:Wrote C) (I:Inv G S P σ) (hh:∀ x,x∉S.names->S.hist x=[]) (hk:k < S.n) (ho:(S.d k).st=0) (hz:(S.d k).ws.length<=1000) (hs:(S.d k).said.length<=1000) (hsn:(S.d k).seen.length<=1000) {n:List Nat} (hx:Nm n) :
  ∃ σ',evF ns C f45_Shelf_read [sh P,.int k,.str n] σ=.ok (val (sb (S.d k).ws (S.base k) n)) σ'/\Inv G (S.setD k ((S.d k).rd n (.tup [.str [114,101,97,100],.str n,val (sb (S.d k).ws (S.base k) n)]))) P σ':=by
 refine cps fun G' K=>?_
 obtain ⟨σ1,e1,g1⟩:=h32 (sh P) σ hx
 have I1:=I.gr g1
 obtain ⟨σ2,e2,g2⟩:=h34 I1 hh hk hz n
 have I2:=I1.gr g2
 have e8:=h8 I2 hk hz n
 generalize ht:sb (S.d k).ws (S.base k) n=t at e2 K
 obtain ⟨σ3,s3,I3⟩:∃ σ3,evSs ns C [some (sh P),some (.int k),some (.str n),some (dl P k),some (val t)] σ2 (if !wrote (S.d k).ws n then [.setitem (.attr (.var 3) [115,101,101,110]) (.var 2) (.lit (V.bool true))] else [])=.ok .next [some (sh P),some (.int k),some (.str n),some (dl P k),some (val t)] σ3/\Inv G (S.setD k { S.d k with seen:=if wrote (S.d k).ws n then (S.d k).seen else addN (S.d k).seen n }) P σ3:=by
  cases wrote (S.d k).ws n with
  | true =>
   refine ⟨σ2,ss_nil,?_⟩
   have:S.setD k { S.d k with seen:=(S.d k).seen }=S:=St.setD_same S k
   show Inv G (S.setD k { S.d k with seen:=(S.d k).seen }) P σ2
   refine gw (this ..) ?_;exact I2
  | false =>
   have hl:=dput_len n (.bool true) (tV (S.d k).seen)
   have hl':(tV (S.d k).seen).length=(S.d k).seen.length:=by unfold tV;exact gw (zb ..) rfl
   exact ⟨_,s_set rfl (e_attr rfl (dl_seen I2 hk)) rfl (setD (v:=.bool true) (x:=n) (I2.d 3 (by decide) hk) (lmx hl (hl'▸za hsn (by decide)))) ss_nil,
    I2.storeD (j:=3) (k:=k) (D:={ S.d k with seen:=addN (S.d k).seen n }) (o:=.dict (dput (tV (S.d k).seen) n (.bool true))) ⟨(by decide:3 < 5),hk⟩ (fun i hi h5=>renD_ne (q:=3) hi h5 (.inr ⟨rfl,rfl,rfl⟩) (.inr rfl) (.inr rfl) (.inl rfl) (.inr rfl)) (congrArg O.dict (dput_tV n _))⟩
 generalize hsq:(if wrote (S.d k).ws n then (S.d k).seen else addN (S.d k).seen n)=sn at I3
 have eD:(S.setD k { S.d k with seen:=sn }).d k={ S.d k with seen:=sn }:=S.setD_at k _
 have hk':k < (S.setD k { S.d k with seen:=sn }).n:=hk
 have hsd:=I3.d 2 (by decide) hk'
 have I4:=I3.said hk' (.tup [.str [114,101,97,100],.str n,val t])
 rw [eD] at hsd I4
 replace I4:=(St.setD_setD ..)▸I4
 refine K ⟨_,f_ret (fn:=f45_Shelf_read) rfl (s_assign (opened h31 hm I hk ho rfl rfl) rfl (s_expr (e_mcall rfl (look_ok hm (I.b 0 (by decide)) rfl rfl) rfl e1) (s_assign (e_mcall rfl (look_ok hm (I1.b 0 (by decide)) rfl rfl) rfl e2) rfl (s_if (e_not (e_call rfl e8) rfl) (after_next s3 (s_expr (e_me (e_attr rfl (dl_said I3 hk')) (kL hsd rfl) (es_one (tup_ok rfl rfl)) (appL hsd (lm1 (n:=(S.d k).said.length) (za hs (by decide))))) (s_ret rfl))))))),?_⟩
 unfold Dl.rd
 refine gw hsq ?_
 exact I4
end
end Mine.L13
namespace Mine.L13
open PySem Mine Mine.P
theorem mem_addN {l:List (List Nat)}{n y:List Nat}:y∈addN l n↔y∈l∨y=n:=by
 unfold addN
 split
 ·rename_i h
  exact ⟨.inl,fun q=>q.elim id fun e=>e▸h⟩
 ·rw [z5,zg]
noncomputable def addNs (l xs:List (List Nat)):List (List Nat):=xs.foldl addN l
theorem mem_addNs {y:List Nat}:∀ {xs l:List (List Nat)},y∈addNs l xs↔y∈l∨y∈xs:=by
 intro xs
 induction xs with
 | nil=>intro l;exact ⟨.inl,fun q=>q.elim id fun q=>absurd q z0⟩
 | cons a xs ih =>
  intro l
  show y∈addNs (addN l a) xs↔_
  rw [ih,mem_addN,zy,or_assoc]
theorem addNs_len:∀ (xs l:List (List Nat)),(addNs l xs).length<=l.length + xs.length:=by
 intro xs
 induction xs with
 | nil =>
  intro _
  exact ze _
 | cons a xs ih =>
  intro l
  exact za (ih (addN l a)) (za (yz (addN_len l a) _) (ya (xq _ _)))
theorem dput_absent {k:List Nat}{v:V}:∀ {d:Kv},k∉keysOf d->dput d k v=d++[(k,v)]:=by
 intro d
 induction d with
 | nil =>
  intro _
  exact rfl
 | cons p_ r ih =>
  obtain ⟨a,x⟩:=p_
  intro h
  show (if a=k then _ else (a,x)::dput r k v)=_
  refine gw (if_neg (fun (e:a=k)=>h (by refine gw e ?_;exact zh))) (gw (ih fun q=>h (zj _ q)) ?_);rfl
section
variable {ns:List Int}{C:Calls}{ρ:Env}{σ σ' σ₁ σ₂ σ₃ σ₄:H}{G:Fz}{S S':St}{P P':Pl}{c k:Nat}
theorem Inv.un (I:Inv G S P σ) (I':Inv (Mine.L13.mx S P σ) S' P' σ'):Inv G S' P' σ':=⟨I'.c,fun i o e=>I'.kept (fun c l=>(I.fz i o e).2 c l) (I.fz i o e).1⟩
theorem keys_names (f:List Nat->V) (l:List (List Nat)):keysOf (l.map fun x=>(x,f x))=l:=by unfold keysOf;refine gw (ug ..) ?_;exact List.map_id l
theorem setdefL {l:Nat}{kvs:Kv}{x:List Nat}{u v:V} (hl:σ[l]?=some (.dict kvs)) (h:dget kvs x=some u):meV (.ref l) .setdefault [.str x,v] σ=.ok u σ:=by
 unfold meV;dsimp only;refine gw hl ?_
 show (match dget kvs x with | some u=>M.ret u | .none=>(putD l (dput kvs x v)).bnd fun _=>M.ret v) σ=_
 refine gw h ?_;rfl
theorem setdefN {l:Nat}{kvs:Kv}{x:List Nat}{v:V} (hl:σ[l]?=some (.dict kvs)) (h:dget kvs x=.none) (hz:(dput kvs x v).length<=lim):meV (.ref l) .setdefault [.str x,v] σ=.ok v (σ.set l (.dict (dput kvs x v))):=by
 unfold meV;dsimp only;refine gw hl ?_
 show (match dget kvs x with | some u=>M.ret u | .none=>(putD l (dput kvs x v)).bnd fun _=>M.ret v) σ=_
 refine gw h ?_
 unfold putD
 refine gw (if_pos hz ..) ?_;rfl
noncomputable def Pl.Eqd (P P':Pl):Prop:=(∀ j,P'.at_ (.b j)=P.at_ (.b j))/\∀ j k,P'.at_ (.d j k)=P.at_ (.d j k)
theorem setdef_ok (I:Inv G S P σ) (hh:∀ y,y∉S.names->S.hist y=[]) {x:List Nat} (hz:S.names.length<=10000) {i:Nat} (h0:ρ[0]?=some (some (sh P))) (hi:ρ[i]?=some (some (.str x))) :
  ∃ P' σ',Ev ns C ρ (.me (.attr (.var 0) [115,116,111,99,107]) .setdefault [(.var i),(.list [])]) σ (.ref (P'.at_ (.h x))) σ'/\Inv G { S with names:=addN S.names x } P' σ'/\P.Eqd P':=by
 have I':=I.gr (Gr.app σ [.list []])
 unfold addN
 by_cases h:x∈S.names
 ·refine gw (if_pos h ..) ?_
  exact ⟨P,σ++[.list []],e_me (e_attr (var_ok h0) (sh_stock I)) (kD (I.b 1 (by decide)) rfl) (es_two (var_ok hi) (e_list rfl (z7 _))) (setdefL (I'.b 1 (by decide)) (by rw [dget_map fun x=>V.ref (P.at_ (.h x)),if_pos h])),I',fun _=>rfl,fun _ _=>rfl⟩
 ·refine gw (if_neg h ..) ?_
  have ed:dput (S.names.map fun x=>(x,V.ref (P.at_ (.h x)))) x (.ref σ.length)=(S.names.map fun x=>(x,V.ref (P.at_ (.h x))))++[(x,.ref σ.length)]:=dput_absent (by rw [keys_names fun x=>V.ref (P.at_ (.h x))];exact h)
  have hne:∀ y,y∈S.names->(P.growH σ.length x).at_ (.h y)=P.at_ (.h y):=fun y hy=>if_neg fun (e:y=x)=>h (by refine bw e ?_;exact hy)
  have I2:Inv G { S with names:=S.names++[x] } (P.growH σ.length x) ((σ++[O.list []]).set (P.at_ (.b 1)) (O.dict ((S.names.map fun x=>(x,V.ref (P.at_ (.h x))))++[(x,.ref σ.length)]))):=by
   refine I.growH (S':={ S with names:=S.names++[x] }) (Gr.app σ _) (by show 1 < 4;decide) (by intro q;cases q) ?_ (fun c lc hc=>?_) ?_
   ·show _=some (O.list (hV (S.hist x)))
    refine gw (hh x h ..) ?_;exact at_new σ _
   ·cases c with
    | b j=>exact ⟨lc,fun q=>(renB_ne (S:=S) (S':={ S with names:=S.names++[x] }) (q:=1) (fun e=>q (by exact gw e rfl)) lc (.inl rfl) (.inr rfl) (.inr rfl)).trans (renB_eq (S:=S) (P:=P) (P':=P.growH σ.length x) (fun _=>rfl) (fun _ _=>rfl) hne j)⟩
    | h y =>
     refine ⟨(z5.mp lc).elim id fun q=>absurd (congrArg Cell.h (zg.mp q)) hc,fun _=>rfl⟩
    | d j k=>exact ⟨lc,fun _=>renD_eq (fun _ _ _ _=>rfl)⟩
   ·show O.dict _=O.dict ((S.names++[x]).map fun y=>(y,V.ref ((P.growH σ.length x).at_ (.h y))))
    refine gw (yg ..) ?_
    congr 2
    ·exact wq fun y hy=>by exact gw (hne y hy ..) rfl
    ·show _=[(x,V.ref ((P.growH σ.length x).at_ (.h x)))]
     exact gw (show (P.growH σ.length x).at_ (.h x)=σ.length from if_pos rfl) rfl
  refine ⟨_,_,?_,I2,fun _=>rfl,fun _ _=>rfl⟩
  refine gw (show (P.growH σ.length x).at_ (.h x)=σ.length from if_pos rfl) (bw ed ?_)
  refine e_me (e_attr (var_ok h0) (sh_stock I)) (kD (I.b 1 (by decide)) rfl) (es_two (var_ok hi) (e_list rfl (z7 _))) (setdefN (I'.b 1 (by decide)) (by rw [dget_map fun x=>V.ref (P.at_ (.h x)),if_neg h]) ?_)
  rw [ed,zd,zb];exact lm1 hz
noncomputable def hmore (S:St) (k:Nat) (g:List Nat->Option Int) (ks:List (List Nat)) (x:List Nat):List (Nat×Option Int):=if x∈ks then S.hist x++[((S.d k).kat,g x)] else S.hist x
theorem stock_loop (I:Inv G S P σ) (hh:∀ y,y∉S.names->S.hist y=[]) (hk:k < S.n) {lk vL:Nat}{ks:List (List Nat)}{d:Kv}{g:List Nat->Option Int} (hl:G lk=some (.list (ks.map V.str))) (hv:G vL=some (.dict d)) (hnd:ks.Nodup) (hg:∀ x∈ks,dget d x=some (val (g x)))
  (hz:S.names.length + ks.length<=10000) (hs:∀ x,(S.hist x).length<=1000) {r4 r5 r6 r7 r8:Option V} :
  ∃ σ' P' o,forLoop (tgtN 10) (fun ρ σ=>evSs ns C ρ σ [.expr (.me (.me (.attr (.var 0) [115,116,111,99,107]) .setdefault [(.var 10),(.list [])]) .append [(.tup [(.attr (.var 2) [107,101,112,116,95,97,116]),(.idx (.var 9) (.var 10))])])]) (ks.map V.str).length (.list lk 0) [some (sh P),some (.int k),some (dl P k),some (.ref lk),r4,r5,r6,r7,r8,some (.ref vL),.none] σ =
   .ok .next [some (sh P),some (.int k),some (dl P k),some (.ref lk),r4,r5,r6,r7,r8,some (.ref vL),o] σ'/\Inv G { S with names:=addNs S.names ks,hist:=hmore S k g ks } P' σ'/\P.Eqd P':=by
 refine cps fun G' K=>?_
 obtain ⟨ρ',σ',hF,P',o,rfl,I',e'⟩:=for_all (tgt:=tgtN 10) (body:=fun ρ σ=>evSs ns C ρ σ [.expr (.me (.me (.attr (.var 0) [115,116,111,99,107]) .setdefault [(.var 10),(.list [])]) .append [(.tup [(.attr (.var 2) [107,101,112,116,95,97,116]),(.idx (.var 9) (.var 10))])])]) (it:=fun i=>.list lk i)
  (fun i ρ' σ'=>∃ P' o,ρ'=[some (sh P),some (.int k),some (dl P k),some (.ref lk),r4,r5,r6,r7,r8,some (.ref vL),o]/\Inv G { S with names:=addNs S.names (ks.take i),hist:=hmore S k g (ks.take i) } P' σ'/\P.Eqd P')
  (ks.map V.str).length (fun ρ σ p=>by obtain ⟨_,_,_,I,_⟩:=p;exact stop_list (I.fz lk _ hl).1)
  (fun i ρ' σ' hi p=>by
   refine cps fun G' K=>?_
   refine ex2 (p) fun P' o q_h=>?_;refine an4 q_h fun q_2 I' hb hd=>?_;obtain rfl:=q_2
   have hi':i < ks.length:=by replace hi:=(zb ..)▸hi;exact hi
   have hxs:ks[i]∉ks.take i:=fun q=>by
    replace hnd:=(y8 hi' ..)▸(z6 i ks ..)▸hnd
    exact (vk.mp hnd).2.2 _ q _ zh rfl
   have shP:sh P'=sh P:=congrArg (V.inst 1) (hb 0)
   have hh':∀ y,y∉addNs S.names (ks.take i)->hmore S k g (ks.take i) y=[]:=fun y hy=>by
    unfold hmore
    rw [mem_addNs] at hy
    refine gw (if_neg fun q=>hy (.inr q)) ?_
    exact hh y fun q=>hy (.inl q)
   refine ex2 (setdef_ok (ns:=ns) (C:=C) (ρ:=[some (sh P),some (.int k),some (dl P k),some (.ref lk),r4,r5,r6,r7,r8,some (.ref vL),some (.str ks[i])]) (x:=ks[i]) (i:=10) I' hh' (za (addNs_len (ks.take i) S.names) (za (yl (yv _ _) _) hz)) (by refine gw shP ?_;rfl) rfl) fun P2 σ2 q_h=>?_;refine an4 q_h fun ev I2 hb2 hd2=>?_
   have hx2:ks[i]∈addN (addNs S.names (ks.take i)) ks[i]:=mem_addN.mpr (.inr rfl)
   have hp:=I2.h (x:=ks[i]) hx2
   have at1:=dl_at I2 (show k < S.n from hk)
   replace at1:=(show dl P2 k=dl P k from congrArg (V.inst 0) ((hd2 0 k).trans (hd 0 k)))▸at1
   have eh:hmore S k g (ks.take i) ks[i]=S.hist ks[i]:=if_neg hxs
   have en:addN (addNs S.names (ks.take i)) ks[i]=addNs S.names (ks.take (i + 1)):=by
    refine gw (take_at ks hi' ..) ?_;unfold addNs;refine gw (wy ..) ?_;rfl
   have I3:Inv G { S with names:=addNs S.names (ks.take (i + 1)),hist:=hmore S k g (ks.take (i + 1)) } P2 (σ2.set (P2.at_ (.h ks[i])) (.list (hV (S.hist ks[i])++[.tup [.int (S.d k).kat,val (g ks[i])]]))):=by
    refine bw en ?_
    refine I2.store (S':={ S with names:=addN (addNs S.names (ks.take i)) ks[i],hist:=hmore S k g (ks.take (i + 1)) }) (c₀:=.h ks[i]) hx2 (fun c l=>by cases c <;> exact l) (fun c q _=>?_) ?_
    ·cases c with
     | b j=>rfl
     | d j k'=>rfl
     | h y =>
      refine congrArg (fun l=>O.list (hV l)) ?_
      show hmore S k g (ks.take (i + 1)) y=hmore S k g (ks.take i) y
      unfold hmore
      have:y∈ks.take (i + 1)↔y∈ks.take i:=by
       refine gw (take_at ks hi' ..) (iw (z5 ..) (iw (zg ..) ?_))
       exact ⟨fun w=>w.resolve_right fun e=>q (by exact gw e rfl),.inl⟩
      by_cases w:y∈ks.take i
      ·exact gw (if_pos w ..) (gw (if_pos (this.mpr w) ..) rfl)
      ·exact gw (if_neg w ..) (gw (if_neg fun z=>w (this.mp z)) rfl)
    ·show O.list _=O.list (hV (hmore S k g (ks.take (i + 1)) ks[i]))
     unfold hmore
     refine gw (if_pos (by refine gw (take_at ks hi' ..) ?_;exact yp _ (zg.mpr rfl)) ..) ?_
     unfold hV;refine gw (yg ..) ?_;rfl
   have hp:σ2[P2.at_ (.h ks[i])]?=some (.list (hV (S.hist ks[i]))):=by refine bw eh ?_;exact hp
   have hln':=hs ks[i]
   refine K ⟨.str ks[i],_,_,_,next_list (I'.fz lk _ hl).1 (by refine gw (zv ..) (gw (zf hi' ..) ?_);rfl),rfl,s_expr (e_me ev (kL hp rfl) (es_one (tup_ok (es_two (e_attr rfl at1) (e_idx rfl rfl (idxD (I2.fz vL _ hv).1 (hg ks[i] (ye hi'))))) rfl)) (appL hp ?_)) ss_nil,P2,some (.str ks[i]),rfl,I3,fun j=>(hb2 j).trans (hb j),fun j k=>(hd2 j k).trans (hd j k)⟩
   unfold hV;refine gw (zb ..) ?_;exact lm1 (za hln' (by decide)))
  (ks.map V.str).length 0 [some (sh P),some (.int k),some (dl P k),some (.ref lk),r4,r5,r6,r7,r8,some (.ref vL),.none] σ (zo _) ⟨P,.none,rfl,by
   have:hmore S k g (ks.take 0)=S.hist:=funext fun x=>if_neg z0
   refine gw (this ..) ?_;exact I,fun _=>rfl,fun _ _=>rfl⟩
 rw [y9 (by rw [zb];exact ze _)] at I'
 exact K ⟨σ',P',o,hF,I',e'⟩
end
end Mine.L13
namespace Mine.L13
open PySem Mine Mine.P
theorem dput_keys (k:List Nat) (v:V):∀ (d:Kv) (n:List Nat),n∈keysOf (dput d k v)->k=n∨n∈keysOf d:=by
 intro d
 induction d with
 | nil =>
  intro n h
  exact .inl (zg.mp h).symm
 | cons p_ r ih =>
  obtain ⟨a,x⟩:=p_
  intro n h
  have h:n∈keysOf (if a=k then (a,v)::r else (a,x)::dput r k v):=h
  split at h
  ·exact .inr h
  ·exact (zy.mp h).elim (fun e=>.inr (e▸zh)) fun q=>(ih n q).elim .inl fun q=>.inr (zj _ q)
theorem dput_nodup (k:List Nat) (v:V):∀ (d:Kv),(keysOf d).Nodup->(keysOf (dput d k v)).Nodup:=by
 intro d
 induction d with
 | nil =>
  intro _
  exact wj _ _
 | cons p_ r ih =>
  obtain ⟨a,x⟩:=p_
  intro h
  show (keysOf (if a=k then (a,v)::r else (a,x)::dput r k v)).Nodup
  obtain ⟨h1,h2⟩:=xg.mp h
  split
  ·exact h
  ·rename_i hk
   exact xg.mpr ⟨fun q=>(dput_keys k v r a q).elim (fun e=>hk e.symm) h1,ih h2⟩
theorem put_nodup:∀ (ws:Ws) (d:Kv),(keysOf d).Nodup->(keysOf (put d ws)).Nodup:=by
 intro ws
 induction ws with
 | nil =>
  intro _ h
  exact h
 | cons p ws ih =>
  intro d h
  exact ih (dput d p.1 (val p.2)) (dput_nodup _ _ d h)
theorem mem_keys (n:List Nat):∀ d:Kv,n∈keysOf d↔(dget d n).isSome=true:=by
 intro d
 induction d with
 | nil =>
  exact ⟨fun h=>absurd h z0,fun h=>absurd h wh⟩
 | cons p_ r ih =>
  obtain ⟨a,x⟩:=p_
  show n∈a::keysOf r↔(if a=n then some x else dget r n).isSome=true
  by_cases e:a=n
  ·refine gw (if_pos e ..) ?_;exact ⟨fun _=>rfl,fun _=>e▸zh⟩
  ·rw [if_neg e,← ih]
   exact ⟨fun h=>(zy.mp h).elim (fun q=>absurd q.symm e) id,fun h=>zj _ h⟩
theorem put0 (ws:Ws) (x:List Nat):dget (put [] ws) x=(lw ws x).map val:=by exact gw (put_get ..) (gw (show dget ([]:Kv) x=.none from rfl) (gw (look_lw ..) rfl))
theorem lw_get (ws:Ws) {x:List Nat} (h:x∈keysOf (put [] ws)):dget (put [] ws) x=some (val ((lw ws x).getD .none)):=by
 have h1:=(mem_keys x _).mp h
 rw [put0] at h1 ⊢
 cases hl:lw ws x with
 | none=>replace h1:=hl▸h1;cases h1
 | some t=>rfl
section
variable {ns:List Int}{C:Calls}{ρ:Env}{σ σ' σ₁ σ₂ σ₃ σ₄:H}{G:Fz}{S S':St}{P P':Pl}{c k:Nat}
theorem Inv.but (I:Inv G S P σ) {a:Nat} (f:Fr G S P a) (h:∀ p o,p≠a->σ[p]?=some o->σ'[p]?=some o):Inv G S P σ' :=
 ⟨fun c l=>⟨h _ _ (f.ne c l) (I.c c l).1,(I.c c l).2⟩,fun i o e=>⟨h _ _ (fun q=>by replace e:=(f.no ..)▸q▸e;cases e) (I.fz i o e).1,(I.fz i o e).2⟩⟩
noncomputable abbrev Ahead (C:Calls):Prop:=∀ {G:Fz}{S:St}{P:Pl}{σ:H},Inv G S P σ->∀ {j k l:Nat},j < S.n->k < S.n->(S.d j).ws.length<=1000->(S.d j).heads.length<=1000->(S.d k).heads.length<=1000->∀ {ks:List (List Nat)},σ[l]?=some (.list (ks.map V.str))->∃ b σ',C.call 50 [sh P,dl P j,dl P k,.ref l] σ=.ok (.bool b) σ'/\Gr σ σ'/\(Mb (S.d j) (S.d k) ks->b=true)
theorem Inv.but2 (I:Inv G S P σ) {a b:Nat} (f:Fr G S P a) (f':Fr G S P b) (h:∀ p o,p≠a->p≠b->σ[p]?=some o->σ'[p]?=some o):Inv G S P σ' :=
 ⟨fun c l=>⟨h _ _ (f.ne c l) (f'.ne c l) (I.c c l).1,(I.c c l).2⟩,fun i o e=>⟨h _ _ (fun q=>by replace e:=(f.no ..)▸q▸e;cases e) (fun q=>by replace e:=(f'.no ..)▸q▸e;cases e) (I.fz i o e).1,(I.fz i o e).2⟩⟩
theorem app_if {a v:Nat}{as:List Nat}{j:Nat} (bb:Bool) (ha:σ[a]?=some (.list (iV as))) (hv:ρ[v]?=some (some (.ref a))) (h6:ρ[6]?=some (some (.int j))) (hz:as.length<=10000) :
  ∃ as' σ',evSs ns C ρ σ (if bb then [.expr (.me (.var v) .append [(.var 6)])] else [])=.ok .next ρ σ'/\(∀ p x,p≠a->σ[p]?=some x->σ'[p]?=some x)/\σ'[a]?=some (.list (iV as'))/\(∀ i∈as',i∈as∨i=j)/\as'.length<=as.length + 1/\(∀ i∈as,i∈as')/\(bb=true->j∈as'):=by
 cases bb with
 | false=>exact ⟨as,σ,ss_nil,fun _ _ _ e=>e,ha,fun _ h=>.inl h,yh _,fun _ h=>h,fun h=>nomatch h⟩
 | true =>
  refine ⟨as++[j],σ.set a (.list (iV as++[.int j])),s_expr (e_me (var_ok hv) (kL ha rfl) (es_one (var_ok h6)) (appL ha ?_)) ss_nil,fun p x h e=>set_off _ h e,?_,fun i hi=>(z5.mp hi).imp id zg.mp,ya (len_one ..),fun i hi=>wk _ hi,fun _=>yp _ (zg.mpr rfl)⟩
  ·refine gw (iV_len ..) ?_;exact lm1 hz
  ·rw [set_on ha,iV,iV,yg];rfl
theorem ahead_loop (hm:C.mlook=mlookOf T0) (h41:Ahead C) (h44:WasL C) (I:Inv G S P σ) (hk:k < S.n) (hrow:∀ j∈S.row,j < S.n) (hw:∀ j,j < S.n->(S.d j).ws.length<=1000/\(S.d j).heads.length<=1000) (hz:S.row.length<=1000) {lk a b:Nat}{ks:List (List Nat)} (hl:σ[lk]?=some (.list (ks.map V.str))) (ha:σ[a]?=some (.list [])) (hb:σ[b]?=some (.list [])) (fa:Fr G S P a) (fb:Fr G S P b) (h1:lk≠a) (h2:lk≠b) (hab:a≠b) :
  ∃ σ' o o' as bs,forLoop (tgtN 6) (fun ρ σ=>evSs ns C ρ σ [.assign 7 (.idx (.attr (.var 0) [100,101,97,108,105,110,103,115]) (.var 6)),
  .ite (.mcall (.var 0) [109,117,115,116,95,98,101,95,97,104,101,97,100] [(.var 7),(.var 2),(.var 3)]) [.expr (.me (.var 4) .append [(.var 6)])] [],
  .ite (.and [(.cmp .gt (.attr (.var 7) [107,101,112,116,95,97,116]) (.attr (.var 2) [115,116,97,114,116])),(.mcall (.var 0) [119,97,115,95,108,111,111,107,101,100,95,97,116] [(.var 7),(.var 2)])]) [.expr (.me (.var 5) .append [(.var 6)])] []]) (iV S.row).length (.list (P.at_ (.b 3)) 0) [some (sh P),some (.int k),some (dl P k),some (.ref lk),some (.ref a),some (.ref b),.none,.none,.none,.none,.none] σ =
   .ok .next [some (sh P),some (.int k),some (dl P k),some (.ref lk),some (.ref a),some (.ref b),o,o',.none,.none,.none] σ'/\(∀ p x,p≠a->p≠b->σ[p]?=some x->σ'[p]?=some x)/\σ'[a]?=some (.list (iV as))/\σ'[b]?=some (.list (iV bs))/\(∀ j∈as,j∈S.row)/\(∀ j∈S.row,Mb (S.d j) (S.d k) ks->j∈as)/\∀ j∈S.row,Bh (S.d j) (S.d k)->j∈bs:=by
 refine cps fun G' K=>?_
 obtain ⟨ρ',σ',hF,⟨o,o',rfl⟩,as,bs,e1,e2,e2',e3,_,_,m1,m2⟩:=for_all (tgt:=tgtN 6) (body:=fun ρ σ=>evSs ns C ρ σ [.assign 7 (.idx (.attr (.var 0) [100,101,97,108,105,110,103,115]) (.var 6)),
  .ite (.mcall (.var 0) [109,117,115,116,95,98,101,95,97,104,101,97,100] [(.var 7),(.var 2),(.var 3)]) [.expr (.me (.var 4) .append [(.var 6)])] [],
  .ite (.and [(.cmp .gt (.attr (.var 7) [107,101,112,116,95,97,116]) (.attr (.var 2) [115,116,97,114,116])),(.mcall (.var 0) [119,97,115,95,108,111,111,107,101,100,95,97,116] [(.var 7),(.var 2)])]) [.expr (.me (.var 5) .append [(.var 6)])] []]) (it:=fun i=>.list (P.at_ (.b 3)) i)
  (fun i ρ' σ'=>(∃ o o',ρ'=[some (sh P),some (.int k),some (dl P k),some (.ref lk),some (.ref a),some (.ref b),o,o',.none,.none,.none])/\∃ as bs,(∀ p x,p≠a->p≠b->σ[p]?=some x->σ'[p]?=some x)/\σ'[a]?=some (.list (iV as))/\σ'[b]?=some (.list (iV bs))/\(∀ j∈as,j∈S.row)/\as.length<=i/\bs.length<=i/\(∀ j∈S.row.take i,Mb (S.d j) (S.d k) ks->j∈as)/\∀ j∈S.row.take i,Bh (S.d j) (S.d k)->j∈bs)
  (iV S.row).length (fun ρ σ p=>by obtain ⟨_,_,_,e1,_⟩:=p;exact stop_list ((I.but2 fa fb e1).b 3 (by decide)))
  (fun i ρ' σ' hi p=>by
   refine cps fun G' K=>?_
   obtain ⟨⟨o,o',rfl⟩,as,bs,e1,e2,e2',e3,e4,e5,m1,m2⟩:=p
   have hi':i < S.row.length:=by replace hi:=(iV_len ..)▸hi;exact hi
   have hz':=za (z9 hi') (za hz (by decide:1000<=10000))
   have I':=I.but2 fa fb e1
   have hj:=hrow _ (ye hi')
   refine ex2 (h41 I' hj hk (hw _ hj).1 (hw _ hj).2 (hw _ hk).2 (e1 lk _ h1 h2 hl)) fun bb σ2 q_h=>?_;refine an3 q_h fun c41 g2 mb=>?_
   have I2:=I'.gr g2
   refine ex2 (app_if (ns:=ns) (C:=C) (ρ:=[some (sh P),some (.int k),some (dl P k),some (.ref lk),some (.ref a),some (.ref b),some (.int S.row[i]),some (dl P S.row[i]),.none,.none,.none]) (v:=4) bb (g2.at e2) rfl rfl (za e4 hz')) fun as' σ3 q_h=>?_;refine an7 q_h fun s3 f1 f2 f3 f4 f5 f6=>?_
   have I3:=I2.but fa f1
   obtain ⟨cc,σ4,c44,g4,mc⟩:∃ cc σ4,Ev ns C [some (sh P),some (.int k),some (dl P k),some (.ref lk),some (.ref a),some (.ref b),some (.int S.row[i]),some (dl P S.row[i]),.none,.none,.none] (.and [(.cmp .gt (.attr (.var 7) [107,101,112,116,95,97,116]) (.attr (.var 2) [115,116,97,114,116])),(.mcall (.var 0) [119,97,115,95,108,111,111,107,101,100,95,97,116] [(.var 7),(.var 2)])]) σ3 (.bool cc) σ4/\Gr σ3 σ4/\(Bh (S.d S.row[i]) (S.d k)->cc=true):=by
    obtain ⟨σ4,c4,g4⟩:=h44 I3 hj hk (hw _ hj).1 (hw _ hk).2
    have c0:Ev ns C [some (sh P),some (.int k),some (dl P k),some (.ref lk),some (.ref a),some (.ref b),some (.int S.row[i]),some (dl P S.row[i]),.none,.none,.none] (.cmp .gt (.attr (.var 7) [107,101,112,116,95,97,116]) (.attr (.var 2) [115,116,97,114,116])) σ3 (.bool (decide (((S.d k).start:Int) < (S.d S.row[i]).kat))) σ3:=e_cmp (e_attr rfl (dl_at I3 hj)) (e_attr rfl (dl_start I3 hk)) (gt_ok _ _)
    cases hp:decide (((S.d k).start:Int) < (S.d S.row[i]).kat) with
    | false=>replace c0:=hp▸c0;exact ⟨false,σ3,andF c0,Gr.rfl,fun q=>absurd (vw.mpr q.1) (of_decide_eq_false hp)⟩
    | true=>replace c0:=hp▸c0;exact ⟨_,σ4,andT c0 (and1 (e_mcall rfl (look_ok hm (I3.b 0 (by decide)) rfl rfl) rfl c4)),g4,fun q=>q.2⟩
   refine ex2 (app_if (ns:=ns) (C:=C) (ρ:=[some (sh P),some (.int k),some (dl P k),some (.ref lk),some (.ref a),some (.ref b),some (.int S.row[i]),some (dl P S.row[i]),.none,.none,.none]) (v:=5) cc (g4.at (f1 b _ (Ne.symm hab) (g2.at e2'))) rfl rfl (za e5 hz')) fun bs' σ5 q_h=>?_;refine an7 q_h fun s5 k1 k2 k3 k4 k5 k6=>?_
   have tk:∀ j∈S.row.take (i + 1),j∈S.row.take i∨j=S.row[i]:=fun j hj=>by
    replace hj:=(take_at S.row hi' ..)▸hj
    exact (z5.mp hj).imp id zg.mp
   exact K ⟨.int S.row[i],_,_,σ5,next_list (I'.b 3 (by decide)) (iV_at hi'),rfl,s_assign (e_idx (e_attr rfl (sh_deals I')) rfl (at_deals I' hj)) rfl (s_if (e_mcall rfl (look_ok hm (I'.b 0 (by decide)) rfl rfl) rfl c41) (after_next s3 (s_if c44 (after_next s5 ss_nil)))),⟨_,_,rfl⟩,as',bs',fun p x h h' e=>k1 p x h' (g4.at (f1 p x h (g2.at (e1 p x h h' e)))),k1 a _ hab (g4.at f2),k2,fun j hj=>(f3 j hj).elim (e3 j) fun q=>by refine gw q ?_;exact ye hi',za f4 (zq e4),za k4 (zq e5),fun j hj m=>(tk j hj).elim (fun q=>f5 j (m1 j q m)) fun q=>by subst q;exact f6 (mb m),fun j hj m=>(tk j hj).elim (fun q=>k5 j (m2 j q m)) fun q=>by subst q;exact k6 (mc m)⟩)
  (iV S.row).length 0 [some (sh P),some (.int k),some (dl P k),some (.ref lk),some (.ref a),some (.ref b),.none,.none,.none,.none,.none] σ (zo _) ⟨⟨_,_,rfl⟩,[],[],fun _ _ _ _ e=>e,ha,hb,fun _ h=>absurd h z0,ze _,ze _,fun _ h=>absurd h z0,fun _ h=>absurd h z0⟩
 rw [iV_len,zu] at m1 m2
 exact K ⟨σ',o,o',as,bs,hF,e1,e2,e2',e3,m1,m2⟩
end
end Mine.L13
namespace Mine.L13
open PySem Mine Mine.P
section
variable {ns:List Int}{C:Calls}{ρ:Env}{σ σ' σ₁ σ₂ σ₃ σ₄:H}{G:Fz}{S:St}{P:Pl}{k:Nat}
theorem ins_iV (rs:List Nat) (p k:Nat):insAt (iV rs) p (.int k)=iV (insAt rs p k):=by
 unfold insAt iV
 exact gw (yg ..) (gw (xn ..) (gw (zat ..) (gw (zau ..) rfl)))
theorem ins_len {α:Type} (rs:List α) (p:Nat) (k:α):(insAt rs p k).length=rs.length + 1:=by
 unfold insAt
 exact gw (zd ..) (gw (xy ..) (bw (xo ..) (bw (zd ..) (gw (z6 ..) rfl))))
theorem insV {l:Nat}{k:Int}{xs:List V}{v:V}:meL l xs .insert [.int k,v] σ=(if 0<=k/\k < 9223372036854775808 then putL l (insAt xs k.toNat v) else stuck:M V) σ:=rfl
theorem insertL {l k p:Nat}{rs:List Nat} (hl:σ[l]?=some (.list (iV rs))) (hz:rs.length<=1000) (hp:p<=rs.length):meV (.ref l) .insert [.int p,.int k] σ=.ok .none (σ.set l (.list (iV (insAt rs p k)))):=by
 unfold meV;dsimp only;refine gw hl ?_
 refine (insV (k:=p)).trans ?_
 refine gw (if_pos ⟨z8 _,wv (yw.mpr (za hp hz)) (by decide)⟩ ..) (gw (xb ..) (gw (ins_iV ..) ?_))
 unfold putL
 rw [if_pos (by rw [iV_len,ins_len];exact za (zq hz) (by decide))]
noncomputable abbrev PlaceIn (C:Calls):Prop:=∀ {r a b:Nat}{rs as bs:List Nat}{σ:H},σ[r]?=some (.list (iV rs))->σ[a]?=some (.list (iV as))->σ[b]?=some (.list (iV bs))->rs.length<=1000->(∀ k∈as,k∈rs)->∃ v,C.call 17 [.ref r,.ref a,.ref b] σ=.ok v σ/\Plc rs as bs v
structure Pk (S:St) (k p:Nat):Prop where
 le:p<=S.row.length
 ah:∀ j∈S.row,Mb (S.d j) (S.d k) (kys (S.d k).ws)->j∈S.row.take p
 bh:∀ j∈S.row.take p,¬ Bh (S.d j) (S.d k)
theorem Pk.of {as bs:List Nat}{p:Nat} (hp:p<=S.row.length) (h1:∀ j∈as,j∈S.row.take p) (h2:∀ i j,S.row[i]?=some j->j∈bs->p<=i) (m1:∀ j∈S.row,Mb (S.d j) (S.d k) (kys (S.d k).ws)->j∈as) (m2:∀ j∈S.row,Bh (S.d j) (S.d k)->j∈bs):Pk S k p :=
 ⟨hp,fun j hj m=>h1 j (m1 j hj m),fun j hj m=>by
  obtain ⟨i,hi,e⟩:=List.mem_iff_getElem.mp hj
  have hl:i < p:=zm hi (kj _ _)
  have e':S.row[i]?=some j:=(wg hl).symm.trans ((zf hi).trans (congrArg some e))
  exact Nat.not_le.mpr hl (h2 i j e' (m2 j (yr e') m))⟩
noncomputable def St.keep (S:St) (k p:Nat):St:={ S.setD k { S.d k with st:=2,kat:=S.row.length + 1 } with row:=insAt S.row p k,names:=addNs S.names (kys (S.d k).ws),hist:=fun x=>if x∈kys (S.d k).ws then S.hist x++[(S.row.length + 1,(lw (S.d k).ws x).getD .none)] else S.hist x }
theorem keep_over (hm:C.mlook=mlookOf T0) (h31:NeedO C) (I:Inv G S P σ) (hk:k < S.n) (ho:(S.d k).st≠0):evF ns C f52_Shelf_keep [sh P,.int k] σ=.exc 2 σ :=
 f_exc (fn:=f52_Shelf_keep) rfl (s_assignX (over h31 hm I hk ho rfl rfl))
theorem keep_ok (hm:C.mlook=mlookOf T0) (h31:NeedO C) (h7:Values C) (h10:PlaceIn C) (h41:Ahead C) (h44:WasL C) (I:Inv G S P σ) (hh:∀ y,y∉S.names->S.hist y=[]) (hk:k < S.n) (ho:(S.d k).st=0) (hrow:∀ j∈S.row,j < S.n) (hw:∀ j,j < S.n->(S.d j).ws.length<=1000/\(S.d j).heads.length<=1000) (hz:S.row.length<=999) (hnz:S.names.length<=9000) (hs:∀ x,(S.hist x).length<=1000) :
  ∃ P' σ',P.Sim P'/\((evF ns C f52_Shelf_keep [sh P,.int k] σ=.exc 8 σ'/\Inv G (S.setD k { S.d k with st:=1 }) P' σ')∨∃ p,Pk S k p/\evF ns C f52_Shelf_keep [sh P,.int k] σ=.ok (.int p) σ'/\Inv G (S.keep k p) P' σ'):=by
 refine cps fun G' K=>?_
 have hwk:=(hw k hk).1
 have pl:=za (put_len (S.d k).ws []) (ya (zo _))
 let ks:=kys (S.d k).ws
 have hks:ks.length<=(S.d k).ws.length:=by show (keysOf _).length<=_;unfold keysOf;refine gw (zb ..) ?_;exact pl
 let σ1:=σ++[O.dict (put [] (S.d k).ws)]
 let σ2:=σ1++[O.list (ks.map V.str)]
 let σ3:=σ2++[O.list []]
 let σ4:=σ3++[O.list []]
 have l1:σ1.length=σ.length + 1:=len_one _ _
 have l2:σ2.length=σ.length + 2:=by show (_++[_]).length=_;exact gw (len_one ..) (gw l1 rfl)
 have l3:σ3.length=σ.length + 3:=by show (_++[_]).length=_;exact gw (len_one ..) (gw l2 rfl)
 have n1:σ1.length≠σ2.length:=l1▸l2▸yj (yo _)
 have n2:σ1.length≠σ3.length:=l1▸l3▸yj (wa (yo _))
 have n3':σ2.length≠σ3.length:=l2▸l3▸yj (yo _)
 have g4:Gr σ σ4:=((Gr.app σ _).tr (Gr.app σ1 _)).tr ((Gr.app σ2 _).tr (Gr.app σ3 _))
 have I4:=I.gr g4
 have fa:Fr G S P σ2.length:=I.fr (by refine gw l2 ?_;exact zp _ _)
 have fb:Fr G S P σ3.length:=I.fr (by refine gw l3 ?_;exact zp _ _)
 have k4:σ4[σ1.length]?=some (.list (ks.map V.str)):=((Gr.app σ2 _).tr (Gr.app σ3 _)).at (at_new σ1 _)
 refine ex5 (ahead_loop (ns:=ns) (lk:=σ1.length) (a:=σ2.length) (b:=σ3.length) (ks:=ks) hm h41 h44 I4 hk hrow hw (zr hz) k4 ((Gr.app σ3 _).at (at_new σ2 _)) (at_new σ3 _) fa fb n1 n2 n3') fun σ5 o6 o7 as bs q_h=>?_;refine an7 q_h fun hF k5 f2 f2' f4 m1 m2=>?_
 have I5:=I4.but2 fa fb k5
 have r5:=I5.b 3 (by decide)
 obtain ⟨v,hpl,hv⟩:=h10 r5 f2 f2' (zr hz) f4
 have b0:∀ {R:RS},evSs ns C [some (sh P),some (.int k),some (dl P k),some (.ref σ1.length),some (.ref σ2.length),some (.ref σ3.length),o6,o7,some v,.none,.none] σ5 (f52_Shelf_keep.body.drop 6)=R ->
   evSs ns C [some (sh P),some (.int k),.none,.none,.none,.none,.none,.none,.none,.none,.none] σ f52_Shelf_keep.body=R:=fun h =>
  s_assign (opened h31 hm I hk ho rfl rfl) rfl (s_assign (e_bi (e_call (es_one (e_attr rfl (dl_ws I hk))) (h7 (I.d 1 (by decide) hk) hwk)) (listD (at_new σ _) (za pl (za hwk (by decide))))) rfl (s_assign (e_list rfl (z7 _)) rfl (s_assign (e_list rfl (z7 _)) rfl
   (s_forN (src_of (e_attr rfl (sh_row I4)) (I4.b 3 (by decide))) (after_next hF (s_assign (e_call (es_three (e_attr rfl (sh_row I5)) rfl rfl) hpl) rfl h))))))
 rcases hv with rfl | ⟨p,rfl,hp,h1,h2⟩
 ·have I6:=I5.storeD (j:=0) (k:=k) (D:={ S.d k with st:=1 }) (o:=.dict (dlE { S.d k with st:=1 } (P.at_ (.d 1 k)) (P.at_ (.d 2 k)) (P.at_ (.d 3 k)) (P.at_ (.d 4 k)))) ⟨(by decide:0 < 5),hk⟩ (fun i hi h5=>renD_ne (q:=0) hi h5 (.inl rfl) (.inr rfl) (.inr rfl) (.inr rfl) (.inr rfl)) rfl
  have q6:setaV (dl P k) [115,116,97,116,101] (.str [100,114,111,112,112,101,100]) σ5=.ok .none _:=setaI (kvs:=dlE (S.d k) (P.at_ (.d 1 k)) (P.at_ (.d 2 k)) (P.at_ (.d 3 k)) (P.at_ (.d 4 k))) (I5.d 0 (by decide) hk) (by show 7<=lim;decide)
  exact K ⟨P,_,rfl,.inl ⟨f_exc (fn:=f52_Shelf_keep) rfl (b0 (s_ifT rfl (after_exc (s_seta rfl rfl q6 s_raise)))),I6⟩⟩
 ·have I6:Inv G { S with row:=insAt S.row p k } P (σ5.set (P.at_ (.b 3)) (.list (iV (insAt S.row p k)))):=by
   refine I5.store (S':={ S with row:=insAt S.row p k }) (c₀:=.b 3) (by show 3 < 4;decide) (fun c l=>by cases c <;> exact l) (fun c q lv=>?_) rfl
   cases c with
   | b j=>exact renB_ne (S:=S) (S':={ S with row:=insAt S.row p k }) (q:=3) (fun e=>q (by exact gw e rfl)) lv (.inr rfl) (.inr rfl) (.inl rfl)
   | d j k'=>rfl
   | h y=>rfl
  have I7:=I6.storeD (j:=0) (k:=k) (D:={ S.d k with st:=2 }) (o:=.dict (dlE { S.d k with st:=2 } (P.at_ (.d 1 k)) (P.at_ (.d 2 k)) (P.at_ (.d 3 k)) (P.at_ (.d 4 k)))) ⟨(by decide:0 < 5),hk⟩ (fun i hi h5=>renD_ne (q:=0) hi h5 (.inl rfl) (.inr rfl) (.inr rfl) (.inr rfl) (.inr rfl)) rfl
  have eD7:(({ S with row:=insAt S.row p k }:St).setD k { S.d k with st:=2 }).d k={ S.d k with st:=2 }:=St.setD_at _ k _
  have I8:=I7.storeD (j:=0) (k:=k) (D:={ S.d k with st:=2,kat:=S.row.length + 1 }) (o:=.dict (dlE { S.d k with st:=2,kat:=S.row.length + 1 } (P.at_ (.d 1 k)) (P.at_ (.d 2 k)) (P.at_ (.d 3 k)) (P.at_ (.d 4 k)))) ⟨(by decide:0 < 5),hk⟩ (fun i hi h5=>by refine gw eD7 ?_;exact renD_ne (q:=0) hi h5 (.inl rfl) (.inr rfl) (.inr rfl) (.inr rfl) (.inr rfl)) rfl
  replace I8:=(St.setD_setD ..)▸I8
  let S8:St:=({ S with row:=insAt S.row p k }:St).setD k { S.d k with st:=2,kat:=S.row.length + 1 }
  have eD8:S8.d k={ S.d k with st:=2,kat:=S.row.length + 1 }:=St.setD_at _ k _
  have e6:=I6.d 0 (by decide) hk
  have e7:=I7.d 0 (by decide) hk
  replace e7:=eD7▸e7
  have w8:=I8.d 1 (by decide) hk
  replace w8:=eD8▸w8
  have r7:=len_row (ns:=ns) I7
  generalize h6:σ5.set (P.at_ (.b 3)) (.list (iV (insAt S.row p k)))=σ6 at I6 I7 I8 e6 e7 w8 r7
  generalize h7':σ6.set (P.at_ (.d 0 k)) (.dict (dlE { S.d k with st:=2 } (P.at_ (.d 1 k)) (P.at_ (.d 2 k)) (P.at_ (.d 3 k)) (P.at_ (.d 4 k))))=σ7 at I7 I8 e7 w8 r7
  generalize h8':σ7.set (P.at_ (.d 0 k)) (.dict (dlE { S.d k with st:=2,kat:=S.row.length + 1 } (P.at_ (.d 1 k)) (P.at_ (.d 2 k)) (P.at_ (.d 3 k)) (P.at_ (.d 4 k))))=σ8 at I8 w8
  have n3:=I.lt (c:=.b 3) (by show 3 < 4;decide)
  have n0:=I.lt (c:=.d 0 k) ⟨(by decide:0 < 5),hk⟩
  have n11:∀ {a},a < σ.length->σ1.length≠a:=fun h=>xt (zm h (l1▸yh _))
  have lk8:σ8[σ1.length]?=some (.list (ks.map V.str)):=by
   refine bw h8' (bw h7' (bw h6 ?_));exact set_off _ (n11 n0) (set_off _ (n11 n0) (set_off _ (n11 n3) (k5 σ1.length _ n1 n2 k4)))
  let σ9:=σ8++[O.dict (put [] (S.d k).ws)]
  have I9:Inv G S8 P σ9:=I8.gr (Gr.app σ8 _)
  have fz:∀ {a o},σ.length<=a->σ9[a]?=some o->mx S8 P σ9 a=some o:=fun {a o} h e=>by
   unfold mx
   rw [if_neg (fun q=>by
    obtain ⟨c,l,e⟩:=q
    exact yc.mpr h (e▸I.lt (c:=c) (by cases c <;> exact l)))]
   exact e
  have ge8:=(zc.mp lk8).1
  refine ex3 (stock_loop (ns:=ns) (C:=C) (σ:=σ9) (k:=k) (lk:=σ1.length) (vL:=σ8.length) (ks:=ks) (d:=put [] (S.d k).ws) (g:=fun x=>(lw (S.d k).ws x).getD .none) (r4:=some (.ref σ2.length)) (r5:=some (.ref σ3.length)) (r6:=o6) (r7:=o7) (r8:=some (.int p)) I9.mx hh hk (fz (l1▸yh _) ((Gr.app σ8 _).at lk8)) (fz (z9 (yk (l1▸yh _) ge8)) (at_new σ8 _)) (put_nodup _ [] vp) (fun x q=>lw_get _ q) (za (xc hnz (za hks hwk)) (by decide)) hs) fun σ' P' o q_h=>?_;refine an4 q_h fun hG I' hb' _=>?_
  have I':=I9.un I'
  have q7:setaV (dl P k) [115,116,97,116,101] (.str [107,101,112,116]) σ6=.ok .none σ7:=(setaI (kvs:=dlE (S.d k) (P.at_ (.d 1 k)) (P.at_ (.d 2 k)) (P.at_ (.d 3 k)) (P.at_ (.d 4 k))) e6 (by show 7<=lim;decide)).trans (congrArg (R.ok V.none) h7')
  have q8:setaV (dl P k) [107,101,112,116,95,97,116] (.int (insAt S.row p k).length) σ7=.ok .none σ8:=by
   refine (setaI (kvs:=dlE { S.d k with st:=2 } (P.at_ (.d 1 k)) (P.at_ (.d 2 k)) (P.at_ (.d 3 k)) (P.at_ (.d 4 k))) e7 (by show 7<=lim;decide)).trans ?_
   refine bw h8' (gw (ins_len ..) ?_);rfl
  have b1:evSs ns C [some (sh P),some (.int k),some (dl P k),some (.ref σ1.length),some (.ref σ2.length),some (.ref σ3.length),o6,o7,some (.int p),.none,.none] σ6 (f52_Shelf_keep.body.drop 8)=.ok (.ret (.int p)) [some (sh P),some (.int k),some (dl P k),some (.ref σ1.length),some (.ref σ2.length),some (.ref σ3.length),o6,o7,some (.int p),some (.ref σ8.length),o] σ' :=
   s_seta rfl rfl q7 (s_seta (e_bi (e_attr rfl (sh_row I7)) r7) rfl q8 (s_assign (e_call (es_one (e_attr rfl (dl_ws I8 hk))) (h7 w8 hwk)) rfl (s_forN (src_of rfl ((Gr.app σ8 _).at lk8)) (after_next hG (s_ret rfl)))))
  refine K ⟨P',σ',hb' 0,.inr ⟨p,.of hp h1 h2 m1 m2,f_ret (fn:=f52_Shelf_keep) rfl (b0 (s_ifF rfl (s_expr (e_me (e_attr rfl (sh_row I5)) (kL r5 rfl) rfl ((insertL r5 (zr hz) hp).trans (congrArg (R.ok V.none) h6))) b1))),?_⟩⟩
  have eh:hmore S8 k (fun x=>(lw (S.d k).ws x).getD .none) ks=(S.keep k p).hist:=funext fun x=>by
   unfold hmore
   refine gw eD8 ?_;rfl
  replace I':=eh▸I'
  exact I'
end
end Mine.L13
namespace Mine.L13
open PySem Mine Mine.P
noncomputable abbrev Ps:=List (List Nat×Int)
noncomputable def pV (ps:Ps):List V:=ps.map fun p=>.tup [.str p.1,.int p.2]
theorem pV_len (ps:Ps):(pV ps).length=ps.length:=zb ..
noncomputable def und1 (f:List Nat->Option Int) (h n:List Nat):Option (List Nat×Int):=if pre h n then (f n).map fun v=>(n,v) else .none
noncomputable def und (f:List Nat->Option Int) (h:List Nat) (ks:List (List Nat)):Ps:=ks.filterMap (und1 f h)
theorem und_take {f:List Nat->Option Int}{h:List Nat}{ks:List (List Nat)}{i:Nat} (hi:i < ks.length):und f h (ks.take (i + 1))=und f h (ks.take i)++(und1 f h ks[i]).toList:=by
 unfold und
 refine gw (take_at ks hi ..) (gw (zae ..) ?_)
 cases e:und1 f h ks[i] with
 | none=>refine gw (fg e ..) ?_;rfl
 | some v=>refine gw (fh e ..) ?_;rfl
theorem und_le (f:List Nat->Option Int) (h:List Nat) (ks:List (List Nat)):(und f h ks).length<=ks.length:=fi _ _
noncomputable def pN (ws:Ws):List (List Nat):=ws.map (·.1)
theorem strs_map:∀ l:List (List Nat),strsOf (l.map V.str)=some l:=by
 intro l
 induction l with
 | nil =>
  exact rfl
 | cons a l ih =>
  show (strsOf (l.map V.str)).map (a::·)=_;refine gw ih ?_;rfl
theorem sort_len (le:List Nat->List Nat->Bool) (l:List (List Nat)):(sort le l).length=l.length:=List.length_mergeSort l
theorem addN_nodup {l:List (List Nat)} (h:l.Nodup) (n:List Nat):(addN l n).Nodup:=by
 unfold addN
 split
 ·exact h
 ·exact vk.mpr ⟨h,wj _ _,fun a ha b hb=>by refine gw (zg.mp hb ..) ?_;rintro rfl;contradiction⟩
theorem addNs_nodup (xs:List (List Nat)):∀ {l:List (List Nat)},l.Nodup->(addNs l xs).Nodup:=by
 induction xs with
 | nil=>intro _ h;exact h
 | cons a xs ih=>intro _ h;exact ih (addN_nodup h a)
section
variable {ns:List Int}{C:Calls}{ρ:Env}{σ σ' σ₁ σ₂ σ₃ σ₄:H}{G:Fz}{S:St}{P:Pl}{k c:Nat}
theorem sortL {l:Nat}{ks:List (List Nat)} (hl:itemsV σ (.ref l)=some (ks.map V.str)) (h:ks.length<=1000) (hd:ks.Nodup):biV ns .sorted (.ref l) σ=.ok (.ref σ.length) (σ++[.list ((sort lexLe ks).map V.str)]):=by
 show (pick ((itemsV σ (.ref l)).bind sortV)).bnd newL σ=_
 refine gw hl (gw (ww ..) ?_)
 unfold sortV
 refine gw (strs_map ..) ?_
 show (pick (if ks.Nodup then some ((sort lexLe ks).map V.str) else .none)).bnd newL σ=_
 refine gw (if_pos hd) ?_
 exact newL_ok (by refine gw (zb ..) (gw (sort_len ..) ?_);exact lm h)
noncomputable abbrev Head (C:Calls):Prop:=∀ (x:List Nat) (σ:H),x.length<=12->∃ σ',C.call 2 [.str x] σ=.ok (.bool (x.all fun c=>signs.contains c)) σ'/\Gr σ σ'
theorem known_loop {l kd:Nat}{xs:List V}{L nx:List (List Nat)} (hne:l≠kd) (hl:σ[l]?=some (.list xs)) (hd:σ[kd]?=some (.dict (tV L))) (hxn:xs.length=nx.length) {tgt:V->Env->Option Env}{Q:Env->Prop}
  (hx:∀ i (h:i < nx.length) v,xs[i]?=some v->∀ ρ,Q ρ->∃ ρ₁,tgt v ρ=some ρ₁/\Q ρ₁/\ρ₁[4]?=some (some (.ref kd))/\ρ₁[5]?=some (some (.str nx[i]))) (hz:L.length + xs.length<=1000) {ρ:Env} (hq:Q ρ) :
  ∃ ρ' σ',forLoop tgt (fun ρ σ=>evSs ns C ρ σ [.setitem (.var 4) (.var 5) (.lit (V.bool true))]) xs.length (.list l 0) ρ σ=.ok .next ρ' σ'/\Q ρ'/\σ'[kd]?=some (.dict (tV (addNs L nx)))/\∀ i o,i≠kd->σ[i]?=some o->σ'[i]?=some o:=by
 refine ex2 (for_all (tgt:=tgt) (body:=fun ρ σ=>evSs ns C ρ σ [.setitem (.var 4) (.var 5) (.lit (V.bool true))]) (it:=fun i=>.list l i)
  (fun i ρ' σ'=>Q ρ'/\σ'[kd]?=some (.dict (tV (addNs L (nx.take i))))/\∀ i o,i≠kd->σ[i]?=some o->σ'[i]?=some o) xs.length
  (fun ρ σ' p=>stop_list (p.2.2 l _ hne hl))
  (fun i ρ' σ' hi p=>by
   refine an3 (p) fun a1 a3 a6=>?_
   have hi':i < nx.length:=hxn▸hi
   obtain ⟨ρ₁,q_h⟩:=(hx i hi' _ (zf hi) ρ' a1);refine an4 q_h fun b1 b2 b3 b4=>?_
   have h1:(tV (addNs L (nx.take i))).length<=10000:=by
    unfold tV;refine gw (zb ..) ?_
    exact za (addNs_len _ L) (za (yl (za (yv _ _) (ya hxn.symm)) _) (za hz (by decide)))
   refine ⟨xs[i],ρ₁,ρ₁,_,next_list (a6 l _ hne hl) (zf hi),b1,s_set rfl (var_ok b3) (var_ok b4) (setD a3 (lmx (dput_len ..) h1)) ss_nil,b2,?_,fun i o hi e=>set_off _ hi (a6 i o hi e)⟩
   refine gw (set_on a3 ..) (gw (dput_tV ..) (gw (take_at nx hi' ..) ?_))
   unfold addNs;refine gw (wy ..) ?_;rfl)
  xs.length 0 ρ σ (zo _) ⟨hq,hd,fun _ _ _ e=>e⟩) fun ρ' σ' q_h=>?_;refine an4 q_h fun h a1 a3 a6=>?_
 rw [hxn,zu] at a3
 exact ⟨ρ',σ',h,a1,a3,a6⟩
theorem pairs_loop (hm:C.mlook=mlookOf T0) (h5:IsU C) (h34:SeenBy C) (I:Inv G S P σ) (hh:∀ x,x∉S.names->S.hist x=[]) (hk:k < S.n) (hz:(S.d k).ws.length<=1000) {ks:List (List Nat)}{l pl:Nat}{h:List Nat} (hl:σ[l]?=some (.list (ks.map V.str))) (hpl:σ[pl]?=some (.list [])) (f:Fr G S P pl) (hne:l≠pl) (hks:ks.length<=2000) {a4 a5 a6:Option V} :
  ∃ σ' o o',forLoop (tgtN 5) (fun ρ σ=>evSs ns C ρ σ [.assign 6 (.mcall (.var 0) [115,101,101,110,95,98,121] [(.var 3),(.var 5)]),
  .ite (.and [(.call 5 [(.var 5),(.var 2)]),(.cmp .isnt (.var 6) (.lit V.none))]) [.expr (.me (.var 7) .append [(.tup [(.var 5),(.var 6)])])] []]) (ks.map V.str).length (.list l 0) [some (sh P),some (.int k),some (.str h),some (dl P k),a4,a5,a6,some (.ref pl)] σ =
   .ok .next [some (sh P),some (.int k),some (.str h),some (dl P k),a4,o,o',some (.ref pl)] σ'/\σ'[pl]?=some (.list (pV (und (sb (S.d k).ws (S.base k)) h ks)))/\∀ p o,p≠pl->σ[p]?=some o->σ'[p]?=some o:=by
 refine cps fun G' K=>?_
 obtain ⟨ρ9,σ9,h9,⟨q1,q2,rfl⟩,d9,k9⟩:=for_all (tgt:=tgtN 5) (body:=fun ρ σ=>evSs ns C ρ σ [.assign 6 (.mcall (.var 0) [115,101,101,110,95,98,121] [(.var 3),(.var 5)]),
  .ite (.and [(.call 5 [(.var 5),(.var 2)]),(.cmp .isnt (.var 6) (.lit V.none))]) [.expr (.me (.var 7) .append [(.tup [(.var 5),(.var 6)])])] []]) (it:=fun i=>.list l i)
  (fun i ρ' σ'=>(∃ o o',ρ'=[some (sh P),some (.int k),some (.str h),some (dl P k),a4,o,o',some (.ref pl)])/\σ'[pl]?=some (.list (pV (und (sb (S.d k).ws (S.base k)) h (ks.take i))))/\∀ p o,p≠pl->σ[p]?=some o->σ'[p]?=some o) (ks.map V.str).length
  (fun ρ σ p=>stop_list (p.2.2 l _ hne hl))
  (fun i ρ' σ' hi p=>by
   refine cps fun G' K=>?_
   refine an3 (p) fun q_0 d kp=>?_;obtain ⟨o,o',rfl⟩:=q_0
   have hi':i < ks.length:=by replace hi:=(zb ..)▸hi;exact hi
   have I':=I.but f kp
   obtain ⟨σa,ea,ga⟩:=h34 I' hh hk hz ks[i]
   have da:=ga.at d
   have ut:=und_take (f:=sb (S.d k).ws (S.base k)) (h:=h) hi'
   have zi:=za (und_le (sb (S.d k).ws (S.base k)) h (ks.take i)) (za (yv _ _) hks)
   unfold und1 at ut
   generalize sb (S.d k).ws (S.base k) ks[i]=t at ea ut
   have hc:Ev ns C [some (sh P),some (.int k),some (.str h),some (dl P k),a4,some (.str ks[i]),some (val t),some (.ref pl)] (.and [(.call 5 [(.var 5),(.var 2)]),(.cmp .isnt (.var 6) (.lit V.none))]) σa (.bool (pre h ks[i] && !isNoneV (val t))) σa:=and2 (e_call rfl (h5 ks[i] h σa)) rfl
   have nx:=next_list (σ:=σ') (i:=i) (kp l _ hne hl) (by refine gw (zv ..) (gw (zf hi' ..) ?_);rfl)
   have ev:Ev ns C [some (sh P),some (.int k),some (.str h),some (dl P k),a4,some (.str ks[i]),o',some (.ref pl)] (.mcall (.var 0) [115,101,101,110,95,98,121] [(.var 3),(.var 5)]) σ' (val t) σa:=e_mcall rfl (look_ok hm (I'.b 0 (by decide)) rfl rfl) rfl ea
   have no:(pre h ks[i] && !isNoneV (val t))=false->und (sb (S.d k).ws (S.base k)) h (ks.take (i + 1))=und (sb (S.d k).ws (S.base k)) h (ks.take i)->G':=fun hq eq=>by
    replace hc:=hq▸hc
    exact K ⟨.str ks[i],_,_,σa,nx,rfl,s_assign ev rfl (s_ifF hc ss_nil),⟨_,_,rfl⟩,by refine gw eq ?_;exact da,fun p o h e=>ga.at (kp p o h e)⟩
   cases hb:pre h ks[i] with
   | false=>replace ut:=hb▸ut;exact no (by refine gw hb ?_;rfl) (ut.trans (yi _))
   | true =>
    replace ut:=hb▸ut
    cases t with
    | none=>exact no (by refine gw hb ?_;rfl) (ut.trans (yi _))
    | some v =>
     rw [show (pre h ks[i] && !isNoneV (val (some v)))=true by rw [hb];rfl] at hc
     refine K ⟨.str ks[i],_,_,_,nx,rfl,s_assign ev rfl (s_ifT hc (after_next (s_expr (e_me rfl (kL da rfl) (es_one (tup_ok rfl rfl)) (appL da (by refine gw (pV_len ..) ?_;exact lm1 (za zi (by decide))))) ss_nil) ss_nil)),⟨_,_,rfl⟩,?_,fun p o h e=>set_off _ h (ga.at (kp p o h e))⟩
     refine gw (set_on da ..) (gw ut ?_)
     unfold pV;refine gw (yg ..) ?_;rfl)
  (ks.map V.str).length 0 [some (sh P),some (.int k),some (.str h),some (dl P k),a4,a5,a6,some (.ref pl)] σ (zo _) ⟨⟨_,_,rfl⟩,hpl,fun _ _ _ e=>e⟩
 rw [show ks.take (ks.map V.str).length=ks by rw [zb,zu]] at d9
 exact K ⟨σ9,q1,q2,h9,d9,k9⟩
end
end Mine.L13
namespace Mine.L13
open PySem Mine Mine.P
section
variable {ns:List Int}{C:Calls}{ρ:Env}{σ σ' σ₁ σ₂ σ₃ σ₄:H}{G:Fz}{S:St}{P:Pl}{k c:Nat}
theorem under_over (hm:C.mlook=mlookOf T0) (h31:NeedO C) (I:Inv G S P σ) (hk:k < S.n) (ho:(S.d k).st≠0) {x:V}:evF ns C f46_Shelf_under [sh P,.int k,x] σ=.exc 2 σ :=
 f_exc (fn:=f46_Shelf_under) rfl (s_assignX (over h31 hm I hk ho rfl rfl))
noncomputable def Dl.un (D:Dl) (h:List Nat) (v:V):Dl:={ D with heads:=addN D.heads h,said:=D.said++[v] }
theorem sunder_ok (hm:C.mlook=mlookOf T0) (h31:NeedO C) (h2:Head C) (h5:IsU C) (h34:SeenBy C) (I:Inv G S P σ) (hh:∀ x,x∉S.names->S.hist x=[]) (hk:k < S.n) (ho:(S.d k).st=0) (hz:S.names.length + (S.d k).ws.length<=1000) (hs:(S.d k).said.length<=1000) (hhz:(S.d k).heads.length<=1000) {x:List Nat} (hx:x.length<=12) (hb:(x.all fun c=>signs.contains c)=true) :
  ∃ σ' v l nn,evF ns C f46_Shelf_under [sh P,.int k,.str x] σ=.ok v σ'/\σ'[l]?=some (.list (pV (und (sb (S.d k).ws (S.base k)) x (sort lexLe nn))))/\σ.length<=l/\nn.Nodup/\nn.length<=1000/\(∀ y,y∈nn↔y∈S.names∨y∈pN (S.d k).ws)/\Inv G (S.setD k ((S.d k).un x (.tup [.str [117,110,100,101,114],.str x,.ref l]))) P σ':=by
 refine cps fun G' K=>?_
 have hz1:S.names.length<=1000:=za (zp _ _) hz
 have hwz:(S.d k).ws.length<=1000:=za (vc _ _) hz
 obtain ⟨σ1,e1,g1⟩:=h2 x σ hx
 replace e1:=hb▸e1
 have I1:=I.gr g1
 let σ2:=σ1++[O.dict (tV [])]
 let σ3:=σ2++[O.list (S.names.map V.str)]
 have I2:=I1.gr (Gr.app σ1 [O.dict (tV [])])
 have I3:Inv G S P σ3:=I2.gr (Gr.app σ2 _)
 have f:Fr G S P σ1.length:=I1.fr (ze _)
 have l2:σ2.length=σ1.length + 1:=len_one _ _
 refine ex2 (known_loop (ns:=ns) (C:=C) (l:=σ2.length) (kd:=σ1.length) (xs:=S.names.map V.str) (L:=[]) (nx:=S.names) (tgt:=tgtN 5) (Q:=fun ρ=>∃ o,ρ=[some (sh P),some (.int k),some (.str x),some (dl P k),some (.ref σ1.length),o,.none,.none]) (l2▸fj _) (at_new σ2 _) ((Gr.app σ2 _).at (at_new σ1 _)) (zb ..) (fun i hi v hv ρ q=>by
   replace hv:=(zf hi ..)▸(zv ..)▸hv
   cases hv
   obtain ⟨o,rfl⟩:=q
   exact ⟨_,rfl,⟨_,rfl⟩,rfl,rfl⟩) (by refine gw (zb ..) ?_;exact (zo _).symm▸hz1) ⟨.none,rfl⟩) fun ρ4 σ4 q_h=>?_;refine an4 q_h fun h4 q_3 d4 k4=>?_;obtain ⟨o4,rfl⟩:=q_3
 have I4:=I3.but f k4
 let nn:=addNs (addNs [] S.names) (pN (S.d k).ws)
 have hw4:σ4[P.at_ (.d 1 k)]?=some (.list (wV (S.d k).ws)):=I4.d 1 (by decide) hk
 have ln:(addNs [] S.names).length<=S.names.length:=za (addNs_len _ []) (ya (zo _))
 refine ex2 (known_loop (ns:=ns) (C:=C) (l:=P.at_ (.d 1 k)) (kd:=σ1.length) (xs:=wV (S.d k).ws) (L:=addNs [] S.names) (nx:=pN (S.d k).ws) (tgt:=tgtP 5 6) (Q:=fun ρ=>∃ o o',ρ=[some (sh P),some (.int k),some (.str x),some (dl P k),some (.ref σ1.length),o,o',.none]) (f.ne (.d 1 k) ⟨by decide,hk⟩) hw4 d4 ((wV_len _).trans (zb ..).symm) (fun i hi v hv ρ q=>by
   have hi':i < (S.d k).ws.length:=by rw [pN,zb] at hi;exact hi
   replace hv:=(wV_at hi' ..)▸hv
   cases hv
   refine ex2 (q) fun o o' q_2=>?_;obtain rfl:=q_2
   exact ⟨_,rfl,⟨_,_,rfl⟩,rfl,congrArg (fun z=>some (some (V.str z))) (List.getElem_map (fun p:List Nat×Option Int=>p.1) (l:=(S.d k).ws) (h:=hi)).symm⟩) (by refine gw (wV_len ..) ?_;exact za (yz ln _) hz) ⟨o4,.none,rfl⟩) fun ρ5 σ5 q_h=>?_;refine an4 q_h fun h5' q_3 d5 k5=>?_;obtain ⟨o5,o6,rfl⟩:=q_3
 have I5:=I4.but f k5
 have nnz:nn.length<=1000:=za (addNs_len _ _) (za (xc ln (ya (zb ..))) hz)
 let σ6:=σ5++[O.list []]
 let σ7:=σ6++[O.list (nn.map V.str)]
 let ks:=sort lexLe nn
 have nnd:nn.Nodup:=addNs_nodup _ (addNs_nodup _ vp)
 have K:∀ σ' v l,evF ns C f46_Shelf_under [sh P,.int k,.str x] σ=.ok v σ'->σ'[l]?=some (.list (pV (und (sb (S.d k).ws (S.base k)) x ks)))->σ.length<=l->Inv G (S.setD k ((S.d k).un x (.tup [.str [117,110,100,101,114],.str x,.ref l]))) P σ'->G':=fun σ' v l a b c e=>K ⟨σ',v,l,nn,a,b,c,nnd,nnz,fun y=>by
  show y∈addNs (addNs [] S.names) _↔_
  refine iw (mem_addNs ..) (iw (mem_addNs ..) ?_)
  exact ⟨fun q=>q.imp (fun q=>q.resolve_left z0) id,fun q=>q.imp .inr id⟩,e⟩
 let σ8:=σ7++[O.list (ks.map V.str)]
 have I8:Inv G S P σ8:=((I5.gr (Gr.app σ5 _)).gr (Gr.app σ6 _)).gr (Gr.app σ7 _)
 have fp:Fr G S P σ5.length:=I5.fr (ze _)
 have l6:σ6.length=σ5.length + 1:=len_one _ _
 have l7:σ7.length=σ5.length + 2:=by show (_++[_]).length=_;exact gw (len_one ..) (gw l6 rfl)
 have hks:ks.length<=1000:=by show (sort _ _).length<=_;refine gw (sort_len ..) ?_;exact nnz
 refine ex3 (pairs_loop (ns:=ns) (h:=x) (l:=σ7.length) (pl:=σ5.length) (ks:=ks) (a4:=some (.ref σ1.length)) (a5:=o5) (a6:=o6) hm h5 h34 I8 hh hk hwz (at_new σ7 _) (((Gr.app σ6 _).tr (Gr.app σ7 _)).at (at_new σ5 _)) fp (l7▸xt (jg (by decide))) (za hks (by decide))) fun σ9 q1 q2 q_h=>?_;refine an3 q_h fun h9 d9 k9=>?_
 have I9:=I8.but fp k9
 have hps:(und (sb (S.d k).ws (S.base k)) x ks).length<=1000:=za (und_le _ _ _) hks
 generalize und (sb (S.d k).ws (S.base k)) x ks=ps at d9 hps K
 have np:=(fp.ne (.d 4 k) ⟨by decide,hk⟩).symm
 have hl:=dput_len x (.bool true) (tV (S.d k).heads)
 have hl':(tV (S.d k).heads).length=(S.d k).heads.length:=by unfold tV;exact gw (zb ..) rfl
 have IA:Inv G (S.setD k { S.d k with heads:=addN (S.d k).heads x }) P (σ9.set (P.at_ (.d 4 k)) (.dict (dput (tV (S.d k).heads) x (.bool true)))):=I9.storeD (j:=4) (k:=k) ⟨(by decide:4 < 5),hk⟩ (fun i hi h5=>renD_ne (q:=4) hi h5 (.inr ⟨rfl,rfl,rfl⟩) (.inr rfl) (.inr rfl) (.inr rfl) (.inl rfl)) (congrArg O.dict (dput_tV x _))
 have ap:=set_off (O.dict (dput (tV (S.d k).heads) x (.bool true))) np d9
 generalize hσA:σ9.set (P.at_ (.d 4 k)) (.dict (dput (tV (S.d k).heads) x (.bool true)))=σA at IA ap
 have qA:setV (.ref (P.at_ (.d 4 k))) (.str x) (.bool true) σ9=.ok .none σA:=(setD (I9.d 4 (by decide) hk) (lmx hl (hl'▸za hhz (by decide)))).trans (congrArg (R.ok V.none) hσA)
 have IB:=IA.gr (Gr.app σA [O.list (pV ps)])
 have eD:(S.setD k { S.d k with heads:=addN (S.d k).heads x }).d k={ S.d k with heads:=addN (S.d k).heads x }:=S.setD_at k _
 have hk':k < (S.setD k { S.d k with heads:=addN (S.d k).heads x }).n:=hk
 have a2:=IA.d 2 (by decide) hk'
 have a2':=IB.d 2 (by decide) hk'
 have IC:=IB.said hk' (.tup [.str [117,110,100,101,114],.str x,.ref σA.length])
 rw [eD] at a2 a2' IC
 replace IC:=(St.setD_setD ..)▸IC
 have b1:evSs ns C [some (sh P),some (.int k),some (.str x),some (dl P k),some (.ref σ1.length),q1,q2,some (.ref σ5.length)] σ9 (f46_Shelf_under.body.drop 7)=.ok (.ret (.ref σ5.length)) _ _ :=
  s_set rfl (e_attr rfl (dl_heads I9 hk)) rfl qA (s_expr (e_me (e_attr rfl (dl_said IA hk')) (kL a2 rfl) (es_one (tup_ok (es_three rfl rfl (e_bi rfl (listL ap (by refine gw (pV_len ..) ?_;exact hps)))) rfl)) (appL a2' (lm1 (n:=(S.d k).said.length) (za hs (by decide))))) (s_ret rfl))
 have e7:biV ns .list (.ref σ1.length) σ6=.ok (.ref σ6.length) σ7:=(listD (P:=tV nn) ((Gr.app σ5 _).at d5) (by unfold tV;refine gw (zb ..) ?_;exact nnz)).trans (by exact gw (keys_tV ..) rfl)
 have b2:=s_forN (r:=f46_Shelf_under.body.drop 7) (k:=5) (ρ:=[some (sh P),some (.int k),some (.str x),some (dl P k),some (.ref σ1.length),o5,o6,some (.ref σ5.length)]) (src_of (e_bi (e_bi (ns:=ns) (C:=C) (ρ:=[some (sh P),some (.int k),some (.str x),some (dl P k),some (.ref σ1.length),o5,o6,some (.ref σ5.length)]) (a:=.var 4) rfl e7) (sortL (by unfold itemsV;dsimp only;exact gw (at_new σ6 _ ..) rfl) nnz nnd)) (at_new σ7 _)) (after_next h9 b1)
 have ge5:σ.length<=σ5.length:=za g1.length_le (z9 (zc.mp d5).1)
 exact K _ (.ref σ5.length) σA.length (f_ret (fn:=f46_Shelf_under) rfl (s_assign (opened h31 hm I hk ho rfl rfl) rfl (s_ifF (e_not (e_call rfl e1) rfl) (s_assign rfl rfl (s_forN (src_of (e_bi (e_attr rfl (sh_stock I2)) ((listD (I2.b 1 (by decide)) (by refine gw (zb ..) ?_;exact hz1)).trans (by rw [keys_names fun x=>V.ref (P.at_ (.h x))]))) (at_new σ2 _)) (after_next h4 (s_forP (src_of (e_attr rfl (dl_ws I4 hk)) hw4) (after_next h5' (s_assign (e_list rfl (z7 _)) rfl b2))))))))) (set_off _ (xt (IA.lt (c:=.d 2 k) ⟨by decide,hk⟩)) (at_new σA _)) (za ge5 (z9 (zc.mp ap).1)) IC
end
end Mine.L13
namespace Mine.L13
open PySem Mine Mine.P
section
variable {ns:List Int}{C:Calls}{ρ:Env}{σ σ' σ₁ σ₂ σ₃ σ₄:H}{G:Fz}{S:St}{P:Pl}{k:Nat}
theorem wV_take (ws:Ws) (m:Nat):cut (wV ws) .none (some (m:Int))=wV (ws.take m):=by
 refine gw (cut_take _ (z8 m) ..) (gw (xb ..) ?_)
 unfold wV;exact gw (zat ..) rfl
theorem len_ws (I:Inv G S P σ) (hk:k < S.n):biV ns .len (.ref (P.at_ (.d 1 k))) σ=.ok (.int (S.d k).ws.length) σ:=(lenL (xs:=wV (S.d k).ws) (I.d 1 (by decide) hk)).trans (by exact gw (wV_len ..) rfl)
theorem made_ok (hm:C.mlook=mlookOf T0) (h31:NeedO C) (I:Inv G S P σ) (hk:k < S.n) (ho:(S.d k).st=0):evF ns C f48_Shelf_made [sh P,.int k] σ=.ok (.int (S.d k).ws.length) σ :=
 f_ret (fn:=f48_Shelf_made) rfl (s_ret (e_bi (e_attr (opened h31 hm I hk ho rfl rfl) (dl_ws I hk)) (len_ws I hk)))
theorem made_over (hm:C.mlook=mlookOf T0) (h31:NeedO C) (I:Inv G S P σ) (hk:k < S.n) (ho:(S.d k).st≠0):evF ns C f48_Shelf_made [sh P,.int k] σ=.exc 2 σ :=
 f_exc (fn:=f48_Shelf_made) rfl (s_retX (bndx (bndx (over h31 hm I hk ho rfl rfl))))
theorem drop_over (hm:C.mlook=mlookOf T0) (h31:NeedO C) (I:Inv G S P σ) (hk:k < S.n) (ho:(S.d k).st≠0):evF ns C f53_Shelf_drop [sh P,.int k] σ=.exc 2 σ :=
 f_exc (fn:=f53_Shelf_drop) rfl (s_assignX (over h31 hm I hk ho rfl rfl))
theorem drop_ok (hm:C.mlook=mlookOf T0) (h31:NeedO C) (I:Inv G S P σ) (hk:k < S.n) (ho:(S.d k).st=0):∃ σ',evF ns C f53_Shelf_drop [sh P,.int k] σ=.ok .none σ'/\Inv G (S.setD k { S.d k with st:=1 }) P σ' :=
 ⟨_,f_next (fn:=f53_Shelf_drop) rfl (s_assign (opened h31 hm I hk ho rfl rfl) rfl (s_seta rfl rfl (setaI (kvs:=dlE (S.d k) (P.at_ (.d 1 k)) (P.at_ (.d 2 k)) (P.at_ (.d 3 k)) (P.at_ (.d 4 k))) (I.d 0 (by decide) hk) (by show 7<=lim;decide)) ss_nil)),
  I.storeD (j:=0) (k:=k) (D:={ S.d k with st:=1 }) (o:=.dict (dlE { S.d k with st:=1 } (P.at_ (.d 1 k)) (P.at_ (.d 2 k)) (P.at_ (.d 3 k)) (P.at_ (.d 4 k)))) ⟨(by decide:0 < 5),hk⟩ (fun i hi h5=>renD_ne (q:=0) hi h5 (.inl rfl) (.inr rfl) (.inr rfl) (.inr rfl) (.inr rfl)) rfl⟩
theorem order_ok (I:Inv G S P σ) (hz:S.row.length<=1000):evF ns C f54_Shelf_order [sh P] σ=.ok (.ref σ.length) (σ++[.list (iV S.row)]) :=
 f_ret (fn:=f54_Shelf_order) rfl (s_ret (e_bi (e_attr rfl (sh_row I)) (listL (I.b 3 (by decide)) (by rw [iV_len];exact hz))))
noncomputable def Dl.bk (D:Dl) (m:Nat) (v:V):Dl:={ D with ws:=D.ws.take m,said:=D.said++[v] }
theorem back_ok (hm:C.mlook=mlookOf T0) (h31:NeedO C) (h1:∀ i σ,C.call 1 [.int i] σ=.ok (.bool true) σ) (I:Inv G S P σ) (hk:k < S.n) (ho:(S.d k).st=0) (hz:(S.d k).ws.length<=1000) (hs:(S.d k).said.length<=1000) {m:Nat} (hi:m<=(S.d k).ws.length) :
  ∃ P' σ',evF ns C f49_Shelf_back [sh P,.int k,.int m] σ=.ok .none σ'/\P.Sim P'/\Inv G (S.setD k ((S.d k).bk m (.tup [.str [98,97,99,107],.int m]))) P' σ':=by
 refine cps fun G' K=>?_
 let P':=P.grow σ.length k 1 1
 let D1:Dl:={ S.d k with ws:=(S.d k).ws.take m }
 have eD:(S.setD k D1).d k=D1:=S.setD_at k D1
 have I1:Inv G (S.setD k D1) P' ((σ++[O.list (wV ((S.d k).ws.take m))]).set (P.at_ (.d 0 k)) (O.dict (dlE (S.d k) σ.length (P.at_ (.d 2 k)) (P.at_ (.d 3 k)) (P.at_ (.d 4 k))))):=by
  refine I.grow (S':=S.setD k D1) (Gr.app σ _) ⟨(by decide:0 < 5),hk⟩ (fun j h _=>by intro q;injection q with q;exact absurd (q▸h) (by decide)) (fun j h h'=>?_) (fun c lc hc=>?_) ?_
  ·obtain rfl:j=1:=vd (z4 h') h
   show (σ++[_])[σ.length + (1 - 1)]?=some (renD ((S.setD k D1).d k) P' k 1)
   refine gw eD ?_
   exact at_new σ _
  ·cases c with
   | b j=>exact ⟨lc,fun q=>renB_eq (S:=S) (P:=P) (P':=P') (fun _=>rfl) (fun k' _=>grow_off (.inr (.inl (by decide)))) (fun _ _=>rfl) j⟩
   | h x=>exact ⟨lc,fun _=>rfl⟩
   | d j k' =>
    refine ⟨lc,fun q=>?_⟩
    show renD ((S.setD k D1).d k') P' k' j=renD (S.d k') P k' j
    by_cases e:k'=k
    ·subst e
     refine gw eD ?_
     have h0:j≠0:=fun e=>q (by exact gw e rfl)
     have h1:j≠1:=fun e=>hc 1 (by decide) (by decide) (by exact gw e rfl)
     exact (renD_eq (fun e=>absurd e h0)).trans (renD_ne (q:=1) h1 lc.1 (.inr ⟨rfl,rfl,rfl⟩) (.inl rfl) (.inr rfl) (.inr rfl) (.inr rfl))
    ·refine gw (S.setD_ne D1 e ..) ?_
     exact renD_eq (fun _ i _ _=>grow_off (.inl e))
  ·show _=renD ((S.setD k D1).d k) P' k 0
   refine gw eD ?_
   show _=O.dict (dlE D1 (P'.at_ (.d 1 k)) (P'.at_ (.d 2 k)) (P'.at_ (.d 3 k)) (P'.at_ (.d 4 k)))
   refine gw (grow_on (by decide) (by decide) ..) (gw (grow_off (.inr (.inr (by decide))) ..) (gw (grow_off (.inr (.inr (by decide))) ..) (gw (grow_off (.inr (.inr (by decide))) ..) ?_)))
   rfl
 have e0:P'.at_ (.d 0 k)=P.at_ (.d 0 k):=grow_off (.inr (.inl (by decide)))
 have hk':k < (S.setD k D1).n:=hk
 have hsd:=I1.d 2 (by decide) hk'
 have I2:=I1.said hk' (.tup [.str [98,97,99,107],.int m])
 rw [eD] at hsd I2
 replace I2:=(St.setD_setD ..)▸I2
 have hdl:=dl_said I1 hk'
 rw [show dl P' k=dl P k by show V.inst 0 (P'.at_ _)=_;rw [e0]] at hdl
 refine K ⟨P',_,f_next (fn:=f49_Shelf_back) rfl (s_assign (opened h31 hm I hk ho rfl rfl) rfl (s_ifF (orF (e_not (e_call rfl (h1 m σ)) rfl) (or1 (e_not (e_cmp2T rfl rfl (le_t (z8 m)) (e_bi (e_attr rfl (dl_ws I hk)) (len_ws I hk)) (le_t (yw.mpr hi))) rfl))) (s_seta (e_slice (e_attr rfl (dl_ws I hk)) rfl rfl ((slL (lo:=.none) (hi:=some (m:Int)) (I.d 1 (by decide) hk) rfl rfl ?_).trans (by exact gw (wV_take ..) rfl))) rfl (setaI ((Gr.app σ _).at (I.d 0 (by decide) hk)) ?_) (s_expr (e_me (e_attr rfl hdl) (kL hsd rfl) (es_one (tup_ok rfl rfl)) (appL hsd ?_)) ss_nil)))),rfl,I2⟩
 ·refine gw (wV_len ..) ?_;exact lm hz
 ·show 7<=lim;decide
 ·exact lm1 (za hs (by decide))
end
end Mine.L13
namespace Mine.L13
open PySem Mine Mine.P
noncomputable def upd (M:Fz) (a:Nat) (o:O):Fz:=fun i=>if i=a then some o else M i
theorem upd_at (M:Fz) (a:Nat) (o:O):upd M a o a=some o:=if_pos rfl
theorem upd_ne (M:Fz) {a i:Nat} (o:O) (h:i≠a):upd M a o i=M i:=if_neg h
section
variable {ns:List Int}{C:Calls}{ρ:Env}{σ σ':H}{M:Fz}{S:St}{P:Pl}{a k:Nat}{o x:O}
theorem Inv.at (I:Inv M S P σ) (h:M a=some o):σ[a]?=some o:=(I.fz a o h).1
theorem Inv.upd (I:Inv M S P σ) (h:M a=some x) (o:O):Inv (upd M a o) S P (σ.set a o):=by
 obtain ⟨h1,h2⟩:=I.fz a x h
 refine ⟨fun c l=>⟨set_off _ (h2 c l) (I.c c l).1,(I.c c l).2⟩,fun i y e=>?_⟩
 by_cases q:i=a
 ·replace e:=(upd_at ..)▸q▸e
  refine gw q ?_
  cases e
  exact ⟨set_on h1 _,h2⟩
 ·replace e:=(upd_ne M o q ..)▸e
  exact ⟨set_off _ q (I.fz i y e).1,(I.fz i y e).2⟩
theorem Inv.add (I:Inv M S P σ) (f:Fr M S P a) (h:σ[a]?=some o):Inv (Mine.L13.upd M a o) S P σ:=by
 refine ⟨I.c,fun i y e=>?_⟩
 by_cases q:i=a
 ·replace e:=(upd_at ..)▸q▸e
  refine gw q ?_
  cases e
  exact ⟨h,f.ne⟩
 ·replace e:=(upd_ne M o q ..)▸e
  exact I.fz i y e
theorem Inv.new (I:Inv M S P σ) (o:O):Inv (Mine.L13.upd M σ.length o) S P (σ++[o]):=(I.gr (Gr.app σ _)).add (I.fr (ze _)) (at_new σ o)
theorem isL {l:Nat}{xs:List V} (hl:σ[l]?=some (.list xs)):isiV .list (.ref l) σ=.ok (.bool true) σ:=by
 show onL l (fun _=>M.ret (V.bool true)) σ=_
 unfold onL;refine gw (listAt_of hl ..) ?_;rfl
theorem pV_at {ps:Ps}{i:Nat} (h:i < ps.length):(pV ps)[i]?=some (.tup [.str ps[i].1,.int ps[i].2]):=by
 unfold pV;refine gw (zv ..) (gw (zf h ..) ?_);rfl
noncomputable abbrev Same (C:Calls):Prop:=∀ s t σ,C.call 25 [val s,val t] σ=.ok (.bool (decide (s=t))) σ
theorem pne {p q:List Nat×Int}{ps qs:Ps}{i:Nat} (h1:ps[i]?=some p) (h2:qs[i]?=some q) (h:p≠q):ps≠qs:=fun e=>h (Option.some.inj (h1.symm.trans ((congrArg (·[i]?) e).trans h2)))
theorem pairs_ok (h17:Same C) {a b:Nat}{ps qs:Ps} (ha:σ[a]?=some (.list (pV ps))) (hb:σ[b]?=some (.list (pV qs))) (hz:qs.length<=1000) :
  evF ns C f26_pairs [.ref a,.ref b] σ=.ok (.bool (decide (ps=qs))) σ:=by
 refine cps fun G' K=>?_
 have hc:=or2 (e_not (e_isi (ns:=ns) (C:=C) (ρ:=[some (.ref a),some (.ref b),.none]) (a:=.var 0) rfl (isL ha)) rfl) (e_cmp (e_bi (a:=.var 0) rfl ((lenL ha).trans (by exact gw (pV_len ..) rfl))) (e_bi (a:=.var 1) rfl ((lenL hb).trans (by exact gw (pV_len ..) rfl))) (neI _ _))
 by_cases hl:ps.length=qs.length
 ·have hs:=src_range (ns:=ns) (C:=C) (ρ:=[some (.ref a),some (.ref b),.none]) (e:=.bi .len (.var 1)) (k:=qs.length) (e_bi rfl ((lenL hb).trans (by exact gw (pV_len ..) rfl))) (nz _) (ns_ (za hz (by decide)))
  replace hs:=(xb ..)▸hs
  replace hc:=(decide_eq_true (v5.mpr hl) ..)▸hc
  have h2:=for_or (tgt:=tgtN 2) (body:=fun ρ σ=>evSs ns C ρ σ [.ite (.or [(.not (.isi (.idx (.var 0) (.var 2)) .tuple)),(.cmp .ne (.bi .len (.idx (.var 0) (.var 2))) (.lit (V.int 2))),(.not (.isi (.idx (.idx (.var 0) (.var 2)) (.lit (V.int 0))) .str))]) [.dead] [],
   .ite (.or [(.cmp .ne (.idx (.idx (.var 0) (.var 2)) (.lit (V.int 0))) (.idx (.idx (.var 1) (.var 2)) (.lit (V.int 0)))),(.not (.call 25 [(.idx (.idx (.var 0) (.var 2)) (.lit (V.int 1))),(.idx (.idx (.var 1) (.var 2)) (.lit (V.int 1)))]))]) [.ret (.lit (V.bool false))] []]) (it:=fun i=>.range i qs.length)
   (fun i ρ σ'=>(∃ o:Option V,ρ=[some (.ref a),some (.ref b),o])/\σ'=σ/\ps.take i=qs.take i) (fun R=>∃ ρ',R=.ok (.ret (.bool false)) ρ' σ/\ps≠qs) qs.length (fun _ _ _=>stop_range)
   (fun i ρ σ' hi p=>by
    refine an3 (p) fun q_0 q_1 e=>?_;obtain ⟨o,rfl⟩:=q_0;obtain rfl:=q_1
    have hi':i < ps.length:=hl▸hi
    have x0:Ev ns C [some (.ref a),some (.ref b),some (.int i)] (.idx (.var 0) (.var 2)) σ' (.tup [.str ps[i].1,.int ps[i].2]) σ':=e_idx rfl rfl (idxL ha (z8 i) (pV_at hi'))
    have x1:Ev ns C [some (.ref a),some (.ref b),some (.int i)] (.idx (.var 1) (.var 2)) σ' (.tup [.str qs[i].1,.int qs[i].2]) σ':=e_idx rfl rfl (idxL hb (z8 i) (pV_at hi))
    have c1:Ev ns C [some (.ref a),some (.ref b),some (.int i)] (.or [(.not (.isi (.idx (.var 0) (.var 2)) .tuple)),(.cmp .ne (.bi .len (.idx (.var 0) (.var 2))) (.lit (V.int 2))),(.not (.isi (.idx (.idx (.var 0) (.var 2)) (.lit (V.int 0))) .str))]) σ' (.bool false) σ':=orF (e_not (e_isi x0 rfl) rfl) (orF (e_cmp (e_bi x0 rfl) rfl rfl) (or1 (e_not (e_isi (e_idx x0 rfl rfl) rfl) rfl)))
    have c2:Ev ns C [some (.ref a),some (.ref b),some (.int i)] (.or [(.cmp .ne (.idx (.idx (.var 0) (.var 2)) (.lit (V.int 0))) (.idx (.idx (.var 1) (.var 2)) (.lit (V.int 0)))),(.not (.call 25 [(.idx (.idx (.var 0) (.var 2)) (.lit (V.int 1))),(.idx (.idx (.var 1) (.var 2)) (.lit (V.int 1)))]))]) σ' (.bool (!decide (ps[i].1=qs[i].1) || !decide (some ps[i].2=some qs[i].2))) σ':=or2 (e_cmp (e_idx x0 rfl rfl) (e_idx x1 rfl rfl) (neS _ _)) (e_not (e_call (es_two (e_idx x0 rfl rfl) (e_idx x1 rfl rfl)) (h17 (some ps[i].2) (some qs[i].2) σ')) rfl)
    refine ⟨_,_,next_range hi,rfl,?_⟩
    by_cases q:ps[i]=qs[i]
    ·replace c2:=(decide_eq_true (congrArg (fun z:List Nat×Int=>some z.2) q))▸(decide_eq_true (congrArg Prod.fst q) ..)▸c2
     exact .inl ⟨_,_,s_ifF c1 (s_ifF c2 ss_nil),⟨_,rfl⟩,rfl,by exact gw (take_at ps hi' ..) (gw (take_at qs hi ..) (gw e (gw q rfl)))⟩
    ·refine .inr ⟨_,s_ifF c1 (s_ifT (c2.trans ?_) (after_end (s_ret rfl))),fun _=>rfl,_,rfl,pne (zf hi') (zf hi) q⟩
     by_cases q1:ps[i].1=qs[i].1
     ·refine gw (decide_eq_true q1 ..) (gw (decide_eq_false (fun z=>q (Prod.ext q1 (Option.some.inj z)))) ?_);rfl
     ·refine gw (decide_eq_false q1 ..) ?_;rfl)
   qs.length 0 [some (.ref a),some (.ref b),.none] σ (zo _) ⟨⟨_,rfl⟩,rfl,rfl⟩
  rcases h2 with ⟨ρ',σ',h,⟨o,rfl⟩,rfl,e⟩ | ⟨ρ',h,e⟩
  ·replace e:=(zu ..)▸hl▸(zu ..)▸e
   replace K:=(decide_eq_true e ..)▸K
   exact K (f_ret (fn:=f26_pairs) rfl (s_ifF hc (s_forN hs (after_next h (s_ret rfl)))))
  ·replace K:=(decide_eq_false e ..)▸K
   exact K (f_ret (fn:=f26_pairs) rfl (s_ifF hc (s_forN hs (after_end h))))
 ·replace hc:=(decide_eq_false (fun q=>hl (v5.mp q)))▸hc
  replace K:=(decide_eq_false (fun q=>hl (congrArg ki q)))▸K
  exact K (f_ret (fn:=f26_pairs) rfl (s_ifT hc (after_end (s_ret rfl))))
end
end Mine.L13
namespace Mine.L13
open PySem Mine Mine.P
inductive Dd where
 | rd (x:List Nat) (t:Option Int) | wr (x:List Nat) (t:Option Int) | bk (m:Nat) | un (h:List Nat) (ps:Ps)
noncomputable def dV (p:Dd×Nat):V:=match p.1 with
 | .rd x t=>.tup [.str [114,101,97,100],.str x,val t]
 | .wr x t=>.tup [.str [119,114,105,116,101],.str x,val t]
 | .bk m=>.tup [.str [98,97,99,107],.int m]
 | .un h _=>.tup [.str [117,110,100,101,114],.str h,.ref p.2]
noncomputable def dVs (qs:List (Dd×Nat)):List V:=qs.map dV
noncomputable def okD (M:Fz) (p:Dd×Nat):Prop:=match p.1 with
 | .un _ ps=>M p.2=some (.list (pV ps))/\ps.length<=1000
 | _=>True
theorem okD.mono {M M':Fz}{p:Dd×Nat} (h:okD M p) (k:∀ o,M p.2=some o->M' p.2=some o):okD M' p:=by
 obtain ⟨d,l⟩:=p
 cases d with
 | un h' ps=>exact ⟨k _ h.1,h.2⟩
 | _=>trivial
noncomputable def of (σ:H):Fz:=fun i=>σ[i]?
theorem dVs_len (qs:List (Dd×Nat)):(dVs qs).length=qs.length:=zb ..
theorem dVs_at {qs:List (Dd×Nat)}{i:Nat} (h:i < qs.length):(dVs qs)[i]?=some (dV qs[i]):=by unfold dVs;refine gw (zv ..) (gw (zf h ..) ?_);rfl
theorem und_eq {f:List Nat->Option Int}{h:List Nat}{ks ks':List (List Nat)} (h1:ks.Nodup) (h2:ks'.Nodup) (c1:∀ n,pre h n=true->f n≠.none->n∈ks) (c2:∀ n,pre h n=true->f n≠.none->n∈ks'):und f h (sort lexLe ks)=und f h (sort lexLe ks'):=by
 unfold und
 have fm:∀ l:List (List Nat),l.filterMap (und1 f h)=(l.filter fun n=>(und1 f h n).isSome).filterMap (und1 f h):=fun l=>by
  refine gw (zaf ..) ?_
  refine congrArg (fun g=>l.filterMap g) (funext fun n=>?_)
  cases und1 f h n <;> rfl
 have pm:=sort_perm
 rw [fm,fm (sort lexLe ks')]
 congr 1
 have nd:∀ {l:List (List Nat)},l.Nodup->((sort lexLe l).filter fun n=>(und1 f h n).isSome).Nodup:=fun h=>((pm _).nodup_iff.mpr h).filter _
 refine up_eq ((List.perm_ext_iff_of_nodup (nd h1) (nd h2)).mpr fun n=>?_) ((sort_up ks).filter _) ((sort_up ks').filter _)
 rw [xw,xw,(pm ks).mem_iff,(pm ks').mem_iff]
 refine and_congr_left fun q=>?_
 unfold und1 at q
 split at q
 ·rename_i w
  have:f n≠.none:=fun e=>by replace q:=e▸q;cases q
  exact ⟨fun _=>c2 n w this,fun _=>c1 n w this⟩
 ·cases q
theorem und_congr {f f':List Nat->Option Int}{h:List Nat} (e:∀ n,pre h n=true->f n=f' n) (ks:List (List Nat)):und f h ks=und f' h ks:=by
 unfold und
 refine congrArg (fun g=>ks.filterMap g) (funext fun n=>?_)
 unfold und1
 split
 ·rename_i q;exact gw (e n q ..) rfl
 ·rfl
noncomputable def stp (ws:Ws):Dd->Ws
 | .wr x t=>ws++[(x,t)]
 | .bk m=>ws.take m
 | _=>ws
noncomputable def wss (ds:List Dd):Ws:=ds.foldl stp []
noncomputable def Rt (f:List Nat->Option Int) (L:List Nat->Prop) (ws:Ws):Dd->Prop
 | .rd x t=>t=sb ws f x/\(lw ws x=.none->L x)
 | .un h ps=>(∀ n,pre h n=true->L n)/\∃ nn:List (List Nat),nn.Nodup/\(∀ n,pre h n=true->sb ws f n≠.none->n∈nn)/\ps=und (sb ws f) h (sort lexLe nn)
 | _=>True
structure Lg (f:List Nat->Option Int) (L:List Nat->Prop) (ds:List Dd) (ws:Ws):Prop where
 ws:ws=wss ds
 ok:∀ i d,ds[i]?=some d->Rt f L (wss (ds.take i)) d
section
variable {f f':List Nat->Option Int}{L L':List Nat->Prop}{ds:List Dd}{ws:Ws}{d:Dd}
theorem Rt.mono (h:Rt f L ws d) (l:∀ n,L n->L' n):Rt f L' ws d:=by
 cases d with
 | rd x t=>exact ⟨h.1,fun q=>l x (h.2 q)⟩
 | un x ps=>exact ⟨fun n q=>l n (h.1 n q),h.2⟩
 | _=>trivial
theorem sb_ext {n:List Nat} (h:lw ws n=.none->f n=f' n):sb ws f n=sb ws f' n:=by
 unfold sb
 cases e:lw ws n with
 | none=>exact h e
 | some t=>rfl
theorem Rt.ext (h:Rt f L ws d) (e:∀ n,L n->f n=f' n):Rt f' L ws d:=by
 cases d with
 | rd x t=>exact ⟨h.1.trans (sb_ext fun q=>e x (h.2 q)),h.2⟩
 | un x ps =>
  have s:∀ n,pre x n=true->sb ws f n=sb ws f' n:=fun n q=>sb_ext fun _=>e n (h.1 n q)
  obtain ⟨h1,nn,h2,h3,h4⟩:=h
  exact ⟨h1,nn,h2,fun n q w=>h3 n q (s n q▸w),h4.trans (und_congr s _)⟩
 | _=>trivial
theorem Lg.ext (h:Lg f L ds ws) (e:∀ n,L n->f n=f' n):Lg f' L ds ws:=⟨h.ws,fun i d q=>(h.ok i d q).ext e⟩
theorem wss_snoc (ds:List Dd) (d:Dd):wss (ds++[d])=stp (wss ds) d:=by unfold wss;refine gw (wy ..) ?_;rfl
theorem Lg.snoc (h:Lg f L ds ws) (l:∀ n,L n->L' n) (r:Rt f L' ws d):Lg f L' (ds++[d]) (stp ws d):=by
 refine ⟨by exact gw (wss_snoc ..) (gw (h.ws ..) rfl),fun i e q=>?_⟩
 by_cases hi:i < ds.length
 ·replace q:=(y7 hi ..)▸q
  refine gw (List.take_append_of_le_length (z9 hi) ..) ?_
  exact (h.ok i e q).mono l
 ·have hl:=(zc.mp q).1
  replace hl:=(len_one ..)▸hl
  obtain rfl:i=ds.length:=vd (z4 hl) (yc.mp hi)
  replace q:=(xv ..)▸(zw (ze _) ..)▸q
  cases q
  rw [fy,← h.ws]
  ·exact r
  ·rfl
theorem Lg.nil:Lg f L [] []:=⟨rfl,fun i d q=>nomatch q⟩
end
end Mine.L13
namespace Mine.L13
open PySem Mine Mine.P
theorem not_key {n:List Nat}{d:Kv} (h:n∉keysOf d):dget d n=.none:=by
 cases e:dget d n with
 | none=>rfl
 | some v=>exact absurd ((mem_keys n d).mpr (by refine gw e ?_;rfl)) h
theorem dputs_get (n:List Nat):∀ (qs d:Kv),(keysOf qs).Nodup->dget (dputs d qs) n=(dget qs n).or (dget d n):=by
 intro qs
 induction qs with
 | nil=>intro _ _;rfl
 | cons p r ih =>
  obtain ⟨a,x⟩:=p
  intro d h
  obtain ⟨h1,h2⟩:=xg.mp h
  show dget (dputs (dput d a x) r) n=(if a=n then some x else dget r n).or (dget d n)
  refine gw (ih _ h2 ..) (gw (dget_dput ..) ?_)
  by_cases e:a=n
  ·refine gw (if_pos e ..) (gw (if_pos e ..) (gw (not_key (e▸h1) ..) ?_));rfl
  ·exact gw (if_neg e ..) (gw (if_neg e ..) rfl)
theorem dputs_nodup:∀ (qs d:Kv),(keysOf d).Nodup->(keysOf (dputs d qs)).Nodup:=by
 intro qs
 induction qs with
 | nil=>intro _ h;exact h
 | cons p r ih=>intro d h;exact ih _ (dput_nodup _ _ d h)
theorem dputs_len:∀ (qs d:Kv),(dputs d qs).length<=d.length + qs.length:=by
 intro qs
 induction qs with
 | nil=>intro _;exact ze _
 | cons p r ih=>intro d;exact za (ih (dput d p.1 p.2)) (za (yz (dput_len _ _ d) _) (ya (xq _ _)))
theorem dputs_keys {n:List Nat} (qs d:Kv) (hq:(keysOf qs).Nodup) (h:n∈keysOf (dputs d qs)):n∈keysOf qs∨n∈keysOf d:=by
 have h:=(mem_keys n _).mp h
 replace h:=(dputs_get n qs d hq ..)▸h
 cases e:dget qs n with
 | none=>replace h:=e▸h;exact .inr ((mem_keys n _).mpr h)
 | some v=>exact .inl ((mem_keys n _).mpr (by refine gw e ?_;rfl))
noncomputable def Vd (d:Kv) (f:List Nat->Option Int):Prop:=∀ n,get d n=val (f n)
theorem Vd.put {d:Kv}{f:List Nat->Option Int} (h:Vd d f) (ws:Ws):Vd (dputs d (put [] ws)) (sb ws f):=fun n=>by
 unfold get
 refine gw (dputs_get n _ _ (put_nodup _ [] vp) ..) (gw (put0 ..) ?_)
 unfold sb
 cases lw ws n with
 | none=>exact h n
 | some t=>rfl
theorem Vd.key {d:Kv}{f:List Nat->Option Int} (h:Vd d f) {n:List Nat} (q:f n≠.none):n∈keysOf d:=by
 refine Classical.byContradiction fun w=>q (val_inj ((h n).symm.trans ?_))
 unfold get
 refine gw (not_key w ..) ?_;rfl
theorem key_get {d:Kv}{n:List Nat} (h:n∈keysOf d):dget d n=some (get d n):=by
 have h:=(mem_keys n d).mp h
 unfold get
 cases e:dget d n with
 | none=>replace h:=e▸h;cases h
 | some v=>rfl
theorem cut_pre:∀ (h n:List Nat),decide (cut n .none (some h.length)=h)=pre h n:=by
 intro h n
 refine gw (cut_take _ (z8 _) ..) (gw (xb ..) ?_)
 induction h generalizing n with
 | nil=>refine gw (List.length_nil ..) (gw (gf ..) (gw (decide_eq_true rfl ..) ?_));rfl
 | cons a h ih =>
  cases n with
  | nil=>exact decide_eq_false fun q=>nomatch q
  | cons b n =>
   show decide (b::n.take h.length=a::h)=(a == b && pre h n)
   rw [← ih,jz,vq,beq_iff_eq,decide_eq_true_eq,decide_eq_true_eq,List.cons_eq_cons,eq_comm]
noncomputable def asP (f:List Nat->Option Int) (n:List Nat):Option (List Nat×Int):=(f n).map fun v=>(n,v)
theorem told_eq (f:List Nat->Option Int) (h:List Nat) (ks:List (List Nat)):(ks.filter (pre h)).filterMap (asP f)=und f h ks:=by
 refine gw (zaf ..) ?_;rfl
theorem take_filterMap {α β:Type} (f:α->Option β) (l:List α) {i:Nat} (h:i < l.length):(l.take (i + 1)).filterMap f=(l.take i).filterMap f++(f l[i]).toList:=by
 refine gw (take_at l h ..) (gw (zae ..) ?_)
 cases e:f l[i] with
 | none=>refine gw (fg e ..) ?_;rfl
 | some v=>refine gw (fh e ..) ?_;rfl
section
variable {ns:List Int}{C:Calls}{σ σ':H}
theorem dictD {l:Nat}{P:Kv} (hl:σ[l]?=some (.dict P)) (h:P.length<=lim):biV ns .dict (.ref l) σ=.ok (.ref σ.length) (σ++[.dict P]):=by
 show onD l newD σ=_
 refine gw (onD_ok hl ..) ?_
 unfold newD
 refine gw (if_pos h ..) ?_;rfl
theorem updD {l j:Nat}{kvs qs:Kv} (hl:σ[l]?=some (.dict kvs)) (hj:σ[j]?=some (.dict qs)) (hne:j≠l) (h:kvs.length + qs.length<=1000):meV (.ref l) .update [.ref j] σ=.ok .none (σ.set l (.dict (dputs kvs qs))):=by
 unfold meV;dsimp only;refine gw hl ?_
 show (if j=l then stuck else onD j fun qs=>if kvs.length + qs.length<=lim then putD l (dputs kvs qs) else stuck:M V) σ=_
 refine gw (if_neg hne ..) (gw (onD_ok hj ..) (gw (if_pos (lm h) ..) ?_))
 unfold putD
 exact gw (if_pos (lm (za (dputs_len _ _) h)) ..) rfl
theorem last_ok {l:Nat}{ws:Ws} (hl:σ[l]?=some (.list (wV ws))) (hz:ws.length<=1000):evF ns C f27_last [.ref l] σ=.ok (.ref σ.length) (σ++[.dict (put [] ws)]):=by
 obtain ⟨ρ',σ',h,o,rfl,rfl⟩:=for_all (tgt:=tgtN 2) (body:=fun ρ σ=>evSs ns C ρ σ [.setitem (.var 1) (.idx (.var 2) (.lit (V.int 0))) (.idx (.var 2) (.lit (V.int 1)))]) (it:=fun i=>.list l i)
  (fun i ρ σ'=>∃ o:Option V,ρ=[some (.ref l),some (.ref σ.length),o]/\σ'=σ++[.dict (put [] (ws.take i))]) (wV ws).length
  (fun ρ σ' p=>by obtain ⟨o,rfl,rfl⟩:=p;exact stop_list ((Gr.app σ _).at hl))
  (fun i ρ σ' hi p=>by
   obtain ⟨o,rfl,rfl⟩:=p
   have hi':i < ws.length:=by replace hi:=(wV_len ..)▸hi;exact hi
   have e:=put_snoc [] (ws.take i) ws[i]
   replace e:=(take_at ws hi' ..)▸e
   refine ⟨_,_,_,_,next_list ((Gr.app σ _).at hl) (wV_at hi'),rfl,s_set (e_idx rfl rfl rfl) rfl (e_idx rfl rfl rfl) (setD (at_new σ _) (by refine bw e ?_;exact lm (za (put_len _ []) (za (ya (zo _)) (za (yv _ _) hz))))) ss_nil,_,rfl,?_⟩
   exact gw (set_new ..) (bw e rfl))
  (wV ws).length 0 [some (.ref l),some (.ref σ.length),.none] (σ++[.dict []]) (zo _) ⟨_,rfl,rfl⟩
 replace h:=(zu ..)▸(wV_len ..)▸h
 exact f_ret (fn:=f27_last) (vs:=[.ref l]) rfl (s_assign (v:=.ref σ.length) rfl rfl (s_forN (src_of rfl ((Gr.app σ _).at hl)) (after_next (by refine gw (wV_len ..) ?_;exact h) (s_ret rfl))))
theorem some_of {ρ:Env}{v d l:Nat}{P:Kv}{g:List Nat->Option Int}{lo:List (List Nat)} (hv:(ρ++[.none])[v]?=some (some (.ref d))) (hD:σ[d]?=some (.dict P)) (hV:Vd P g) (hlo:∀ n∈lo,n∈keysOf P) (hl:σ[l]?=some (.list (lo.map V.str))) (hz:lo.length<=1000) (hvl:v < ρ.length) :
  gather (fIf ns C ρ (.tup [(.var ρ.length),(.idx (.var v) (.var ρ.length))]) (.cmp .isnt (.idx (.var v) (.var ρ.length)) (.lit V.none))) lo.length (.list l 0) [] σ=.ok (pV (lo.filterMap (asP g))) σ:=by
 refine ex2 (gather_all (f:=fIf ns C ρ (.tup [(.var ρ.length),(.idx (.var v) (.var ρ.length))]) (.cmp .isnt (.idx (.var v) (.var ρ.length)) (.lit V.none))) (it:=fun i=>.list l i)
  (fun i acc σ'=>acc=pV ((lo.take i).filterMap (asP g))/\σ'=σ) (lo.map V.str).length (fun acc σ' p=>by obtain ⟨_,rfl⟩:=p;exact stop_list hl)
  (fun i acc σ' hi p=>by
   obtain ⟨rfl,rfl⟩:=p
   have hi':i < lo.length:=by replace hi:=(zb ..)▸hi;exact hi
   have hget:=key_get (hlo _ (ye hi'))
   replace hget:=(hV lo[i] ..)▸hget
   have ft:=take_filterMap (asP g) lo hi'
   unfold asP at ft
   have e0:Ev ns C (ρ++[some (.str lo[i])]) (.var ρ.length) σ' (.str lo[i]) σ':=var_ok (by refine gw (zw (ze _) ..) (gw (xv ..) ?_);rfl)
   have e1:Ev ns C (ρ++[some (.str lo[i])]) (.var v) σ' (.ref d) σ':=var_ok (by rw [y7 hvl] at hv ⊢;exact hv)
   refine ⟨_,next_list hl (by refine gw (zv ..) (gw (zf hi' ..) ?_);rfl),?_⟩
   have hx:Ev ns C (ρ++[some (.str lo[i])]) (.idx (.var v) (.var ρ.length)) σ' (val (g lo[i])) σ':=e_idx e1 e0 (idxD hD hget)
   have hlen:(pV ((lo.take i).filterMap (asP g))).length<=1000:=by
    refine gw (pV_len ..) ?_
    exact za (fi _ _) (za (yv _ _) hz)
   cases ht:g lo[i] with
   | none =>
    rw [ht] at hx ft
    refine .inr ⟨_,fIf_f (e_cmp hx rfl rfl),?_,rfl⟩
    exact congrArg pV (ft.trans (yi _)).symm
   | some v =>
    rw [ht] at hx ft
    refine .inl ⟨_,_,fIf_t (e_cmp hx rfl rfl) (tup_ok (es_two e0 hx) rfl),za (zq hlen) (by decide),?_,rfl⟩
    refine (Eq.trans ?_ (congrArg pV ft.symm))
    unfold pV
    refine gw (yg ..) ?_;rfl)
  (lo.map V.str).length 0 [] σ (zo _) ⟨rfl,rfl⟩) fun acc σ' q_h=>?_;refine an3 q_h fun hg2 q_3 q_4=>?_;obtain rfl:=q_3;obtain rfl:=q_4
 replace hg2:=(zu ..)▸(zb ..)▸hg2
 exact hg2
theorem told_under_ok {d j:Nat}{kvs qs:Kv}{g:List Nat->Option Int} (hd:σ[d]?=some (.dict kvs)) (hj:σ[j]?=some (.dict qs)) (hz:kvs.length + qs.length<=1000) (hnd:(keysOf kvs).Nodup) (hv:Vd (dputs kvs qs) g) (hk:∀ n∈keysOf (dputs kvs qs),n.length<=12) (h:List Nat) :
  ∃ l' σ',evF ns C f28_told_under [.ref d,.ref j,.str h] σ=.ok (.ref l') σ'/\Gr σ σ'/\σ'[l']?=some (.list (pV (und g h (sort lexLe (keysOf (dputs kvs qs)))))):=by
 refine cps fun G' K=>?_
 have hP:=za (dputs_len qs kvs) hz
 have hjl:j < σ.length:=(zc.mp hj).1
 have hPn:=dputs_nodup qs kvs hnd
 have A:evSs ns C [some (.ref d),some (.ref j),some (.str h),.none,.none] σ (.assign 3 (.bi .dict (.var 0))::.expr (.me (.var 3) .update [(.var 1)])::f28_told_under.body.drop 2)=evSs ns C [some (.ref d),some (.ref j),some (.str h),some (.ref σ.length),.none] (σ++[.dict (dputs kvs qs)]) (f28_told_under.body.drop 2) :=
  s_assign (e_bi rfl (dictD hd (lm (za (zp _ _) hz)))) rfl (s_expr (e_me rfl (kD (at_new σ _) rfl) rfl ((updD (at_new σ _) ((Gr.app σ _).at hj) (yj hjl) hz).trans (by exact gw (set_new ..) rfl))) rfl)
 generalize dputs kvs qs=P at *
 let σ1:=σ++[.dict P]
 let ks:=sort lexLe (keysOf P)
 let σ2:=σ1++[.list (ks.map V.str)]
 have hkp:(keysOf P).length<=1000:=by unfold keysOf;refine gw (zb ..) ?_;exact hP
 have hks:ks.length<=1000:=by show (sort lexLe (keysOf P)).length<=1000;refine gw (sort_len ..) ?_;exact hkp
 have hmem:∀ n∈ks,n∈keysOf P:=fun n q=>(j9 (keysOf P) _).mem_iff.mp q
 have str_at:∀ {l:List (List Nat)}{i:Nat} (h:i < l.length),(l.map V.str)[i]?=some (.str l[i]):=fun h=>by refine gw (zv ..) (gw (zf h ..) ?_);rfl
 refine ex2 (gather_all (f:=fIf ns C [some (.ref d),some (.ref j),some (.str h),some (.ref σ.length),.none] (.var 5) (.cmp .eq (.slice (.var 5) .nil (.bi .len (.var 2))) (.var 2))) (it:=fun i=>.list σ1.length i)
  (fun i acc σ'=>acc=((ks.take i).filter (pre h)).map V.str/\σ'=σ2) (ks.map V.str).length (fun acc σ' p=>by obtain ⟨_,rfl⟩:=p;exact stop_list (at_new σ1 _))
  (fun i acc σ' hi p=>by
   obtain ⟨rfl,rfl⟩:=p
   have hi':i < ks.length:=by replace hi:=(zb ..)▸hi;exact hi
   have hl:=hk _ (hmem _ (ye hi'))
   refine ⟨_,next_list (at_new σ1 _) (str_at hi'),?_⟩
   have hc:Ev ns C ([some (.ref d),some (.ref j),some (.str h),some (.ref σ.length),.none]++[some (.str ks[i])]) (.cmp .eq (.slice (.var 5) .nil (.bi .len (.var 2))) (.var 2)) σ2 (.bool (pre h ks[i])) σ2 :=
    (e_cmp (e_slice rfl rfl (e_bi rfl rfl) (slS (lo:=.none) (hi:=some h.length) rfl rfl (za hl (by decide)))) rfl (eqS _ _)).trans (by exact gw (cut_pre ..) rfl)
   have hlen:(((ks.take i).filter (pre h)).map V.str).length<=1000:=by
    refine gw (zb ..) ?_
    exact za (u7 _ _) (za (yv _ _) hks)
   cases hp:pre h ks[i] with
   | true =>
    replace hc:=hp▸hc
    refine .inl ⟨_,_,fIf_t hc rfl,za (zq hlen) (by decide),?_,rfl⟩
    refine gw (take_at ks hi' ..) (gw (v3 ..) (gw (yg ..) (gw (uh ..) (gw (if_pos hp ..) ?_))));rfl
   | false =>
    replace hc:=hp▸hc
    refine .inr ⟨_,fIf_f hc,?_,rfl⟩
    exact gw (take_at ks hi' ..) (gw (v3 ..) (gw (uh ..) (gw (if_neg (by refine gw hp ?_;exact wh) ..) (gw (List.filter_nil ..) (gw (yi ..) rfl))))))
  (ks.map V.str).length 0 [] σ2 (zo _) ⟨rfl,rfl⟩) fun acc σ' q_h=>?_;refine an3 q_h fun hg q_3 q_4=>?_;obtain rfl:=q_3;obtain rfl:=q_4
 replace hg:=(zu ..)▸(zb ..)▸hg
 let lo:=ks.filter (pre h)
 let σ3:=σ2++[.list (lo.map V.str)]
 have hD:σ3[σ.length]?=some (.dict P):=(Gr.app σ2 _).at ((Gr.app σ1 _).at (at_new σ _))
 have hg2:=some_of (ns:=ns) (C:=C) (ρ:=[some (.ref d),some (.ref j),some (.str h),some (.ref σ.length),some (.ref σ2.length)]) (v:=3) rfl hD hv (fun n q=>hmem _ (xw.mp q).1) (at_new σ2 (.list (lo.map V.str))) (za (u7 _ _) hks) (by show 3 < 5;decide)
 have B:evSs ns C [some (.ref d),some (.ref j),some (.str h),some (.ref σ.length),.none] σ1 (f28_told_under.body.drop 2)=.ok (.ret (.ref σ3.length)) [some (.ref d),some (.ref j),some (.str h),some (.ref σ.length),some (.ref σ2.length)] (σ3++[.list (pV (lo.filterMap (asP g)))]) :=
  s_assign (e_compIf (src_of (e_bi rfl (sortL (ks:=keysOf P) (by unfold itemsV;dsimp only;rw [at_new σ _,keysOf,ug];rfl) hkp hPn)) (at_new σ1 _)) (by refine gw (zb ..) ?_;exact hg)) rfl (s_ret (e_compIf (src_of rfl (at_new σ2 _)) (by refine gw (zb ..) ?_;exact hg2)))
 refine K ⟨σ3.length,_,f_ret (fn:=f28_told_under) (vs:=[.ref d,.ref j,.str h]) rfl (A.trans B),(((Gr.app σ _).tr (Gr.app σ1 _)).tr (Gr.app σ2 _)).tr (Gr.app σ3 _),?_⟩
 refine bw (told_eq ..) ?_
 exact at_new σ3 _
end
end Mine.L13
namespace Mine.L13
open PySem Mine Mine.P
theorem keys_sub (ws:Ws):∀ (d:Kv) (n:List Nat),n∈keysOf (put d ws)->n∈keysOf d∨∃ p∈ws,p.1=n:=by
 induction ws with
 | nil=>exact fun d n h=>.inl h
 | cons q ws ih =>
  intro d n h
  rcases ih (dput d q.1 (val q.2)) n h with h | ⟨p,hp,e⟩
  ·exact (dput_keys _ _ _ _ h).elim (fun e=>.inr ⟨q,zh,e⟩) .inl
  ·exact .inr ⟨p,zj _ hp,e⟩
theorem kys_sub {ws:Ws}{n:List Nat} (h:n∈kys ws):∃ p∈ws,p.1=n:=(keys_sub ws [] n h).resolve_left z0
theorem stp_mem {ws:Ws}{d:Dd}{p:List Nat×Option Int} (h:p∈stp ws d):p∈ws∨d=.wr p.1 p.2:=by
 cases d with
 | wr x t=>exact (z5.mp h).imp id fun q=>by exact gw (zg.mp q ..) rfl
 | bk m=>exact .inl (xm h)
 | _=>exact .inl h
theorem wss_mem {p:List Nat×Option Int} (ds:List Dd):∀ {ws:Ws},p∈ds.foldl stp ws->p∈ws∨Dd.wr p.1 p.2∈ds:=by
 induction ds with
 | nil=>intro ws h;exact .inl h
 | cons d ds ih=>intro ws h;exact (ih h).elim (fun q=>(stp_mem q).imp id fun e=>by refine gw e ?_;exact zh) fun q=>.inr (zj _ q)
theorem stp_len (ws:Ws) (d:Dd):(stp ws d).length<=ws.length + 1:=by
 cases d with
 | wr x t=>exact ya (len_one ..)
 | bk m=>exact zr (yv _ _)
 | _=>exact yh _
theorem wss_len (ds:List Dd):∀ {ws:Ws},(ds.foldl stp ws).length<=ws.length + ds.length:=by
 induction ds with
 | nil=>intro _;exact ze _
 | cons d ds ih=>intro ws;exact za ih (za (yz (stp_len ws d) _) (ya (xq _ _)))
noncomputable abbrev PairsL (C:Calls):Prop:=∀ {σ:H}{a b:Nat}{ps qs:Ps},σ[a]?=some (.list (pV ps))->σ[b]?=some (.list (pV qs))->qs.length<=1000->C.call 26 [.ref a,.ref b] σ=.ok (.bool (decide (ps=qs))) σ
noncomputable abbrev LastL (C:Calls):Prop:=∀ {σ:H}{l:Nat}{ws:Ws},σ[l]?=some (.list (wV ws))->ws.length<=1000->C.call 27 [.ref l] σ=.ok (.ref σ.length) (σ++[.dict (put [] ws)])
noncomputable abbrev ToldL (C:Calls):Prop:=∀ {σ:H}{d j:Nat}{kvs qs:Kv}{g:List Nat->Option Int},σ[d]?=some (.dict kvs)->σ[j]?=some (.dict qs)->kvs.length + qs.length<=1000->(keysOf kvs).Nodup->Vd (dputs kvs qs) g->(∀ n∈keysOf (dputs kvs qs),n.length<=12)->∀ h:List Nat,
 ∃ l' σ',C.call 28 [.ref d,.ref j,.str h] σ=.ok (.ref l') σ'/\Gr σ σ'/\σ'[l']?=some (.list (pV (und g h (sort lexLe (keysOf (dputs kvs qs))))))
noncomputable def vf (L:Kv) (n:List Nat):Option Int:=match get L n with
 | .int i=>some i
 | _=>.none
structure Lf (L:Kv) (xs:List (List Nat)):Prop where
 v:Vd L (vf L)
 nd:(keysOf L).Nodup
 nm:∀ n∈keysOf L,n∈xs
noncomputable def nx (L:Kv) (ds:List Dd):Kv:=dputs L (put [] (wss ds))
noncomputable def Ck (L:Kv) (ws:Ws):Dd->Prop
 | .rd x t=>t=sb ws (vf L) x
 | .un h ps=>ps=und (sb ws (vf L)) h (sort lexLe (keysOf (dputs L (put [] ws))))
 | _=>True
noncomputable def Or (L:Kv) (ds:List Dd):Prop:=∀ i d,ds[i]?=some d->Ck L (wss (ds.take i)) d
noncomputable def st (Rs:List (List Dd)) (i:Nat):Kv:=(Rs.take i).foldl nx []
noncomputable def Oa (Rs:List (List Dd)):Prop:=∀ i ds,Rs[i]?=some ds->Or (st Rs i) ds
structure Rw (xs:List (List Nat)) (ds:List Dd):Prop where
 z:ds.length<=800
 wn:∀ x t,Dd.wr x t∈ds->x∈xs
theorem vf_eq {L:Kv}{f:List Nat->Option Int} (h:Vd L f):vf L=f:=funext fun n=>by
 unfold vf
 refine gw (h n ..) ?_
 cases f n <;> rfl
theorem Vd.self {L:Kv}{f:List Nat->Option Int} (h:Vd L f):Vd L (vf L):=vf_eq h▸h
section
variable {L:Kv}{xs:List (List Nat)}{ds:List Dd}{ws:Ws}{Rs:List (List Dd)}{i:Nat}
theorem Rw.wl (h:Rw xs ds) (i:Nat):(wss (ds.take i)).length<=800:=za (wss_len _) (za (ya (zo _)) (za (yv _ _) h.z))
theorem Rw.wm (h:Rw xs ds) (i:Nat):∀ p∈wss (ds.take i),p.1∈xs:=fun p hp=>(wss_mem _ hp).elim (fun q=>absurd q z0) fun q=>h.wn _ _ (xm q)
theorem Lf.add (F:Lf L xs) (hw:∀ p∈ws,p.1∈xs):Lf (dputs L (put [] ws)) xs :=
 ⟨(F.v.put ws).self,dputs_nodup _ _ F.nd,fun n q=>(dputs_keys _ _ (put_nodup _ [] vp) q).elim (fun q=>by obtain ⟨p,hp,e⟩:=kys_sub q;exact e▸hw p hp) (F.nm n)⟩
theorem Lf.nil:Lf [] xs:=⟨fun _=>rfl,vp,fun _ h=>absurd h z0⟩
theorem st_succ {ds:List Dd} (h:Rs[i]?=some ds):st Rs (i + 1)=nx (st Rs i) ds:=by
 obtain ⟨hi,e⟩:=zc.mp h
 unfold st
 refine gw (take_at Rs hi ..) (gw (wy ..) (gw e ?_));rfl
theorem Lf.st (h:∀ ds∈Rs,Rw xs ds):∀ i,Lf (st Rs i) xs:=by
 intro i
 induction i with
 | zero=>exact Lf.nil
 | succ i ih =>
  by_cases hi:i < Rs.length
  ·refine gw (st_succ (zf hi) ..) ?_
   have w:=h _ (ye hi)
   have e:=w.wm Rs[i].length
   replace e:=(zu ..)▸e
   exact ih.add e
  ·unfold Mine.L13.st at ih ⊢
   refine gw (y9 (zr (yc.mp hi)) ..) ?_
   replace ih:=(y9 (yc.mp hi) ..)▸ih
   exact ih
theorem sn_eq {d:Dd} (h:ds[i]?=some d):wss (ds.take (i + 1))=stp (wss (ds.take i)) d:=by
 obtain ⟨hi,e⟩:=zc.mp h
 exact gw (take_at ds hi ..) (gw (wss_snoc ..) (gw e rfl))
end
end Mine.L13
namespace Mine.L13
open PySem Mine Mine.P
structure Sk (xs:List (List Nat)) (D:Dl) (T:Nat):Prop where
 said:D.said.length<=T
 ws:D.ws.length<=T
 seen:D.seen.length<=T
 heads:D.heads.length<=T
 nm:∀ p∈D.ws,p.1∈xs
structure Sf (xs:List (List Nat)) (S:St) (T:Nat):Prop where
 hh:∀ x,x∉S.names->S.hist x=[]
 rw:∀ j∈S.row,j < S.n/\(S.d j).st=2
 nd:S.row.Nodup
 rl:S.row.length<=T
 hl:∀ x,(S.hist x).length<=T
 nn:S.names.Nodup
 nx:∀ x∈S.names,x∈xs
 d:∀ k,k < S.n->Sk xs (S.d k) T
theorem pigeon {α:Type} [DecidableEq α] {l l':List α} (h:l.Nodup) (s:∀ x∈l,x∈l'):l.length<=l'.length:=by
 induction l generalizing l' with
 | nil=>exact z7 _
 | cons a l ih =>
  have ⟨h1,h2⟩:=xg.mp h
  have:=ih (l':=l'.erase a) h2 fun x hx=>(List.mem_erase_of_ne fun e:x=a=>h1 (e▸hx)).mpr (s x (zj _ hx))
  replace this:=(List.length_erase_of_mem (s a zh) ..)▸this
  exact za (zq this) (ya (Nat.succ_pred_eq_of_pos (List.length_pos_of_mem (s a zh))))
section
variable {xs:List (List Nat)}{S:St}{T T' k p:Nat}{D D':Dl}{v:V}
theorem Sk.mono (h:Sk xs D T) (l:T<=T'):Sk xs D T':=⟨za h.said l,za h.ws l,za h.seen l,za h.heads l,h.nm⟩
theorem Sk.st {s a:Nat} (h:Sk xs D T):Sk xs { D with st:=s,kat:=a } T:=⟨h.said,h.ws,h.seen,h.heads,h.nm⟩
theorem Sf.mono (h:Sf xs S T) (l:T<=T'):Sf xs S T':=⟨h.hh,h.rw,h.nd,za h.rl l,fun x=>za (h.hl x) l,h.nn,h.nx,fun k hk=>(h.d k hk).mono l⟩
theorem Sk.rd {n:List Nat} (h:Sk xs D T):Sk xs (D.rd n v) (T + 1):=⟨za (ya (len_one ..)) (zq h.said),zr h.ws,by
 show (if _ then _ else _:List (List Nat)).length<=_
 split
 ·exact zr h.seen
 ·exact za (addN_len _ _) (zq h.seen),zr h.heads,h.nm⟩
theorem Sk.un {n:List Nat} (h:Sk xs D T):Sk xs (D.un n v) (T + 1):=⟨za (ya (len_one ..)) (zq h.said),zr h.ws,zr h.seen,za (addN_len _ _) (zq h.heads),h.nm⟩
theorem Sk.bk {m:Nat} (h:Sk xs D T):Sk xs (D.bk m v) (T + 1):=⟨za (ya (len_one ..)) (zq h.said),zr (za (yv _ _) h.ws),zr h.seen,zr h.heads,fun p hp=>h.nm p (xm hp)⟩
noncomputable def Dl.wr (D:Dl) (n:List Nat) (t:Option Int) (v:V):Dl:={ D with ws:=D.ws++[(n,t)],said:=D.said++[v] }
theorem Sk.wr {n:List Nat}{t:Option Int} (h:Sk xs D T) (hn:n∈xs):Sk xs (D.wr n t v) (T + 1):=⟨za (ya (len_one ..)) (zq h.said),za (ya (len_one ..)) (zq h.ws),zr h.seen,zr h.heads,fun p hp=>(z5.mp hp).elim (h.nm p) fun q=>by rw [zg.mp q];exact hn⟩
theorem Sf.setD (h:Sf xs S T) (ho:(S.d k).st=0) (l:T<=T') (hD:Sk xs D T'):Sf xs (S.setD k D) T':=by
 refine ⟨h.hh,fun j hj=>⟨(h.rw j hj).1,?_⟩,h.nd,za h.rl l,fun x=>za (h.hl x) l,h.nn,h.nx,fun j hj=>?_⟩
 ·rw [S.setD_ne D fun e=>by have:=(h.rw j hj).2;rw [e,ho] at this;cases this]
  exact (h.rw j hj).2
 ·by_cases e:j=k
  ·refine gw e (gw (S.setD_at ..) ?_);exact hD
  ·refine gw (S.setD_ne D e ..) ?_;exact (h.d j hj).mono l
theorem ins_perm {α:Type} (rs:List α) (p:Nat) (k:α):(insAt rs p k).Perm (k::rs):=by
 unfold insAt
 refine List.perm_middle.trans ?_
 rw [z6]
theorem Sf.keep (h:Sf xs S T) (hk:k < S.n) (ho:(S.d k).st=0):Sf xs (S.keep k p) (T + 1):=by
 have ne:∀ {j},j∈S.row->j≠k:=fun hj e=>by have:=(h.rw _ hj).2;replace this:=ho▸e▸this;cases this
 refine ⟨fun x hx=>?_,fun j hj=>?_,?_,?_,fun x=>?_,addNs_nodup _ h.nn,fun x hx=>?_,fun j hj=>?_⟩
 ·have hx:x∉addNs S.names (kys (S.d k).ws):=hx
  rw [mem_addNs] at hx
  show (if x∈_ then _ else _)=_
  refine gw (if_neg fun q=>hx (.inr q)) ?_
  exact h.hh x fun q=>hx (.inl q)
 ·rcases zy.mp ((ins_perm S.row p k).mem_iff.mp hj) with e | hj
  ·subst e;exact ⟨hk,congrArg Dl.st (S.setD_at j _)⟩
  ·exact ⟨(h.rw j hj).1,(congrArg Dl.st (S.setD_ne _ (ne hj))).trans (h.rw j hj).2⟩
 ·exact (ins_perm S.row p k).nodup_iff.mpr (xg.mpr ⟨fun q=>ne q rfl,h.nd⟩)
 ·show (insAt S.row p k).length<=_
  refine gw (ins_len ..) ?_;exact zq h.rl
 ·show (if x∈_ then _ else _:List (Nat×Option Int)).length<=_
  split
  ·refine gw (len_one ..) ?_;exact zq (h.hl x)
  ·exact zr (h.hl x)
 ·rcases mem_addNs.mp hx with q | q
  ·exact h.nx x q
  ·obtain ⟨w,hw,e⟩:=kys_sub q
   exact e▸(h.d k hk).nm w hw
 ·show Sk xs ((S.setD k _).d j) _
  by_cases e:j=k
  ·subst e;refine gw (S.setD_at ..) ?_;exact ((h.d j hj).mono (yh _)).st
  ·refine gw (S.setD_ne _ e ..) ?_;exact (h.d j hj).mono (yh _)
theorem Sf.beg (h:Sf xs S T):Sf xs S.beg T:=by
 have ne:∀ {j},j < S.n->(S.beg).d j=S.d j:=fun hj=>S.setD_ne _ (yj hj)
 refine ⟨h.hh,fun j hj=>⟨wa (h.rw j hj).1,(congrArg Dl.st (ne (h.rw j hj).1)).trans (h.rw j hj).2⟩,h.nd,h.rl,h.hl,h.nn,h.nx,fun j hj=>?_⟩
 by_cases e:j=S.n
 ·refine gw e (gw (show S.beg.d S.n=_ from S.setD_at _ _) ?_)
  exact ⟨z7 _,z7 _,z7 _,z7 _,fun _ hp=>absurd hp z0⟩
 ·refine gw (ne (yy (z4 hj) e) ..) ?_
  exact h.d j (yy (z4 hj) e)
end
end Mine.L13
namespace Mine.L13
open PySem Mine Mine.P
noncomputable abbrev Ol (σ σ':H):Prop:=∀ (i:Nat) (o:O),σ[i]?=some o->σ'[i]?=some o
theorem Gr.ol {σ σ':H} (g:Gr σ σ'):Ol σ σ':=fun _ _ e=>g.at e
theorem ol_lt {σ:H}{i:Nat}{o:O} (e:σ[i]?=some o):i < σ.length:=(zc.mp e).1
theorem Ol.set {σ σ':H} (h:Ol σ σ') {a:Nat} (ha:σ.length<=a) (o:O):Ol σ (σ'.set a o):=fun i x e=>set_off _ (yj (zm (ol_lt e) ha)) (h i x e)
theorem okD.ol {σ σ':H}{p:Dd×Nat} (h:okD (of σ) p) (o:Ol σ σ'):okD (of σ') p:=h.mono fun x e=>o _ x e
noncomputable def lrB:List S:=[.assign 5 (.call 27 [(.var 3)]),
   .ite (.cmp .eq (.idx (.var 4) (.lit (V.int 0))) (.lit (V.str [119,114,105,116,101]))) [.expr (.me (.var 3) .append [(.tup [(.idx (.var 4) (.lit (V.int 1))),(.idx (.var 4) (.lit (V.int 2)))])])] [.ite (.cmp .eq (.idx (.var 4) (.lit (V.int 0))) (.lit (V.str [98,97,99,107]))) [.assign 3 (.slice (.var 3) .nil (.idx (.var 4) (.lit (V.int 1))))] [.ite (.and [(.cmp .eq (.idx (.var 4) (.lit (V.int 0))) (.lit (V.str [114,101,97,100]))),(.not (.call 25 [(.idx (.var 4) (.lit (V.int 2))),(.me (.var 5) .get [(.idx (.var 4) (.lit (V.int 1))),(.me (.var 1) .get [(.idx (.var 4) (.lit (V.int 1)))])])]))]) [.ret (.lit V.none)] [.ite (.and [(.cmp .eq (.idx (.var 4) (.lit (V.int 0))) (.lit (V.str [117,110,100,101,114]))),(.not (.call 26 [(.idx (.var 4) (.lit (V.int 2))),(.call 28 [(.var 1),(.var 5),(.idx (.var 4) (.lit (V.int 1)))])]))]) [.ret (.lit V.none)] []]]]]
structure Ra (σ:H) (l:Nat) (as:List Nat) (Rs:List (List (Dd×Nat))):Prop where
 at_:σ[l]?=some (.list (as.map V.ref))
 len:as.length=Rs.length
 row:∀ i (h:i < as.length) (h':i < Rs.length),σ[as[i]]?=some (.list (dVs Rs[i]))/\∀ p∈Rs[i],okD (of σ) p
theorem Ra.ol {σ σ':H}{l:Nat}{as:List Nat}{Rs:List (List (Dd×Nat))} (h:Ra σ l as Rs) (o:Ol σ σ'):Ra σ' l as Rs:=⟨o _ _ h.at_,h.len,fun i h1 h2=>⟨o _ _ (h.row i h1 h2).1,fun p hp=>((h.row i h1 h2).2 p hp).ol o⟩⟩
noncomputable def ds (q:List (Dd×Nat)):List Dd:=q.map (·.1)
theorem Lf.le {L:Kv}{xs:List (List Nat)} (h:Lf L xs) (hx:xs.length<=137):L.length<=137:=by
 have:=za (pigeon h.nd h.nm) hx
 unfold keysOf at this
 replace this:=(zb ..)▸this
 exact this
theorem ds_at {q:List (Dd×Nat)}{i:Nat} (h:i < q.length):(ds q)[i]?=some q[i].1:=by unfold ds;refine gw (zv ..) (gw (zf h ..) ?_);rfl
section
variable {ns:List Int}{C:Calls}{σ σ':H}{xs:List (List Nat)}{L:Kv}
theorem getD1 {l:Nat}{kvs:Kv}{x:List Nat} (hl:σ[l]?=some (.dict kvs)):meV (.ref l) .get [.str x] σ=.ok (get kvs x) σ:=by
 unfold meV;dsimp only;refine gw hl ?_;rfl
theorem own_get {f:List Nat->Option Int} (h:Vd L f) (ws:Ws) (x:List Nat):(dget (put [] ws) x).getD (get L x)=val (sb ws f x):=by
 refine gw (put0 ..) (gw (h x ..) ?_)
 unfold sb
 cases lw ws x <;> rfl
theorem left_row (h25:Same C) (h26:PairsL C) (h27:LastL C) (h28:ToldL C) (hx:∀ x∈xs,x.length<=12) (hxs:xs.length<=137) {r l1 dd:Nat}{qs:List (Dd×Nat)} (F:Lf L xs) (w:Rw xs (ds qs)) (hl:σ[l1]?=some (.dict L)) (hd:σ[dd]?=some (.list (dVs qs))) (hq:∀ p∈qs,okD (of σ) p) {o4 o5:Option V} :
  (∃ l o4' o5' σ',forLoop (tgtN 4) (fun ρ σ=>evSs ns C ρ σ lrB) (dVs qs).length (.list dd 0) [some (.ref r),some (.ref l1),some (.ref dd),some (.ref σ.length),o4,o5] (σ++[.list []])=.ok .next [some (.ref r),some (.ref l1),some (.ref dd),some (.ref l),o4',o5'] σ'/\σ'[l]?=some (.list (wV (wss (ds qs))))/\Ol σ σ'/\Or L (ds qs)) ∨
  (∃ ρ' σ',forLoop (tgtN 4) (fun ρ σ=>evSs ns C ρ σ lrB) (dVs qs).length (.list dd 0) [some (.ref r),some (.ref l1),some (.ref dd),some (.ref σ.length),o4,o5] (σ++[.list []])=.ok (.ret .none) ρ' σ'/\Ol σ σ'/\¬ Or L (ds qs)):=by
 refine cps fun G' K=>?_
 have h:=for_or (tgt:=tgtN 4) (body:=fun ρ σ=>evSs ns C ρ σ lrB) (it:=fun i=>.list dd i)
  (fun i ρ σ'=>∃ l o4 o5,ρ=[some (.ref r),some (.ref l1),some (.ref dd),some (.ref l),o4,o5]/\Ol σ σ'/\σ.length<=l/\σ'[l]?=some (.list (wV (wss ((ds qs).take i))))/\∀ j d,j < i->(ds qs)[j]?=some d->Ck L (wss ((ds qs).take j)) d) (fun R=>∃ ρ' σ',R=.ok (.ret .none) ρ' σ'/\Ol σ σ'/\¬ Or L (ds qs)) (dVs qs).length
  (fun ρ σ' p=>by obtain ⟨l,o4,o5,_,k1,_⟩:=p;exact stop_list (k1 dd _ hd))
  (fun i ρ σ' hi p=>by
   refine cps fun G' K=>?_
   refine ex3 (p) fun l o4 o5 q_h=>?_;refine an5 q_h fun q_3 k1 k2 k3 ck=>?_;obtain rfl:=q_3
   have hi':i < qs.length:=by replace hi:=(dVs_len ..)▸hi;exact hi
   have hm:=ds_at hi'
   have sn:=sn_eq hm
   have wl:=w.wl i
   have wm:=w.wm i
   have cn:Ck L (wss ((ds qs).take i)) qs[i].1->∀ j d,j < i + 1->(ds qs)[j]?=some d->Ck L (wss ((ds qs).take j)) d:=fun c j d hj e=>by
    rcases vz (z4 hj) with q | q
    ·exact ck j d q e
    ·subst q;replace e:=hm▸e;cases e;exact c
   have cx:¬ Ck L (wss ((ds qs).take i)) qs[i].1->¬ Or L (ds qs):=fun c q=>c (q i _ hm)
   generalize wss ((ds qs).take i)=wi at sn wl wm k3 cn cx
   have e20:=h27 k3 (za wl (by decide))
   have g1:Gr σ' (σ'++[O.dict (put [] wi)]):=Gr.app _ _
   have k1':Ol σ (σ'++[O.dict (put [] wi)]):=fun j o e=>g1.at (k1 j o e)
   have nx:=next_list (k1 dd _ hd) (dVs_at hi')
   have ho:=hq _ (ye hi')
   cases hdd:qs[i].1 with
   | wr x t =>
    rw [hdd] at sn cn
    have e1:dV qs[i]=.tup [.str [119,114,105,116,101],.str x,val t]:=by unfold dV;exact gw hdd rfl
    replace nx:=e1▸nx
    refine K ⟨_,_,nx,rfl,.inl ⟨_,_,s_assign (e_call rfl e20) rfl (s_ifT (e_cmp (e_idx rfl rfl rfl) rfl ((eqS _ _).trans (by exact gw (decide_eq_true rfl ..) rfl))) (after_next (s_expr (e_me rfl (kL (g1.at k3) rfl) (es_one (tup_ok (es_two (e_idx rfl rfl rfl) (e_idx rfl rfl rfl)) rfl)) (appL (g1.at k3) (by refine gw (wV_len ..) ?_;exact lm1 (za wl (by decide))))) ss_nil) ss_nil)),l,_,_,rfl,k1'.set k2 _,k2,?_,cn trivial⟩⟩
    refine gw (set_on (g1.at k3) ..) (gw sn (gw (wV_snoc ..) ?_));rfl
   | bk m =>
    rw [hdd] at sn cn
    have e1:dV qs[i]=.tup [.str [98,97,99,107],.int m]:=by unfold dV;exact gw hdd rfl
    replace nx:=e1▸nx
    refine K ⟨_,_,nx,rfl,.inl ⟨_,_,s_assign (e_call rfl e20) rfl (s_if (p:=false) (e_cmp (e_idx rfl rfl rfl) rfl ((eqS _ _).trans rfl)) (after_next (s_ifT (e_cmp (e_idx rfl rfl rfl) rfl ((eqS _ _).trans (by exact gw (decide_eq_true rfl ..) rfl))) (after_next (s_assign (e_slice rfl rfl (e_idx rfl rfl rfl) ((slL (lo:=.none) (hi:=some (m:Int)) (g1.at k3) rfl rfl (by refine gw (wV_len ..) ?_;exact lm (za wl (by decide)))).trans (by exact gw (wV_take ..) rfl))) rfl ss_nil) ss_nil)) ss_nil)),(σ'++[O.dict (put [] wi)]).length,_,_,rfl,fun j o e=>(Gr.app _ _).at (k1' j o e),?_,?_,cn trivial⟩⟩
    ·exact za (za k2 (z9 (ol_lt k3))) g1.length_le
    ·refine gw sn ?_;exact at_new _ _
   | rd x t =>
    rw [hdd] at sn cn cx
    have e1:dV qs[i]=.tup [.str [114,101,97,100],.str x,val t]:=by unfold dV;exact gw hdd rfl
    replace nx:=e1▸nx
    have ce:Ev ns C [some (.ref r),some (.ref l1),some (.ref dd),some (.ref l),some (.tup [.str [114,101,97,100],.str x,val t]),some (.ref σ'.length)] (.and [(.cmp .eq (.idx (.var 4) (.lit (V.int 0))) (.lit (V.str [114,101,97,100]))),(.not (.call 25 [(.idx (.var 4) (.lit (V.int 2))),(.me (.var 5) .get [(.idx (.var 4) (.lit (V.int 1))),(.me (.var 1) .get [(.idx (.var 4) (.lit (V.int 1)))])])]))]) (σ'++[O.dict (put [] wi)]) (.bool (!decide (t=sb wi (vf L) x))) (σ'++[O.dict (put [] wi)]) :=
     andT (e_cmp (e_idx rfl rfl rfl) rfl ((eqS _ _).trans (by exact gw (decide_eq_true rfl ..) rfl))) (and1 (e_not (e_call (es_two (e_idx rfl rfl rfl) (e_me rfl (kD (at_new _ _) rfl) (es_two (e_idx rfl rfl rfl) (e_me rfl (kD (k1' l1 _ hl) rfl) (es_one (e_idx rfl rfl rfl)) (getD1 (k1' l1 _ hl)))) ((getD2 (at_new _ _)).trans (by exact gw (own_get F.v ..) rfl)))) (h25 t (sb wi (vf L) x) _)) rfl))
    by_cases q:t=sb wi (vf L) x
    ·replace ce:=(decide_eq_true q ..)▸ce
     refine K ⟨_,_,nx,rfl,.inl ⟨_,_,s_assign (e_call rfl e20) rfl (s_if (p:=false) (e_cmp (e_idx rfl rfl rfl) rfl ((eqS _ _).trans rfl)) (after_next (s_if (p:=false) (e_cmp (e_idx rfl rfl rfl) rfl ((eqS _ _).trans rfl)) (after_next (s_if (p:=false) ce (after_next (s_ifF (andF (e_cmp (e_idx rfl rfl rfl) rfl ((eqS _ _).trans rfl))) ss_nil) ss_nil)) ss_nil)) ss_nil)),l,_,_,rfl,k1',k2,?_,cn q⟩⟩
     refine gw sn ?_;exact g1.at k3
    ·replace ce:=(decide_eq_false q ..)▸ce
     exact K ⟨_,_,nx,rfl,.inr ⟨_,s_assign (e_call rfl e20) rfl (s_if (p:=false) (e_cmp (e_idx rfl rfl rfl) rfl ((eqS _ _).trans rfl)) (after_end (s_if (p:=false) (e_cmp (e_idx rfl rfl rfl) rfl ((eqS _ _).trans rfl)) (after_end (s_ifT ce (after_end (s_ret rfl))))))),fun _=>rfl,_,_,rfl,k1',cx q⟩⟩
   | un x ps =>
    rw [hdd] at sn cn cx
    have e1:dV qs[i]=.tup [.str [117,110,100,101,114],.str x,.ref qs[i].2]:=by unfold dV;exact gw hdd rfl
    replace nx:=e1▸nx
    have ho':σ[qs[i].2]?=some (.list (pV ps))/\ps.length<=1000:=by unfold okD at ho;replace ho:=hdd▸ho;exact ho
    have vv:=F.v.put wi
    have pl:(put [] wi).length<=800:=za (put_len _ []) (za (ya (zo _)) wl)
    have z1:L.length + (put [] wi).length<=1000:=za (xc (F.le hxs) pl) (by decide)
    refine ex2 (h28 (σ:=σ'++[O.dict (put [] wi)]) (j:=σ'.length) (k1' l1 _ hl) (at_new _ _) z1 F.nd vv (fun n q=>hx n ((F.add wm).nm n q)) x) fun l' σ2 q_h=>?_;refine an3 q_h fun e21 g2 a2=>?_
    have k2':Ol σ σ2:=fun j o e=>g2.at (k1' j o e)
    have z2:(und (sb wi (vf L)) x (sort lexLe (keysOf (dputs L (put [] wi))))).length<=1000:=za (und_le _ _ _) (by rw [sort_len,keysOf,zb];exact za (dputs_len _ _) z1)
    have ce:Ev ns C [some (.ref r),some (.ref l1),some (.ref dd),some (.ref l),some (.tup [.str [117,110,100,101,114],.str x,.ref qs[i].2]),some (.ref σ'.length)] (.and [(.cmp .eq (.idx (.var 4) (.lit (V.int 0))) (.lit (V.str [117,110,100,101,114]))),(.not (.call 26 [(.idx (.var 4) (.lit (V.int 2))),(.call 28 [(.var 1),(.var 5),(.idx (.var 4) (.lit (V.int 1)))])]))]) (σ'++[O.dict (put [] wi)]) (.bool (!decide (ps=und (sb wi (vf L)) x (sort lexLe (keysOf (dputs L (put [] wi))))))) σ2 :=
     andT (e_cmp (e_idx rfl rfl rfl) rfl ((eqS _ _).trans (by exact gw (decide_eq_true rfl ..) rfl))) (and1 (e_not (e_call (es_two (e_idx rfl rfl rfl) (e_call (es_three rfl rfl (e_idx rfl rfl rfl)) e21)) (h26 (k2' _ _ ho'.1) a2 z2)) rfl))
    by_cases q:ps=und (sb wi (vf L)) x (sort lexLe (keysOf (dputs L (put [] wi))))
    ·replace ce:=(decide_eq_true q ..)▸ce
     refine K ⟨_,_,nx,rfl,.inl ⟨_,_,s_assign (e_call rfl e20) rfl (s_if (p:=false) (e_cmp (e_idx rfl rfl rfl) rfl ((eqS _ _).trans rfl)) (after_next (s_if (p:=false) (e_cmp (e_idx rfl rfl rfl) rfl ((eqS _ _).trans rfl)) (after_next (s_if (p:=false) (andF (e_cmp (e_idx rfl rfl rfl) rfl ((eqS _ _).trans rfl))) (after_next (s_ifF ce ss_nil) ss_nil)) ss_nil)) ss_nil)),l,_,_,rfl,k2',k2,?_,cn q⟩⟩
     refine gw sn ?_;exact g2.at (g1.at k3)
    ·replace ce:=(decide_eq_false q ..)▸ce
     exact K ⟨_,_,nx,rfl,.inr ⟨_,s_assign (e_call rfl e20) rfl (s_if (p:=false) (e_cmp (e_idx rfl rfl rfl) rfl ((eqS _ _).trans rfl)) (after_end (s_if (p:=false) (e_cmp (e_idx rfl rfl rfl) rfl ((eqS _ _).trans rfl)) (after_end (s_if (p:=false) (andF (e_cmp (e_idx rfl rfl rfl) rfl ((eqS _ _).trans rfl))) (after_end (s_ifT ce (after_end (s_ret rfl))))))))),fun _=>rfl,_,_,rfl,k2',cx q⟩⟩)
  (dVs qs).length 0 [some (.ref r),some (.ref l1),some (.ref dd),some (.ref σ.length),o4,o5] (σ++[.list []]) (zo _) ⟨_,_,_,rfl,Gr.ol (Gr.app σ _),ze _,at_new σ _,fun _ _ h=>absurd h (y5 _)⟩
 rcases h with ⟨ρ',σ',h,l,o4',o5',rfl,k1,k2,k3,ck⟩ | h
 ·have el:(ds qs).length=(dVs qs).length:=by unfold ds;exact gw (zb ..) (gw (dVs_len ..) rfl)
  replace k3:=(zu ..)▸el▸k3
  exact K (.inl ⟨l,o4',o5',σ',h,k3,k1,fun i d e=>ck i d (el▸(zc.mp e).1) e⟩)
 ·exact K (.inr h)
end
end Mine.L13
namespace Mine.L13
open PySem Mine Mine.P
noncomputable def Ds (Rs:List (List (Dd×Nat))):List (List Dd):=Rs.map ds
theorem Ds_at {Rs:List (List (Dd×Nat))}{i:Nat} (h:i < Rs.length):(Ds Rs)[i]?=some (ds Rs[i]):=by unfold Ds;refine gw (zv ..) (gw (zf h ..) ?_);rfl
theorem Ds_rw {xs:List (List Nat)}{Rs:List (List (Dd×Nat))} (h:∀ q∈Rs,Rw xs (ds q)):∀ d∈Ds Rs,Rw xs d:=fun d hd=>by
 obtain ⟨q,hq,rfl⟩:=w4.mp hd
 exact h q hq
theorem oa_of {Rs:List (List (Dd×Nat))}{n:Nat} (hn:n=Rs.length) (h:∀ j d,j < n->(Ds Rs)[j]?=some d->Or (st (Ds Rs) j) d):Oa (Ds Rs):=fun j d e=>h j d (by
 have:=(zc.mp e).1
 unfold Ds at this
 replace this:=(zb ..)▸this
 exact hn▸this) e
theorem oa_next {Rs:List (List (Dd×Nat))}{i:Nat} (hi:i < Rs.length) (h:∀ j d,j < i->(Ds Rs)[j]?=some d->Or (st (Ds Rs) j) d) (o:Or (st (Ds Rs) i) (ds Rs[i])):∀ j d,j < i + 1->(Ds Rs)[j]?=some d->Or (st (Ds Rs) j) d:=fun j d hj e=>by
 rcases vz (z4 hj) with q | q
 ·exact h j d q e
 ·subst q;replace e:=(Ds_at hi ..)▸e;cases e;exact o
theorem put_z {L:Kv}{xs:List (List Nat)} (F:Lf L xs) (hxs:xs.length<=137) {q:List (Dd×Nat)} (w:Rw xs (ds q)):L.length + (put [] (wss (ds q))).length<=1000/\(wss (ds q)).length<=1000:=by
 have wl:=w.wl (ds q).length
 replace wl:=(zu ..)▸wl
 exact ⟨za (xc (F.le hxs) (za (put_len _ []) (za (ya (zo _)) wl))) (by decide),za wl (by decide)⟩
noncomputable def We (σ:H) (Rs:List (List (Dd×Nat))) (A B:H->Prop):Prop:=(Oa (Ds Rs)/\∃ σ',A σ'/\Ol σ σ')∨(¬ Oa (Ds Rs)/\∃ σ',B σ'/\Ol σ σ')
section
variable {ns:List Int}{C:Calls}{σ σ':H}{xs:List (List Nat)}{r:Nat}{as:List Nat}{Rs:List (List (Dd×Nat))}
theorem left_ok (h25:Same C) (h26:PairsL C) (h27:LastL C) (h28:ToldL C) (hx:∀ x∈xs,x.length<=12) (hxs:xs.length<=137) (R:Ra σ r as Rs) (w:∀ q∈Rs,Rw xs (ds q)) :
  We σ Rs (fun σ'=>∃ l,evF ns C f33_left_by [.ref r] σ=.ok (.ref l) σ'/\σ'[l]?=some (.dict (st (Ds Rs) Rs.length))) (fun σ'=>evF ns C f33_left_by [.ref r] σ=.ok .none σ'):=by
 refine cps fun G' K=>?_
 have hF:=Lf.st (Ds_rw w)
 have h:=for_or (tgt:=tgtN 2) (body:=fun ρ σ=>evSs ns C ρ σ [.assign 3 (.list []),.forN 4 (.of (.var 2)) lrB,.expr (.me (.var 1) .update [(.call 27 [(.var 3)])])]) (it:=fun i=>.list r i)
  (fun i ρ σ'=>(∃ o2 o3 o4 o5,ρ=[some (.ref r),some (.ref σ.length),o2,o3,o4,o5])/\Ol σ σ'/\σ'[σ.length]?=some (.dict (st (Ds Rs) i))/\∀ j d,j < i->(Ds Rs)[j]?=some d->Or (st (Ds Rs) j) d) (fun R=>∃ ρ' σ',R=.ok (.ret .none) ρ' σ'/\Ol σ σ'/\¬ Oa (Ds Rs)) (as.map V.ref).length
  (fun ρ σ' p=>stop_list (p.2.1 _ _ R.at_))
  (fun i ρ σ' hi p=>by
   refine cps fun G' K=>?_
   obtain ⟨q_0,q_h⟩:=(p);refine an3 q_h fun k1 k2 ck=>?_;obtain ⟨o2,o3,o4,o5,rfl⟩:=q_0
   have hi1:i < as.length:=by replace hi:=(zb ..)▸hi;exact hi
   have hi2:i < Rs.length:=R.len▸hi1
   obtain ⟨a1,a2⟩:=(R.ol k1).row i hi1 hi2
   have w1:=w _ (ye hi2)
   have nx:=next_list (k1 _ _ R.at_) (show (as.map V.ref)[i]?=some (.ref as[i]) by refine gw (zv ..) (gw (zf hi1 ..) ?_);rfl)
   refine K ⟨_,_,nx,rfl,?_⟩
   rcases left_row (ns:=ns) (r:=r) (l1:=σ.length) (o4:=o4) (o5:=o5) h25 h26 h27 h28 hx hxs (hF i) w1 k2 a1 a2 with ⟨l,p4,p5,σ2,e2,b2,k3,oo⟩ | ⟨ρ',σ2,e2,k3,oo⟩
   ·have z:=put_z (hF i) hxs w1
    have g3:Gr σ2 (σ2++[O.dict (put [] (wss (ds Rs[i])))]):=Gr.app _ _
    have k4:Ol σ (σ2++[O.dict (put [] (wss (ds Rs[i])))]):=fun j o e=>g3.at (k3 j o (k1 j o e))
    have k5:=g3.at (k3 _ _ k2)
    refine .inl ⟨_,_,s_assign (e_list rfl (z7 _)) rfl (s_forN (src_of rfl ((Gr.app σ' _).at a1)) (after_next e2 (s_expr (e_me rfl (kD (k3 _ _ k2) rfl) (es_one (e_call rfl (h27 b2 z.2))) (updD k5 (at_new _ _) (xt (ol_lt (k3 _ _ k2))) z.1)) ss_nil))),⟨_,_,_,_,rfl⟩,k4.set (ze _) _,?_,oa_next hi2 ck oo⟩
    refine gw (set_on k5 ..) (gw (st_succ (Ds_at hi2) ..) ?_);rfl
   ·exact .inr ⟨_,s_assign (e_list rfl (z7 _)) rfl (s_forN (src_of rfl ((Gr.app σ' _).at a1)) (after_end e2)),fun _=>rfl,_,_,rfl,fun j o e=>k3 j o (k1 j o e),fun q=>oo (q i _ (Ds_at hi2))⟩)
  (as.map V.ref).length 0 [some (.ref r),some (.ref σ.length),.none,.none,.none,.none] (σ++[.dict []]) (zo _) ⟨⟨_,_,_,_,rfl⟩,Gr.ol (Gr.app σ _),at_new σ _,fun _ _ h=>absurd h (y5 _)⟩
 rcases h with ⟨ρ',σ',h,⟨o2,o3,o4,o5,rfl⟩,k1,k2,ck⟩ | ⟨ρ',σ',h,k1,no⟩
 ·have el:(as.map V.ref).length=Rs.length:=(zb ..).trans R.len
  refine K (.inl ⟨oa_of el ck,σ',⟨σ.length,f_ret (fn:=f33_left_by) rfl (s_assign (v:=.ref σ.length) rfl rfl (s_forN (src_of rfl ((Gr.app σ _).at R.at_)) (after_next h (s_ret rfl)))),?_⟩,k1⟩)
  refine bw el ?_;exact k2
 ·exact K (.inr ⟨no,σ',f_ret (fn:=f33_left_by) rfl (s_assign (v:=.ref σ.length) rfl rfl (s_forN (src_of rfl ((Gr.app σ _).at R.at_)) (after_end h))),k1⟩)
end
end Mine.L13
namespace Mine.L13
open PySem Mine Mine.P
section
variable {ns:List Int}{C:Calls}{ρ:Env}{σ σ' σ₁ σ₂:H}{L:Kv}
theorem alike_ok (h1:∀ i σ,C.call 1 [.int i] σ=.ok (.bool true) σ) (s t:Option Int):evF ns C f11_is_alike [val s,val t] σ=.ok (.bool (decide (s=t))) σ:=by
 cases s with
 | none=>cases t with
  | none=>rfl
  | some j=>rfl
 | some i=>cases t with
  | none=>rfl
  | some j =>
   refine f_ret (fn:=f11_is_alike) rfl (s_ifF (orF rfl (or1 rfl)) (s_ret (andT (e_call rfl (h1 i σ)) (andT (e_call rfl (h1 j σ)) (and1 (e_cmp rfl rfl ((eqI i j).trans ?_)))))))
   congr 2
   exact decide_eq_decide.mpr ⟨fun q=>congrArg some q,fun q=>Option.some.inj q⟩
noncomputable abbrev Alike (C:Calls):Prop:=∀ s t σ,C.call 11 [val s,val t] σ=.ok (.bool (decide (s=t))) σ
theorem wseen_ok (h6:LastPl C) {a b:Nat}{ws:Ws} (ha:σ[a]?=some (.dict L)) (hb:σ[b]?=some (.list (wV ws))) (hz:ws.length<=1000) (hv:Vd L (vf L)) (n:List Nat):evF ns C f12_seen_by [.ref a,.ref b,.str n] σ=.ok (val (sb ws (vf L) n)) σ:=by
 obtain ⟨p,hp',q⟩:=h6 hb hz n
 have e3:Ev ns C [some (.ref a),some (.ref b),some (.str n),.none] (.call 6 [(.var 1),(.var 2)]) σ (.int p) σ:=e_call rfl hp'
 unfold LP at q
 replace q:=(look_lw ..)▸(zu ..)▸q
 unfold sb
 rcases q with ⟨rfl,q⟩ | ⟨j,t,rfl,q,q'⟩
 ·refine gw (show lw ws n=.none from f7.mp q) ?_
  exact f_ret (fn:=f12_seen_by) rfl (s_assign e3 rfl (s_ifF (e_cmp rfl rfl ((ge_ok _ _).trans rfl)) (s_ret (e_me rfl (kD ha rfl) rfl ((getD1 ha).trans (by refine gw (hv n ..) ?_;rfl))))))
 ·obtain ⟨hj,ej⟩:=zc.mp q
  refine gw (map_val q' ..) ?_
  exact f_ret (fn:=f12_seen_by) rfl (s_assign e3 rfl (s_ifT (e_cmp rfl rfl ((ge_ok _ _).trans (by exact gw (decide_eq_true (z8 j) ..) rfl))) (after_end (s_ret (e_idx (e_idx rfl rfl (idxL hb (z8 j) (by exact gw (xb ..) (gw (wV_at hj ..) (gw ej rfl))))) rfl rfl)))))
noncomputable abbrev WSeen (C:Calls):Prop:=∀ {σ:H}{L:Kv}{a b:Nat}{ws:Ws},σ[a]?=some (.dict L)->σ[b]?=some (.list (wV ws))->ws.length<=1000->Vd L (vf L)->∀ n,C.call 12 [.ref a,.ref b,.str n] σ=.ok (val (sb ws (vf L) n)) σ
theorem src_zip {e e':E}{l m:Nat}{xs ys:List V} (h:Ev ns C ρ e σ (.ref l) σ₁) (h':Ev ns C ρ e' σ₁ (.ref m) σ₂) (hl:σ₂[l]?=some (.list xs)) (hm:σ₂[m]?=some (.list ys)):evSrc ns C ρ (.zip e e') σ=.ok (.zip l m 0,xs.length) σ₂ :=
 bnd2 h (bnd2 h' (by show pick ((((listAt σ₂ l).map fun xs=>(l,xs.length)).bind fun p=>((listAt σ₂ m).map fun ys=>(m,ys.length)).map fun q=>(It.zip p.1 q.1 0,p.2))) σ₂=_;refine gw (listAt_of hl ..) (gw (listAt_of hm ..) ?_);rfl))
theorem next_zip {l m i:Nat}{xs ys:List V}{v w:V} (hl:σ[l]?=some (.list xs)) (hm:σ[m]?=some (.list ys)) (h:xs[i]?=some v) (h':ys[i]?=some w):nextIt (.zip l m i) σ=some (some (.tup [v,w],.zip l m (i + 1))):=by
 show ((listAt σ l).bind fun xs=>(listAt σ m).bind fun ys=>(xs[i]?).elim (some Option.none) fun v=>(ys[i]?).map fun w=>some (V.tup [v,w],It.zip l m (i + 1)))=_
 refine gw (listAt_of hl ..) (gw (listAt_of hm ..) ?_)
 show ((xs[i]?).elim (some Option.none) fun v=>(ys[i]?).map fun w=>some (V.tup [v,w],It.zip l m (i + 1)))=_
 refine gw h (gw h' ?_);rfl
theorem stop_zip {l m:Nat}{xs ys:List V} (hl:σ[l]?=some (.list xs)) (hm:σ[m]?=some (.list ys)):nextIt (.zip l m xs.length) σ=some .none:=by
 show ((listAt σ l).bind fun xs'=>(listAt σ m).bind fun ys=>(xs'[xs.length]?).elim (some Option.none) fun v=>(ys[xs.length]?).map fun w=>some (V.tup [v,w],It.zip l m (xs.length + 1)))=_
 refine gw (listAt_of hl ..) (gw (listAt_of hm ..) ?_)
 show ((xs[xs.length]?).elim (some Option.none) fun v=>(ys[xs.length]?).map fun w=>some (V.tup [v,w],It.zip l m (xs.length + 1)))=_
 refine gw (w6 (ze _) ..) ?_;rfl
theorem same_row_ok (h11:Alike C) {a b:Nat}{ps qs:Ps} (ha:σ[a]?=some (.list (pV ps))) (hb:σ[b]?=some (.list (pV qs))):evF ns C f14_is_same_row [.ref a,.ref b] σ=.ok (.bool (decide (ps=qs))) σ:=by
 refine cps fun G' K=>?_
 have hc:=e_cmp (ns:=ns) (C:=C) (ρ:=[some (.ref a),some (.ref b),.none,.none]) (a:=.bi .len (.var 0)) (b:=.bi .len (.var 1)) (e_bi rfl ((lenL ha).trans (by exact gw (pV_len ..) rfl))) (e_bi rfl ((lenL hb).trans (by exact gw (pV_len ..) rfl))) (neI _ _)
 by_cases hl:ps.length=qs.length
 ·replace hc:=(decide_eq_true (v5.mpr hl) ..)▸hc
  have h2:=for_or (tgt:=tgtP 2 3) (body:=fun ρ σ=>evSs ns C ρ σ [.ite (.or [(.cmp .ne (.idx (.var 2) (.lit (V.int 0))) (.idx (.var 3) (.lit (V.int 0)))),(.not (.call 11 [(.idx (.var 2) (.lit (V.int 1))),(.idx (.var 3) (.lit (V.int 1)))]))]) [.ret (.lit (V.bool false))] []]) (it:=fun i=>.zip a b i)
   (fun i ρ σ'=>(∃ o o':Option V,ρ=[some (.ref a),some (.ref b),o,o'])/\σ'=σ/\ps.take i=qs.take i) (fun R=>∃ ρ',R=.ok (.ret (.bool false)) ρ' σ/\ps≠qs) (pV ps).length (fun ρ σ' p=>by obtain ⟨_,rfl,_⟩:=p;exact stop_zip ha hb)
   (fun i ρ σ' hi p=>by
    refine an3 (p) fun q_0 q_1 e=>?_;obtain ⟨o,o',rfl⟩:=q_0;obtain rfl:=q_1
    have hi':i < ps.length:=by replace hi:=(pV_len ..)▸hi;exact hi
    have hi2:i < qs.length:=hl▸hi'
    have c2:Ev ns C [some (.ref a),some (.ref b),some (.tup [.str ps[i].1,.int ps[i].2]),some (.tup [.str qs[i].1,.int qs[i].2])] (.or [(.cmp .ne (.idx (.var 2) (.lit (V.int 0))) (.idx (.var 3) (.lit (V.int 0)))),(.not (.call 11 [(.idx (.var 2) (.lit (V.int 1))),(.idx (.var 3) (.lit (V.int 1)))]))]) σ' (.bool (!decide (ps[i].1=qs[i].1) || !decide (some ps[i].2=some qs[i].2))) σ':=or2 (e_cmp (e_idx rfl rfl rfl) (e_idx rfl rfl rfl) (neS _ _)) (e_not (e_call (es_two (e_idx rfl rfl rfl) (e_idx rfl rfl rfl)) (h11 (some ps[i].2) (some qs[i].2) σ')) rfl)
    refine ⟨_,_,next_zip ha hb (pV_at hi') (pV_at hi2),rfl,?_⟩
    by_cases q:ps[i]=qs[i]
    ·replace c2:=(decide_eq_true (congrArg (fun z:List Nat×Int=>some z.2) q))▸(decide_eq_true (congrArg Prod.fst q) ..)▸c2
     exact .inl ⟨_,_,s_ifF c2 ss_nil,⟨_,_,rfl⟩,rfl,by exact gw (take_at ps hi' ..) (gw (take_at qs hi2 ..) (gw e (gw q rfl)))⟩
    ·refine .inr ⟨_,s_ifT (c2.trans ?_) (after_end (s_ret rfl)),fun _=>rfl,_,rfl,pne (zf hi') (zf hi2) q⟩
     by_cases q1:ps[i].1=qs[i].1
     ·refine gw (decide_eq_true q1 ..) (gw (decide_eq_false (fun z=>q (Prod.ext q1 (Option.some.inj z)))) ?_);rfl
     ·refine gw (decide_eq_false q1 ..) ?_;rfl)
   (pV ps).length 0 [some (.ref a),some (.ref b),.none,.none] σ (zo _) ⟨⟨_,_,rfl⟩,rfl,rfl⟩
  rcases h2 with ⟨ρ',σ',h,⟨o,o',rfl⟩,rfl,e⟩ | ⟨ρ',h,e⟩
  ·replace e:=(zu ..)▸hl▸(zu ..)▸(pV_len ..)▸e
   replace K:=(decide_eq_true e ..)▸K
   exact K (f_ret (fn:=f14_is_same_row) rfl (s_ifF hc (s_forP (src_zip rfl rfl ha hb) (after_next h (s_ret rfl)))))
  ·replace K:=(decide_eq_false e ..)▸K
   exact K (f_ret (fn:=f14_is_same_row) rfl (s_ifF hc (s_forP (src_zip rfl rfl ha hb) (after_end h))))
 ·replace hc:=(decide_eq_false (fun q=>hl (v5.mp q)))▸hc
  replace K:=(decide_eq_false (fun q=>hl (congrArg ki q)))▸K
  exact K (f_ret (fn:=f14_is_same_row) rfl (s_ifT hc (after_end (s_ret rfl))))
noncomputable abbrev SameRow (C:Calls):Prop:=∀ {σ:H}{a b:Nat}{ps qs:Ps},σ[a]?=some (.list (pV ps))->σ[b]?=some (.list (pV qs))->C.call 14 [.ref a,.ref b] σ=.ok (.bool (decide (ps=qs))) σ
end
end Mine.L13
namespace Mine.L13
open PySem Mine Mine.P
section
variable {ns:List Int}{C:Calls}{ρ:Env}{σ σ' σ₁ σ₂:H}{L:Kv}
theorem wpairs_ok (h5:IsU C) (h12:WSeen C) {a b:Nat}{ws:Ws}{h:List Nat} (ha:σ[a]?=some (.dict L)) (hb:σ[b]?=some (.list (wV ws))) (hz:L.length + ws.length<=1000) (hv:Vd L (vf L)) (hn:(keysOf L).Nodup) :
  ∃ l σ',evF ns C f13_pairs_of [.ref a,.ref b,.str h] σ=.ok (.ref l) σ'/\Ol σ σ'/\σ'[l]?=some (.list (pV (und (sb ws (vf L)) h (sort lexLe (keysOf (put L ws)))))):=by
 refine cps fun G' K=>?_
 have hwz:ws.length<=1000:=za (vc _ _) hz
 have hP:(put L ws).length<=1000:=za (put_len _ _) hz
 obtain ⟨ρ',σ',h1,o4,o5,rfl,rfl⟩:=for_all (tgt:=tgtP 4 5) (body:=fun ρ σ=>evSs ns C ρ σ [.setitem (.var 3) (.var 4) (.var 5)]) (it:=fun i=>.list b i)
  (fun i ρ σ'=>∃ o o':Option V,ρ=[some (.ref a),some (.ref b),some (.str h),some (.ref σ.length),o,o',.none]/\σ'=σ++[.dict (put L (ws.take i))]) (wV ws).length
  (fun ρ σ' p=>by obtain ⟨o,o',rfl,rfl⟩:=p;exact stop_list ((Gr.app σ _).at hb))
  (fun i ρ σ' hi p=>by
   refine ex2 (p) fun o o' q_h=>?_;obtain ⟨q_2,q_3⟩:=q_h;obtain rfl:=q_2;obtain rfl:=q_3
   have hi':i < ws.length:=by rw [wV_len] at hi;exact hi
   have e:=put_snoc L (ws.take i) ws[i]
   replace e:=(take_at ws hi' ..)▸e
   refine ⟨_,_,_,_,next_list ((Gr.app σ _).at hb) (wV_at hi'),rfl,s_set rfl rfl rfl (setD (at_new σ _) (by refine bw e ?_;exact lm (za (put_len _ _) (za (yl (yv _ _) _) hz)))) ss_nil,_,_,rfl,?_⟩
   exact gw (set_new ..) (bw e rfl))
  (wV ws).length 0 [some (.ref a),some (.ref b),some (.str h),some (.ref σ.length),.none,.none,.none] (σ++[.dict L]) (zo _) ⟨_,_,rfl,rfl⟩
 rw [show ws.take (wV ws).length=ws by rw [wV_len,zu]] at h1
 let σ2:=σ++[O.dict (put L ws)]
 let σ3:=σ2++[O.list []]
 let σ4:=σ3++[O.list ((keysOf (put L ws)).map V.str)]
 let ks:=sort lexLe (keysOf (put L ws))
 let σ5:=σ4++[O.list (ks.map V.str)]
 have hkz:(keysOf (put L ws)).length<=1000:=by unfold keysOf;rw [zb];exact hP
 have hks:ks.length<=1000:=by show (sort _ _).length<=_;refine gw (sort_len ..) ?_;exact hkz
 have g5:Gr σ σ5:=(Gr.app σ _).tr ((Gr.app σ2 _).tr ((Gr.app σ3 _).tr (Gr.app σ4 _)))
 have p5:σ5[σ2.length]?=some (.list []):=((Gr.app σ3 _).tr (Gr.app σ4 _)).at (at_new σ2 _)
 have le2:σ.length<=σ2.length:=(Gr.app σ [O.dict (put L ws)]).length_le
 have n4:σ4.length≠σ2.length:=xt (zm (ol_lt (at_new σ2 (.list []))) (Gr.app σ3 [O.list ((keysOf (put L ws)).map V.str)]).length_le)
 obtain ⟨ρ9,σ9,h9,⟨q4,q5,rfl⟩,d9,k9⟩:=for_all (tgt:=tgtN 4) (body:=fun ρ σ=>evSs ns C ρ σ [.assign 5 (.call 12 [(.var 0),(.var 1),(.var 4)]),
  .ite (.and [(.call 5 [(.var 4),(.var 2)]),(.cmp .isnt (.var 5) (.lit V.none))]) [.expr (.me (.var 6) .append [(.tup [(.var 4),(.var 5)])])] []]) (it:=fun i=>.list σ4.length i)
  (fun i ρ' σ'=>(∃ o o',ρ'=[some (.ref a),some (.ref b),some (.str h),some (.ref σ.length),o,o',some (.ref σ2.length)])/\σ'[σ2.length]?=some (.list (pV (und (sb ws (vf L)) h (ks.take i))))/\∀ p o,p≠σ2.length->σ5[p]?=some o->σ'[p]?=some o) (ks.map V.str).length
  (fun ρ σ p=>stop_list (p.2.2 _ _ n4 (at_new σ4 _)))
  (fun i ρ' σ' hi p=>by
   refine cps fun G' K=>?_
   refine an3 (p) fun q_0 d kp=>?_;obtain ⟨o,o',rfl⟩:=q_0
   have hi':i < ks.length:=by replace hi:=(zb ..)▸hi;exact hi
   have old:Ol σ σ':=fun j o e=>kp j o (yj (zm (ol_lt e) le2)) (g5.at e)
   have ea:=h12 (old _ _ ha) (old _ _ hb) hwz hv ks[i]
   have ut:=und_take (f:=sb ws (vf L)) (h:=h) hi'
   have zi:=za (und_le (sb ws (vf L)) h (ks.take i)) (za (yv _ _) hks)
   unfold und1 at ut
   generalize sb ws (vf L) ks[i]=t at ea ut
   have hc:Ev ns C [some (.ref a),some (.ref b),some (.str h),some (.ref σ.length),some (.str ks[i]),some (val t),some (.ref σ2.length)] (.and [(.call 5 [(.var 4),(.var 2)]),(.cmp .isnt (.var 5) (.lit V.none))]) σ' (.bool (pre h ks[i] && !isNoneV (val t))) σ':=and2 (e_call rfl (h5 ks[i] h σ')) rfl
   have nx:=next_list (σ:=σ') (i:=i) (kp _ _ n4 (at_new σ4 _)) (show (ks.map V.str)[i]?=some (.str ks[i]) by refine gw (zv ..) (gw (zf hi' ..) ?_);rfl)
   have no:(pre h ks[i] && !isNoneV (val t))=false->und (sb ws (vf L)) h (ks.take (i + 1))=und (sb ws (vf L)) h (ks.take i)->G':=fun hq eq=>by
    replace hc:=hq▸hc
    exact K ⟨_,_,_,σ',nx,rfl,s_assign (e_call rfl ea) rfl (s_ifF hc ss_nil),⟨_,_,rfl⟩,by refine gw eq ?_;exact d,kp⟩
   cases hb':pre h ks[i] with
   | false=>replace ut:=hb'▸ut;exact no (by refine gw hb' ?_;rfl) (ut.trans (yi _))
   | true =>
    replace ut:=hb'▸ut
    cases t with
    | none=>exact no (by refine gw hb' ?_;rfl) (ut.trans (yi _))
    | some v =>
     rw [show (pre h ks[i] && !isNoneV (val (some v)))=true by rw [hb'];rfl] at hc
     refine K ⟨_,_,_,_,nx,rfl,s_assign (e_call rfl ea) rfl (s_ifT hc (after_next (s_expr (e_me rfl (kL d rfl) (es_one (tup_ok rfl rfl)) (appL d (by refine gw (pV_len ..) ?_;exact lm1 (za zi (by decide))))) ss_nil) ss_nil)),⟨_,_,rfl⟩,?_,fun p o h e=>set_off _ h (kp p o h e)⟩
     refine gw (set_on d ..) (gw ut ?_)
     unfold pV;refine gw (yg ..) ?_;rfl)
  (ks.map V.str).length 0 [some (.ref a),some (.ref b),some (.str h),some (.ref σ.length),o4,o5,some (.ref σ2.length)] σ5 (zo _) ⟨⟨_,_,rfl⟩,p5,fun _ _ _ e=>e⟩
 rw [show ks.take (ks.map V.str).length=ks by rw [zb,zu]] at d9
 have e4:biV ns .list (.ref σ.length) σ3=.ok (.ref σ3.length) σ4:=listD ((Gr.app σ2 _).at (at_new σ _)) hP
 exact K ⟨σ2.length,σ9,f_ret (fn:=f13_pairs_of) rfl (s_assign (e_bi rfl (dictD ha (lm (za (zp _ _) hz)))) rfl (s_forP (src_of rfl ((Gr.app σ _).at hb)) (after_next h1 (s_assign (e_list rfl (z7 _)) rfl (s_forN (src_of (e_bi (e_bi rfl e4) (sortL (by unfold itemsV;dsimp only;exact gw (at_new σ3 _ ..) rfl) hkz (put_nodup _ _ hn))) (at_new σ4 _)) (after_next h9 (s_ret rfl))))))),fun j o e=>k9 j o (yj (zm (ol_lt e) le2)) (g5.at e),d9⟩
noncomputable abbrev WPairs (C:Calls):Prop:=∀ {σ:H}{L:Kv}{a b:Nat}{ws:Ws}{h:List Nat},σ[a]?=some (.dict L)->σ[b]?=some (.list (wV ws))->L.length + ws.length<=1000->Vd L (vf L)->(keysOf L).Nodup->∃ l σ',C.call 13 [.ref a,.ref b,.str h] σ=.ok (.ref l) σ'/\Ol σ σ'/\σ'[l]?=some (.list (pV (und (sb ws (vf L)) h (sort lexLe (keysOf (put L ws))))))
end
end Mine.L13
namespace Mine.L13
open PySem Mine Mine.P
theorem look_none (n:List Nat):∀ (ws:Ws) (o:Option V),look o ws n=(look .none ws n).or o:=by
 intro ws
 induction ws with
 | nil=>intro o;rfl
 | cons p ws ih =>
  intro o
  show look (if p.1=n then some (val p.2) else o) ws n=(look (if p.1=n then some (val p.2) else .none) ws n).or o
  split
  ·refine gw (ih (some _) ..) (gw (Option.or_assoc ..) ?_);rfl
  ·exact ih o
theorem Vd.put2 {d:Kv}{f:List Nat->Option Int} (h:Vd d f) (ws:Ws):Vd (Mine.L13.put d ws) (sb ws f):=fun n=>by
 unfold get
 rw [put_get,look_none,look_lw]
 unfold sb
 cases lw ws n with
 | none=>exact h n
 | some t=>rfl
noncomputable def dnB:List S:=[.ite (.cmp .eq (.idx (.var 3) (.lit (V.int 0))) (.lit (V.str [114,101,97,100]))) [.ite (.not (.call 11 [(.call 12 [(.var 0),(.var 2),(.idx (.var 3) (.lit (V.int 1)))]),(.idx (.var 3) (.lit (V.int 2)))])) [.raise 9] []] [.ite (.cmp .eq (.idx (.var 3) (.lit (V.int 0))) (.lit (V.str [117,110,100,101,114]))) [.ite (.not (.call 14 [(.call 13 [(.var 0),(.var 2),(.idx (.var 3) (.lit (V.int 1)))]),(.idx (.var 3) (.lit (V.int 2)))])) [.raise 9] []] [.ite (.cmp .eq (.idx (.var 3) (.lit (V.int 0))) (.lit (V.str [119,114,105,116,101]))) [.assign 2 (.bin .add (.var 2) (.list [(.tup [(.idx (.var 3) (.lit (V.int 1))),(.idx (.var 3) (.lit (V.int 2)))])]))] [.assign 2 (.slice (.var 2) .nil (.idx (.var 3) (.lit (V.int 1))))]]]]
section
variable {ns:List Int}{C:Calls}{ρ:Env}{σ σ':H}{L:Kv}{xs:List (List Nat)}
theorem done_ok (h11:Alike C) (h12:WSeen C) (h13:WPairs C) (h14:SameRow C) (hxs:xs.length<=137) {a b:Nat}{qs:List (Dd×Nat)} (F:Lf L xs) (w:Rw xs (ds qs)) (ha:σ[a]?=some (.dict L)) (hb:σ[b]?=some (.list (dVs qs))) (hq:∀ p∈qs,okD (of σ) p) :
  (Or L (ds qs)/\∃ l σ',evF ns C f15_done_by [.ref a,.ref b] σ=.ok (.ref l) σ'/\σ'[l]?=some (.list (wV (wss (ds qs))))/\Ol σ σ')∨(¬ Or L (ds qs)/\∃ σ',evF ns C f15_done_by [.ref a,.ref b] σ=.exc 9 σ'/\Ol σ σ'):=by
 refine cps fun G' K=>?_
 have h:=for_or (tgt:=tgtN 3) (body:=fun ρ σ=>evSs ns C ρ σ dnB) (it:=fun i=>.list b i)
  (fun i ρ σ'=>∃ l o3,ρ=[some (.ref a),some (.ref b),some (.ref l),o3]/\Ol σ σ'/\σ'[l]?=some (.list (wV (wss ((ds qs).take i))))/\∀ j d,j < i->(ds qs)[j]?=some d->Ck L (wss ((ds qs).take j)) d) (fun R=>∃ ρ' σ',R=.exc 9 ρ' σ'/\Ol σ σ'/\¬ Or L (ds qs)) (dVs qs).length
  (fun ρ σ' p=>by obtain ⟨l,o3,_,k1,_⟩:=p;exact stop_list (k1 b _ hb))
  (fun i ρ σ' hi p=>by
   refine cps fun G' K=>?_
   refine ex2 (p) fun l o3 q_h=>?_;refine an4 q_h fun q_2 k1 k3 ck=>?_;obtain rfl:=q_2
   have hi':i < qs.length:=by rw [dVs_len] at hi;exact hi
   have hm:=ds_at hi'
   have sn:=sn_eq hm
   have wl:=w.wl i
   have cn:Ck L (wss ((ds qs).take i)) qs[i].1->∀ j d,j < i + 1->(ds qs)[j]?=some d->Ck L (wss ((ds qs).take j)) d:=fun c j d hj e=>by
    rcases vz (z4 hj) with q | q
    ·exact ck j d q e
    ·subst q;rw [hm] at e;cases e;exact c
   have cx:¬ Ck L (wss ((ds qs).take i)) qs[i].1->¬ Or L (ds qs):=fun c q=>c (q i _ hm)
   generalize wss ((ds qs).take i)=wi at sn wl k3 cn cx
   have wz:wi.length<=1000:=za wl (by decide)
   have nx:=next_list (k1 b _ hb) (dVs_at hi')
   have ho:=hq _ (ye hi')
   cases hdd:qs[i].1 with
   | wr x t =>
    rw [hdd] at sn cn
    have e1:dV qs[i]=.tup [.str [119,114,105,116,101],.str x,val t]:=by unfold dV;rw [hdd]
    rw [e1] at nx
    have g1:Gr σ' (σ'++[O.list [.tup [.str x,val t]]]):=Gr.app _ _
    refine K ⟨_,_,nx,rfl,.inl ⟨_,_,s_if (p:=false) (e_cmp (e_idx rfl rfl rfl) rfl ((eqS _ _).trans rfl)) (after_next (s_if (p:=false) (e_cmp (e_idx rfl rfl rfl) rfl ((eqS _ _).trans rfl)) (after_next (s_ifT (e_cmp (e_idx rfl rfl rfl) rfl ((eqS _ _).trans (by rw [decide_eq_true rfl]))) (after_next (s_assign (e_bin rfl (e_list (es_one (tup_ok (es_two (e_idx rfl rfl rfl) (e_idx rfl rfl rfl)) rfl)) (by show 1<=lim;decide)) (addL (g1.at k3) (at_new σ' _) (by rw [wV_len];exact lm1 (za wl (by decide))))) rfl ss_nil) ss_nil)) ss_nil)) ss_nil),_,_,rfl,fun j o e=>(Gr.app _ _).at (g1.at (k1 j o e)),?_,cn trivial⟩⟩
    rw [at_new,sn,wV_snoc];rfl
   | bk m =>
    rw [hdd] at sn cn
    have e1:dV qs[i]=.tup [.str [98,97,99,107],.int m]:=by unfold dV;rw [hdd]
    rw [e1] at nx
    refine K ⟨_,_,nx,rfl,.inl ⟨_,_,s_if (p:=false) (e_cmp (e_idx rfl rfl rfl) rfl ((eqS _ _).trans rfl)) (after_next (s_if (p:=false) (e_cmp (e_idx rfl rfl rfl) rfl ((eqS _ _).trans rfl)) (after_next (s_if (p:=false) (e_cmp (e_idx rfl rfl rfl) rfl ((eqS _ _).trans rfl)) (after_next (s_assign (e_slice rfl rfl (e_idx rfl rfl rfl) ((slL (lo:=.none) (hi:=some (m:Int)) k3 rfl rfl (by rw [wV_len];exact lm wz)).trans (by rw [wV_take]))) rfl ss_nil) ss_nil)) ss_nil)) ss_nil),_,_,rfl,fun j o e=>(Gr.app _ _).at (k1 j o e),?_,cn trivial⟩⟩
    rw [at_new,sn];rfl
   | rd x t =>
    rw [hdd] at sn cn cx
    have e1:dV qs[i]=.tup [.str [114,101,97,100],.str x,val t]:=by unfold dV;rw [hdd]
    rw [e1] at nx
    have ce:Ev ns C [some (.ref a),some (.ref b),some (.ref l),some (.tup [.str [114,101,97,100],.str x,val t])] (.not (.call 11 [(.call 12 [(.var 0),(.var 2),(.idx (.var 3) (.lit (V.int 1)))]),(.idx (.var 3) (.lit (V.int 2)))])) σ' (.bool (!decide (sb wi (vf L) x=t))) σ':=e_not (e_call (es_two (e_call (es_three rfl rfl (e_idx rfl rfl rfl)) (h12 (k1 _ _ ha) k3 wz F.v x)) (e_idx rfl rfl rfl)) (h11 _ t σ')) rfl
    by_cases q:t=sb wi (vf L) x
    ·rw [decide_eq_true q.symm] at ce
     refine K ⟨_,_,nx,rfl,.inl ⟨_,_,s_ifT (e_cmp (e_idx rfl rfl rfl) rfl ((eqS _ _).trans (by rw [decide_eq_true rfl]))) (after_next (s_ifF ce ss_nil) ss_nil),_,_,rfl,k1,?_,cn q⟩⟩
     rw [sn];exact k3
    ·rw [decide_eq_false fun z=>q z.symm] at ce
     exact K ⟨_,_,nx,rfl,.inr ⟨_,s_ifT (e_cmp (e_idx rfl rfl rfl) rfl ((eqS _ _).trans (by rw [decide_eq_true rfl]))) (after_exc (s_ifT ce (after_exc s_raise))),fun _=>rfl,_,_,rfl,k1,cx q⟩⟩
   | un x ps =>
    rw [hdd] at sn cn cx
    have e1:dV qs[i]=.tup [.str [117,110,100,101,114],.str x,.ref qs[i].2]:=by unfold dV;rw [hdd]
    rw [e1] at nx
    have ho':σ[qs[i].2]?=some (.list (pV ps))/\ps.length<=1000:=by unfold okD at ho;rw [hdd] at ho;exact ho
    refine ex2 (h13 (h:=x) (k1 _ _ ha) k3 (za (xc (F.le hxs) wl) (by decide)) F.v F.nd) fun l' σ2 q_h=>?_;refine an3 q_h fun e13 k2 a2=>?_
    rw [und_eq (put_nodup _ _ F.nd) (dputs_nodup _ _ F.nd) (fun n _ q=>(F.v.put2 wi).key q) (fun n _ q=>(F.v.put wi).key q)] at a2
    have k4:Ol σ σ2:=fun j o e=>k2 j o (k1 j o e)
    have ce:Ev ns C [some (.ref a),some (.ref b),some (.ref l),some (.tup [.str [117,110,100,101,114],.str x,.ref qs[i].2])] (.not (.call 14 [(.call 13 [(.var 0),(.var 2),(.idx (.var 3) (.lit (V.int 1)))]),(.idx (.var 3) (.lit (V.int 2)))])) σ' (.bool (!decide (und (sb wi (vf L)) x (sort lexLe (keysOf (dputs L (put [] wi))))=ps))) σ2:=e_not (e_call (es_two (e_call (es_three rfl rfl (e_idx rfl rfl rfl)) e13) (e_idx rfl rfl rfl)) (h14 a2 (k4 _ _ ho'.1))) rfl
    by_cases q:ps=und (sb wi (vf L)) x (sort lexLe (keysOf (dputs L (put [] wi))))
    ·rw [decide_eq_true q.symm] at ce
     refine K ⟨_,_,nx,rfl,.inl ⟨_,_,s_if (p:=false) (e_cmp (e_idx rfl rfl rfl) rfl ((eqS _ _).trans rfl)) (after_next (s_ifT (e_cmp (e_idx rfl rfl rfl) rfl ((eqS _ _).trans (by rw [decide_eq_true rfl]))) (after_next (s_ifF ce ss_nil) ss_nil)) ss_nil),_,_,rfl,k4,?_,cn q⟩⟩
     rw [sn];exact k2 _ _ k3
    ·rw [decide_eq_false fun z=>q z.symm] at ce
     exact K ⟨_,_,nx,rfl,.inr ⟨_,s_if (p:=false) (e_cmp (e_idx rfl rfl rfl) rfl ((eqS _ _).trans rfl)) (after_exc (s_ifT (e_cmp (e_idx rfl rfl rfl) rfl ((eqS _ _).trans (by rw [decide_eq_true rfl]))) (after_exc (s_ifT ce (after_exc s_raise))))),fun _=>rfl,_,_,rfl,k4,cx q⟩⟩)
  (dVs qs).length 0 [some (.ref a),some (.ref b),some (.ref σ.length),.none] (σ++[.list []]) (zo _) ⟨_,_,rfl,Gr.ol (Gr.app σ _),at_new σ _,fun _ _ h=>absurd h (y5 _)⟩
 rcases h with ⟨ρ',σ',h,l,o3,rfl,k1,k3,ck⟩ | ⟨ρ',σ',h,k1,no⟩
 ·have el:(ds qs).length=(dVs qs).length:=by unfold ds;rw [zb,dVs_len]
  rw [← el,zu] at k3
  exact K (.inl ⟨fun i d e=>ck i d (el▸(zc.mp e).1) e,l,σ',f_ret (fn:=f15_done_by) rfl (s_assign (e_list rfl (z7 _)) rfl (s_forN (src_of rfl ((Gr.app σ _).at hb)) (after_next h (s_ret rfl)))),k3,k1⟩)
 ·exact K (.inr ⟨no,σ',f_exc (fn:=f15_done_by) rfl (s_assign (e_list rfl (z7 _)) rfl (s_forN (src_of rfl ((Gr.app σ _).at hb)) (after_exc h))),k1⟩)
noncomputable abbrev DoneF (C:Calls):Prop:=∀ {σ:H}{L:Kv}{xs:List (List Nat)},xs.length<=137->∀ {a b:Nat}{qs:List (Dd×Nat)},Lf L xs->Rw xs (ds qs)->σ[a]?=some (.dict L)->σ[b]?=some (.list (dVs qs))->(∀ p∈qs,okD (of σ) p) ->
  (Or L (ds qs)/\∃ l σ',C.call 15 [.ref a,.ref b] σ=.ok (.ref l) σ'/\σ'[l]?=some (.list (wV (wss (ds qs))))/\Ol σ σ')∨(¬ Or L (ds qs)/\∃ σ',C.call 15 [.ref a,.ref b] σ=.exc 9 σ'/\Ol σ σ')
theorem walked_ok (h7:Values C) (h15:DoneF C) (hxs:xs.length<=137) {r:Nat}{as:List Nat}{Rs:List (List (Dd×Nat))} (R:Ra σ r as Rs) (w:∀ q∈Rs,Rw xs (ds q)) :
  We σ Rs (fun σ'=>∃ l,evF ns C f16_walked [.ref r] σ=.ok (.ref l) σ'/\σ'[l]?=some (.list (pV (und (vf (st (Ds Rs) Rs.length)) [] (sort lexLe (keysOf (st (Ds Rs) Rs.length))))))) (fun σ'=>evF ns C f16_walked [.ref r] σ=.exc 9 σ'):=by
 refine cps fun G' K=>?_
 have hF:=Lf.st (Ds_rw w)
 have h:=for_or (tgt:=tgtN 2) (body:=fun ρ σ=>evSs ns C ρ σ [.expr (.me (.var 1) .update [(.call 7 [(.call 15 [(.var 1),(.var 2)])])])]) (it:=fun i=>.list r i)
  (fun i ρ σ'=>(∃ o2,ρ=[some (.ref r),some (.ref σ.length),o2])/\Ol σ σ'/\σ'[σ.length]?=some (.dict (st (Ds Rs) i))/\∀ j d,j < i->(Ds Rs)[j]?=some d->Or (st (Ds Rs) j) d) (fun R=>∃ ρ' σ',R=.exc 9 ρ' σ'/\Ol σ σ'/\¬ Oa (Ds Rs)) (as.map V.ref).length
  (fun ρ σ' p=>stop_list (p.2.1 _ _ R.at_))
  (fun i ρ σ' hi p=>by
   refine cps fun G' K=>?_
   obtain ⟨q_0,q_h⟩:=(p);refine an3 q_h fun k1 k2 ck=>?_;obtain ⟨o2,rfl⟩:=q_0
   have hi1:i < as.length:=by rw [zb] at hi;exact hi
   have hi2:i < Rs.length:=R.len▸hi1
   obtain ⟨a1,a2⟩:=(R.ol k1).row i hi1 hi2
   have w1:=w _ (ye hi2)
   have nx:=next_list (k1 _ _ R.at_) (show (as.map V.ref)[i]?=some (.ref as[i]) by rw [zv,zf hi1];rfl)
   refine K ⟨_,_,nx,rfl,?_⟩
   rcases h15 hxs (hF i) w1 k2 a1 a2 with ⟨oo,l,σ2,e2,b2,k3⟩ | ⟨oo,σ2,e2,k3⟩
   ·have z:=put_z (hF i) hxs w1
    have g3:Gr σ2 (σ2++[O.dict (put [] (wss (ds Rs[i])))]):=Gr.app _ _
    have k4:Ol σ (σ2++[O.dict (put [] (wss (ds Rs[i])))]):=fun j o e=>g3.at (k3 j o (k1 j o e))
    have k5:=g3.at (k3 _ _ k2)
    refine .inl ⟨_,_,s_expr (e_me rfl (kD k2 rfl) (es_one (e_call (es_one (e_call rfl e2)) (h7 b2 z.2))) (updD k5 (at_new _ _) (xt (ol_lt (k3 _ _ k2))) z.1)) ss_nil,⟨_,rfl⟩,k4.set (ze _) _,?_,oa_next hi2 ck oo⟩
    rw [set_on k5,st_succ (Ds_at hi2)];rfl
   ·exact .inr ⟨_,s_exprX (bnd2 rfl (bnd2 (kD k2 rfl) (bndx (bndx (bndx (bndx (e_callX rfl e2))))))),fun _=>rfl,_,_,rfl,fun j o e=>k3 j o (k1 j o e),fun q=>oo (q i _ (Ds_at hi2))⟩)
  (as.map V.ref).length 0 [some (.ref r),some (.ref σ.length),.none] (σ++[.dict []]) (zo _) ⟨⟨_,rfl⟩,Gr.ol (Gr.app σ _),at_new σ _,fun _ _ h=>absurd h (y5 _)⟩
 rcases h with ⟨ρ',σ',h,⟨o2,rfl⟩,k1,k2,ck⟩ | ⟨ρ',σ',h,k1,no⟩
 ·have el:(as.map V.ref).length=Rs.length:=(zb ..).trans R.len
  rw [el] at k2
  have F:=hF Rs.length
  have oa:=oa_of el ck
  generalize st (Ds Rs) Rs.length=L at k2 F K
  have hz:(keysOf L).length<=1000:=by unfold keysOf;rw [zb];exact za (F.le hxs) (by decide)
  let σ1:=σ'++[O.list ((keysOf L).map V.str)]
  let ks:=sort lexLe (keysOf L)
  let σ2:=σ1++[O.list (ks.map V.str)]
  have hg:=some_of (ns:=ns) (C:=C) (ρ:=[some (.ref r),some (.ref σ.length),o2]) (v:=1) (σ:=σ2) (l:=σ1.length) (g:=vf L) (lo:=ks) rfl ((Gr.app σ1 _).at ((Gr.app σ' _).at k2)) F.v (fun n q=>(j9 (keysOf L) _).mem_iff.mp q) (at_new σ1 _) (by show (sort _ _).length<=_;rw [sort_len];exact hz) (by show 1 < 3;decide)
  have e1:biV ns .list (.ref σ.length) σ'=.ok (.ref σ'.length) σ1:=listD k2 (za (F.le hxs) (by decide))
  refine K (.inl ⟨oa,σ2++[.list (pV (und (vf L) [] ks))],⟨σ2.length,f_ret (fn:=f16_walked) rfl (s_assign (v:=.ref σ.length) rfl rfl (s_forN (src_of rfl ((Gr.app σ _).at R.at_)) (after_next h (s_ret (e_compIf (src_of (e_bi (e_bi rfl e1) (sortL (by unfold itemsV;dsimp only;rw [at_new σ' _]) hz F.nd)) (at_new σ1 _)) ?_))))),at_new _ _⟩,fun j o e=>(Gr.app _ _).at ((Gr.app _ _).at ((Gr.app _ _).at (k1 j o e)))⟩)
  rw [zb];exact hg
 ·exact K (.inr ⟨no,σ',f_exc (fn:=f16_walked) rfl (s_assign (v:=.ref σ.length) rfl rfl (s_forN (src_of rfl ((Gr.app σ _).at R.at_)) (after_exc h))),k1⟩)
end
end Mine.L13
namespace Mine.L13
open PySem Mine Mine.P
noncomputable abbrev LeftF (C:Calls):Prop:=∀ {σ:H}{xs:List (List Nat)}{r:Nat}{as:List Nat}{Rs:List (List (Dd×Nat))},(∀ x∈xs,x.length<=12)->xs.length<=137->Ra σ r as Rs->(∀ q∈Rs,Rw xs (ds q))->We σ Rs (fun σ'=>∃ l,C.call 33 [.ref r] σ=.ok (.ref l) σ'/\σ'[l]?=some (.dict (st (Ds Rs) Rs.length))) (fun σ'=>C.call 33 [.ref r] σ=.ok .none σ')
noncomputable abbrev WalkedF (C:Calls):Prop:=∀ {σ:H}{xs:List (List Nat)},xs.length<=137->∀ {r:Nat}{as:List Nat}{Rs:List (List (Dd×Nat))},Ra σ r as Rs->(∀ q∈Rs,Rw xs (ds q))->We σ Rs (fun σ'=>∃ l,C.call 16 [.ref r] σ=.ok (.ref l) σ'/\σ'[l]?=some (.list (pV (und (vf (st (Ds Rs) Rs.length)) [] (sort lexLe (keysOf (st (Ds Rs) Rs.length))))))) (fun σ'=>C.call 16 [.ref r] σ=.exc 9 σ')
section
variable {ns:List Int}{C:Calls}{ρ:Env}{σ σ':H}{xs:List (List Nat)}{G:Fz}{S:St}{P:Pl}
theorem walks_ok (hsub:C.sub=subS) (h16:WalkedF C) (h26:PairsL C) (h28:ToldL C) (h33:LeftF C) (hx:∀ x∈xs,x.length<=12) (hxs:xs.length<=137) {r:Nat}{as:List Nat}{Rs:List (List (Dd×Nat))} (R:Ra σ r as Rs) (w:∀ q∈Rs,Rw xs (ds q)):∃ σ',evF ns C f34_walks [.ref r] σ=.ok (.bool true) σ'/\Ol σ σ':=by
 refine cps fun G' K=>?_
 have F:=Lf.st (Ds_rw w) Rs.length
 rcases h33 hx hxs R w with ⟨oa,σ1,⟨l,e1,a1⟩,k1⟩ | ⟨no,σ1,e1,k1⟩
 ·rcases h16 hxs (R.ol k1) w with ⟨-,σ2,⟨l2,e2,a2⟩,k2⟩ | ⟨no,-⟩
  ·generalize st (Ds Rs) Rs.length=L at a1 a2 F
   have a1':=k2 _ _ a1
   have z:=F.le hxs
   refine ex2 (h28 (σ:=σ2++[O.dict []]) (j:=σ2.length) (g:=vf L) ((Gr.app _ _).at a1') (at_new σ2 _) (za z (by decide)) F.nd F.v (fun n q=>hx n (F.nm n q)) []) fun l3 σ3 q_h=>?_;refine an3 q_h fun e3 g3 a3=>?_
   rw [show dputs L []=L from rfl] at a3
   refine K ⟨σ3,f_ret (fn:=f34_walks) rfl (s_assign (e_call rfl e1) rfl (s_try (f:=.next) (s_assign (e_call rfl e2) rfl ss_nil) (after_next rfl (s_ret (andT rfl (and1 (e_call (es_two rfl (e_call (es_three rfl rfl rfl) e3)) ((h26 (g3.at ((Gr.app _ _).at a2)) a3 ?_).trans (by rw [decide_eq_true rfl]))))))))),fun i o e=>g3.at ((Gr.app _ _).at (k2 _ _ (k1 _ _ e)))⟩
   refine za (und_le _ _ _) ?_
   rw [sort_len,keysOf,zb]
   exact za z (by decide)
  ·exact absurd oa no
 ·rcases h16 hxs (R.ol k1) w with ⟨oa,-⟩ | ⟨-,σ2,e2,k2⟩
  ·exact absurd oa no
  ·exact K ⟨σ2,f_ret (fn:=f34_walks) rfl (s_assign (e_call rfl e1) rfl (s_tryX (by rw [hsub];rfl) (s_assignX (e_callX rfl e2)) rfl)),fun i o e=>k2 _ _ (k1 _ _ e)⟩
structure Vn (l:List (Nat×Option Int)) (m:Nat):Prop where
 up:l.Pairwise fun p q=>p.1 < q.1
 le:∀ p∈l,0 < p.1/\p.1<=m
theorem hV_len (l:List (Nat×Option Int)):(hV l).length=l.length:=zb ..
theorem versions_ok (hm:C.mlook=mlookOf T0) (h41:NeedN C) (I:Inv G S P σ) (hh:∀ x,x∉S.names->S.hist x=[]) {x:List Nat} (hx:Nm x) (hz:(S.hist x).length<=1000):∃ l σ',evF ns C f59_Shelf_versions [sh P,.str x] σ=.ok (.ref l) σ'/\Gr σ σ'/\σ'[l]?=some (.list (hV (S.hist x))):=by
 obtain ⟨σ1,e1,g1⟩:=h41 (sh P) σ hx
 have I1:=I.gr g1
 obtain ⟨l,e2,hl⟩:=stock_get (ns:=ns) (C:=C) (ρ:=[some (sh P),some (.str x)]) (i:=1) I1 hh rfl rfl
 exact ⟨_,_,f_ret (fn:=f59_Shelf_versions) rfl (s_expr (e_mcall rfl (look_ok hm (I.b 0 (by decide)) rfl rfl) rfl e1) (s_ret (e_bi e2 (listL hl (by rw [hV_len];exact hz))))),g1.tr ((Gr.app _ _).tr (Gr.app _ _)),at_new _ _⟩
theorem moment_ok (I:Inv G S P σ):evF ns C f55_Shelf_moment [sh P] σ=.ok (.int S.row.length) σ:=f_ret (fn:=f55_Shelf_moment) rfl (s_ret (e_bi (e_attr rfl (sh_row I)) (len_row I)))
noncomputable abbrev VersF (C:Calls):Prop:=∀ {G:Fz}{S:St}{P:Pl}{σ:H},Inv G S P σ->(∀ x,x∉S.names->S.hist x=[])->∀ {x:List Nat},Nm x->(S.hist x).length<=1000->∃ l σ',C.call 59 [sh P,.str x] σ=.ok (.ref l) σ'/\Gr σ σ'/\σ'[l]?=some (.list (hV (S.hist x)))
theorem good_ok (hm:C.mlook=mlookOf T0) (h18:∀ i σ,C.call 18 [.int i] σ=.ok (.bool true) σ) (h25:Same C) (h55:∀ {G:Fz}{S:St}{P:Pl}{σ:H},Inv G S P σ->C.call 55 [sh P] σ=.ok (.int S.row.length) σ) (h59:VersF C) (I:Inv G S P σ) (hh:∀ x,x∉S.names->S.hist x=[]) {x:List Nat} (hx:Nm x) (hz:(S.hist x).length<=1000) (v:Vn (S.hist x) S.row.length) :
  ∃ σ',evF ns C f35_versions_good [sh P,.str x,val (amv (S.hist x) S.row.length)] σ=.ok (.bool true) σ'/\Gr σ σ':=by
 refine cps fun G' K=>?_
 refine ex2 (h59 I hh hx hz) fun l σ1 q_h=>?_;refine an3 q_h fun e1 g1 a1=>?_
 have I1:=I.gr g1
 generalize S.hist x=hs at *
 generalize hvv:val (amv hs S.row.length)=vv at K
 obtain ⟨ρ',σ',h,n,o,rfl,rfl,hn,-⟩:=for_all (tgt:=tgtN 6) (body:=fun ρ σ=>evSs ns C ρ σ [.ite (.or [(.not (.isi (.var 6) .tuple)),(.cmp .ne (.bi .len (.var 6)) (.lit (V.int 2))),(.not (.call 18 [(.idx (.var 6) (.lit (V.int 0)))])),(.cmp .le (.idx (.var 6) (.lit (V.int 0))) (.var 4))]) [.dead] [],
  .assign 4 (.idx (.var 6) (.lit (V.int 0))),
  .assign 5 (.idx (.var 6) (.lit (V.int 1)))]) (it:=fun i=>.list l i)
  (fun i ρ σ'=>∃ (n:Nat) (o:Option V),ρ=[some (sh P),some (.str x),some vv,some (.ref l),some (.int n),some (val (amv (hs.take i) S.row.length)),o]/\σ'=σ1/\n<=S.row.length/\∀ p∈hs.drop i,n < p.1) (hV hs).length
  (fun ρ σ' p=>by obtain ⟨_,_,_,rfl,_⟩:=p;exact stop_list a1)
  (fun i ρ σ' hi p=>by
   refine ex2 (p) fun n o q_h=>?_;refine an4 q_h fun q_2 q_3 hn hd=>?_;obtain rfl:=q_2;obtain rfl:=q_3
   have hi':i < hs.length:=by rw [hV_len] at hi;exact hi
   have dr:=y8 hi'
   have hlt:n < hs[i].1:=hd _ (by rw [dr];exact zh)
   have es:=amv_snoc (hs.take i) hs[i] S.row.length
   rw [← take_at _ hi',if_pos (v.le _ (ye hi')).2] at es
   have up:=v.up.sublist (vg i hs)
   rw [dr] at up
   refine ⟨_,_,_,_,next_list a1 (hV_at hi'),rfl,s_ifF (orF (e_not (e_isi rfl rfl) rfl) (orF (e_cmp (e_bi rfl rfl) rfl rfl) (orF (e_not (e_call (es_one (e_idx rfl rfl rfl)) (h18 _ σ')) rfl) (or1 (e_cmp (e_idx rfl rfl rfl) rfl (le_f (j4.mpr (vw.mpr hlt)))))))) (s_assign (e_idx rfl rfl rfl) rfl (s_assign (e_idx rfl rfl rfl) rfl ss_nil)),hs[i].1,_,by rw [es];rfl,rfl,(v.le _ (ye hi')).2,fun p hp=>(jc.mp up).1 p hp⟩)
  (hV hs).length 0 [some (sh P),some (.str x),some vv,some (.ref l),some (.int 0),some .none,.none] σ1 (zo _) ⟨0,_,rfl,rfl,z7 _,fun p hp=>(v.le p hp).1⟩
 rw [show hs.take (hV hs).length=hs by rw [hV_len,zu]] at h
 have e25:=h25 (amv hs S.row.length) (amv hs S.row.length) σ'
 rw [hvv,decide_eq_true rfl] at e25
 rw [hvv] at h
 exact K ⟨σ',f_ret (fn:=f35_versions_good) rfl (s_assign (e_mcall rfl (look_ok hm (I.b 0 (by decide)) rfl rfl) rfl e1) rfl (s_ifF (e_not (e_isi rfl (isL a1)) rfl) (s_assign rfl rfl (s_assign rfl rfl (s_forN (src_of rfl a1) (after_next h (s_ret (andT (e_cmp rfl (e_mcall rfl (look_ok hm (I1.b 0 (by decide)) rfl rfl) rfl (h55 I1)) (le_t (yw.mpr hn))) (and1 (e_call rfl e25)))))))))),g1⟩
end
end Mine.L13
namespace Mine.L13
open PySem Mine Mine.P
noncomputable def cnt (t:Nat) (l:List (Nat×Option Int)):Nat:=(l.filter fun p=>decide (p.1<=t)).length
noncomputable def cutv (t:Nat) (l:List (Nat×Option Int)):List (Nat×Option Int):=l.drop (cnt t l - 1)
theorem cnt_le (t:Nat) (l:List (Nat×Option Int)):cnt t l<=l.length:=u7 _ _
theorem cm1 {c:Nat} (h:(0:Int) < (c:Int) - 1):(c:Int) - 1=((c - 1:Nat):Int):=by
 cases c with
 | zero=>exact absurd h (by decide)
 | succ n=>exact v1 (n:Int) 1
theorem cm0 {c:Nat} (h:¬ (0:Int) < (c:Int) - 1):c - 1=0:=by
 cases c with
 | zero=>rfl
 | succ n =>
  cases n with
  | zero=>rfl
  | succ k=>exact absurd (vu (uv.mpr (ja k)) (Int.le_of_eq (v1 ((k + 1:Nat):Int) 1).symm)) h
theorem cut_end {α:Type} (xs:List α) (k:Nat) (h:k<=xs.length):cut xs (some (k:Int)) .none=xs.drop k:=by
 show (xs.drop (clampN k xs.length)).take (xs.length - clampN k xs.length)=_
 have e:clampN k xs.length=k:=by unfold clampN;exact gw (if_pos (z8 k) ..) (gw (xb ..) (gw (yf h ..) rfl))
 rw [e,← w5,zu]
theorem hV_drop (k:Nat) (l:List (Nat×Option Int)):(hV l).drop k=hV (l.drop k):=zau.symm
theorem dput_map (f:List Nat->V) (x:List Nat) (v:V):∀ {l:List (List Nat)},x∈l->l.Nodup->dput (l.map fun y=>(y,f y)) x v=l.map fun y=>(y,if y=x then v else f y):=by
 intro l
 induction l with
 | nil=>intro q;cases q
 | cons a l ih =>
  intro h hn
  obtain ⟨h1,h2⟩:=xg.mp hn
  show (if a=x then _ else _)=(a,if a=x then v else f a)::l.map _
  by_cases e:a=x
  ·refine gw (if_pos e ..) (gw (if_pos e ..) ?_)
   congr 1
   exact wq fun y hy=>by rw [if_neg fun q=>h1 (by rw [e,← q];exact hy)]
  ·rw [if_neg e,if_neg e,ih ((zy.mp h).resolve_left fun q=>e q.symm) h2]
section
variable {ns:List Int}{C:Calls}{ρ:Env}{σ σ':H}{G:Fz}{S:St}{P:Pl}{k:Nat}
theorem gather_fm {α:Type}{f:V->M (Option V)}{l:Nat} (ks:List α) (φ:α->V) (q:α->Bool) (ψ:α->V) (hl:σ[l]?=some (.list (ks.map φ))) (hz:ks.length<=lim) (h:∀ k∈ks,f (φ k) σ=.ok (if q k then some (ψ k) else .none) σ):gather f (ks.map φ).length (.list l 0) [] σ=.ok ((ks.filter q).map ψ) σ:=by
 refine ex2 (gather_all (f:=f) (it:=fun i=>.list l i) (fun i acc σ'=>acc=((ks.take i).filter q).map ψ/\σ'=σ) (ks.map φ).length (fun acc σ' p=>by obtain ⟨_,rfl⟩:=p;exact stop_list hl)
  (fun i acc σ' hi p=>by
   obtain ⟨rfl,rfl⟩:=p
   replace hi:=(zb ..)▸hi
   refine ⟨φ ks[i],next_list hl (by refine gw (zv ..) (gw (zf hi ..) ?_);rfl),?_⟩
   have e:=h _ (ye hi)
   refine gw (take_at ks hi ..) (gw (v3 ..) (gw (yg ..) (gw (uh ..) ?_)))
   cases w:q ks[i] with
   | false=>replace e:=w▸e;exact .inr ⟨_,e,(yi _).symm,rfl⟩
   | true =>
    replace e:=w▸e
    refine .inl ⟨ψ ks[i],_,e,za (Nat.succ_le_of_lt (yk ?_ hi)) hz,rfl,rfl⟩
    refine gw (zb ..) ?_;exact za (u7 _ _) (kj _ _))
  (ks.map φ).length 0 [] σ (zo _) ⟨rfl,rfl⟩) fun acc σ' q_h=>?_;refine an3 q_h fun hg q_3 q_4=>?_;obtain rfl:=q_3;obtain rfl:=q_4
 rw [y9 (by rw [zb];exact ze _)] at hg
 exact hg
theorem count_ok {e:E}{a m k t:Nat}{l:List (Nat×Option Int)} (he:Ev ns C ρ e σ (.ref a) σ) (ha:σ[a]?=some (.list (hV l))) (hm:ρ.length=m) (hk:ρ[k]?=some (some (.int (t:Int)))) (hz:l.length<=1000) :
  Ev ns C ρ (.bi .len (.compIf (.of e) (.var m) (.cmp .le (.idx (.var m) (.lit (V.int 0))) (.var k)))) σ (.int (cnt t l)) (σ++[.list (hV (l.filter fun p=>decide (p.1<=t)))]):=by
 have g:=gather_fm (f:=fIf ns C ρ (.var m) (.cmp .le (.idx (.var m) (.lit (V.int 0))) (.var k))) l (fun p=>.tup [.int p.1,val p.2]) (fun p=>decide (p.1<=t)) (fun p=>.tup [.int p.1,val p.2]) ha (za hz (by decide)) fun p _=>by
  have hv:∀ {σ:H},Ev ns C (ρ++[some (.tup [.int p.1,val p.2])]) (.var m) σ (.tup [.int p.1,val p.2]) σ:=var_ok (by refine bw hm (gw (zw (ze _) ..) (gw (xv ..) ?_));rfl)
  have hc:Ev ns C (ρ++[some (.tup [.int p.1,val p.2])]) (.cmp .le (.idx (.var m) (.lit (V.int 0))) (.var k)) σ (.bool (decide ((p.1:Int)<=t))) σ :=
   e_cmp (e_idx hv rfl rfl) (var_ok (by refine gw (y7 (zc.mp hk).1 ..) ?_;exact hk)) rfl
  by_cases h:p.1<=t
  ·refine gw (decide_eq_true h ..) ?_;replace hc:=(decide_eq_true (yw.mpr h) ..)▸hc;exact fIf_t hc hv
  ·refine gw (decide_eq_false h ..) ?_;replace hc:=(decide_eq_false fun q=>h (yw.mp q))▸hc;exact fIf_f hc
 exact e_bi (e_compIf (src_of he ha) g) ((lenL (at_new σ _)).trans (by refine gw (zb ..) ?_;rfl))
noncomputable def hsw (t:Nat) (S:St) (l:List (List Nat)) (x:List Nat):List (Nat×Option Int):=if x∈l then cutv t (S.hist x) else S.hist x
theorem hsw_ne {t:Nat}{S:St}{i:Nat}{x y:List Nat} (tk:S.names.take (i + 1)=S.names.take i++[x]) (q:y≠x):hsw t S (S.names.take (i + 1)) y=hsw t S (S.names.take i) y:=by
 unfold hsw
 refine gw tk ?_
 have:y∈S.names.take i++[x]↔y∈S.names.take i:=by refine iw (z5 ..) (iw (zg ..) ?_);exact ⟨fun w=>w.resolve_right q,.inl⟩
 by_cases w:y∈S.names.take i
 ·exact gw (if_pos w ..) (gw (if_pos (this.mpr w) ..) rfl)
 ·rw [if_neg w,if_neg fun z=>w (this.mp z)]
noncomputable abbrev swB:List Mine.S:=[.assign 4 (.idx (.attr (.var 0) [115,116,111,99,107]) (.var 3)),.assign 5 (.bin .sub (.bi .len (.compIf (.of (.var 4)) (.var 6) (.cmp .le (.idx (.var 6) (.lit (V.int 0))) (.var 1)))) (.lit (V.int 1))),
  .ite (.cmp .gt (.var 5) (.lit (V.int 0))) [.setitem (.attr (.var 0) [115,116,111,99,107]) (.var 3) (.slice (.var 4) (.var 5) .nil),.assign 2 (.bin .add (.var 2) (.var 5))] []]
theorem sweep_loop (I:Inv G S P σ) {lk:Nat} (hl:G lk=some (.list (S.names.map V.str))) (hnd:S.names.Nodup) (hs:∀ x,(S.hist x).length<=1000) (hz:S.names.length<=1000) (t:Nat) :
  ∃ σ' P' g o3 o4 o5,forLoop (tgtN 3) (fun ρ σ=>evSs ns C ρ σ swB) (S.names.map V.str).length (.list lk 0) [some (sh P),some (.int (t:Int)),some (.int 0),.none,.none,.none] σ =
   .ok .next [some (sh P),some (.int (t:Int)),some (.int g),o3,o4,o5] σ'/\Inv G { S with hist:=hsw t S S.names } P' σ'/\P.Eqd P':=by
 refine cps fun G' K=>?_
 obtain ⟨ρ',σ',hF,P',g,o3,o4,o5,rfl,I',e'⟩:=for_all (tgt:=tgtN 3) (body:=fun ρ σ=>evSs ns C ρ σ swB) (it:=fun i=>.list lk i)
  (fun i ρ' σ'=>∃ (P':Pl) (g:Int) (o3 o4 o5:Option V),ρ'=[some (sh P),some (.int (t:Int)),some (.int g),o3,o4,o5]/\Inv G { S with hist:=hsw t S (S.names.take i) } P' σ'/\P.Eqd P')
  (S.names.map V.str).length (fun ρ σ p=>by obtain ⟨_,_,_,_,_,_,I,_⟩:=p;exact stop_list (I.fz lk _ hl).1)
  (fun i ρ' σ' hi p=>by
   refine cps fun G' K=>?_
   refine ex5 (p) fun P' g o3 o4 o5 q_h=>?_;refine an4 q_h fun q_4 I' hb hd=>?_;obtain rfl:=q_4
   have hi':i < S.names.length:=by rw [zb] at hi;exact hi
   obtain ⟨x,hx⟩:∃ x,x=S.names[i]:=⟨_,rfl⟩
   have hxm:x∈S.names:=hx▸ye hi'
   have hxs:x∉S.names.take i:=fun q=>by
    replace hnd:=(y8 hi' ..)▸(z6 i S.names ..)▸hnd
    exact (vk.mp hnd).2.2 _ q _ zh hx
   have shP:sh P'=sh P:=congrArg (V.inst 1) (hb 0)
   have st:attrV (sh P) [115,116,111,99,107] σ'=.ok (.ref (P'.at_ (.b 1))) σ':=shP▸sh_stock I'
   have tk:S.names.take (i + 1)=S.names.take i++[x]:=by refine gw hx ?_;exact take_at _ hi'
   have eh:hsw t S (S.names.take i) x=S.hist x:=if_neg hxs
   have hp:σ'[P'.at_ (.h x)]?=some (.list (hV (S.hist x))):=by refine bw eh ?_;exact I'.h hxm
   have nx:nextIt (.list lk i) σ'=some (some (.str x,.list lk (i + 1))):=next_list (I'.fz lk _ hl).1 (by refine gw (zv ..) (gw (zf hi' ..) (gw hx ?_));rfl)
   have a4:Ev ns C [some (sh P),some (.int (t:Int)),some (.int g),some (.str x),o4,o5] (.idx (.attr (.var 0) [115,116,111,99,107]) (.var 3)) σ' (.ref (P'.at_ (.h x))) σ' :=
    e_idx (e_attr rfl st) rfl (idxD (I'.b 1 (by decide)) (by rw [dget_map fun x=>V.ref (P'.at_ (.h x))];exact if_pos hxm))
   have a5:=e_bin (op:=.sub) (count_ok (ns:=ns) (C:=C) (ρ:=[some (sh P),some (.int (t:Int)),some (.int g),some (.str x),some (.ref (P'.at_ (.h x))),o5]) (m:=6) (k:=1) (e:=.var 4) rfl hp rfl rfl (hs x)) (b:=.lit (V.int 1)) rfl rfl
   have I1:=I'.gr (Gr.app σ' [.list (hV ((S.hist x).filter fun p=>decide (p.1<=t)))])
   have c6:∀ {σ:H},Ev ns C [some (sh P),some (.int (t:Int)),some (.int g),some (.str x),some (.ref (P'.at_ (.h x))),some (.int ((cnt t (S.hist x):Nat) - 1:Int))] (.cmp .gt (.var 5) (.lit (V.int 0))) σ (.bool (decide ((0:Int) < (cnt t (S.hist x):Nat) - 1))) σ:=e_cmp rfl rfl (gt_ok _ _)
   by_cases h:(0:Int) < (cnt t (S.hist x):Nat) - 1
   ·obtain ⟨j,hj⟩:∃ j,j=cnt t (S.hist x) - 1:=⟨_,rfl⟩
    have hji:((cnt t (S.hist x):Nat):Int) - 1=(j:Int):=hj▸cm1 h
    have hjl:j<=(hV (S.hist x)).length:=by unfold hV;refine gw (zb ..) (gw hj ?_);exact za (wc _ _) (cnt_le _ _)
    rw [hji] at a5 c6 h
    generalize hσ1:σ'++[O.list (hV ((S.hist x).filter fun p=>decide (p.1<=t)))]=σ1 at a5 I1
    have hp1:σ1[P'.at_ (.h x)]?=some (.list (hV (S.hist x))):=hσ1▸(Gr.app σ' _).at hp
    have sl:Ev ns C [some (sh P),some (.int (t:Int)),some (.int g),some (.str x),some (.ref (P'.at_ (.h x))),some (.int (j:Int))] (.slice (.var 4) (.var 5) .nil) σ1 (.ref σ1.length) (σ1++[.list (hV (cutv t (S.hist x)))]):=by
     have q:=e_slice (ns:=ns) (C:=C) (ρ:=[some (sh P),some (.int (t:Int)),some (.int g),some (.str x),some (.ref (P'.at_ (.h x))),some (.int (j:Int))]) (a:=.var 4) (σ:=σ1) (b:=.var 5) (c:=.nil) rfl rfl rfl (slL (ns:=ns) (lo:=some (j:Int)) (hi:=.none) hp1 rfl rfl (by unfold hV;refine gw (zb ..) ?_;exact za (hs x) (by decide)))
     rw [cut_end _ _ hjl,hV_drop,show (S.hist x).drop j=cutv t (S.hist x) by rw [hj];rfl] at q
     exact q
    have I2:=I1.gr (Gr.app σ1 [.list (hV (cutv t (S.hist x)))])
    have st2:attrV (sh P) [115,116,111,99,107] (σ1++[.list (hV (cutv t (S.hist x)))])=.ok (.ref (P'.at_ (.b 1))) _:=shP▸sh_stock I2
    have ed:=dput_map (fun y=>V.ref (P'.at_ (.h y))) x (.ref σ1.length) hxm hnd
    have I3:Inv G { S with hist:=hsw t S (S.names.take (i + 1)) } (P'.growH σ1.length x) ((σ1++[O.list (hV (cutv t (S.hist x)))]).set (P'.at_ (.b 1)) (.dict (dput (S.names.map fun y=>(y,V.ref (P'.at_ (.h y)))) x (.ref σ1.length)))):=by
     refine I1.growH (S':={ S with hist:=hsw t S (S.names.take (i + 1)) }) (x:=x) (Gr.app σ1 _) (by show 1 < 4;decide) (by intro q;cases q) ?_ (fun c lc hc=>?_) ?_
     ·show _=some (O.list (hV (hsw t S (S.names.take (i + 1)) x)))
      refine gw (show hsw t S (S.names.take (i + 1)) x=cutv t (S.hist x) from if_pos (by refine gw tk ?_;exact yp _ (zg.mpr rfl))) ?_
      exact at_new σ1 _
     ·cases c with
      | b q=>exact ⟨lc,fun q'=>below (motive:=fun q=>Cell.b q≠Cell.b 1->renB { S with hist:=hsw t S (S.names.take (i + 1)) } (P'.growH σ1.length x) q=renB { S with hist:=hsw t S (S.names.take i) } P' q) lc ⟨⟨⟨⟨trivial,fun _=>rfl⟩,fun q=>absurd rfl q⟩,fun _=>rfl⟩,fun _=>rfl⟩ q'⟩
      | h y =>
       refine ⟨lc,fun _=>congrArg (fun l=>O.list (hV l)) ?_⟩
       show hsw t S (S.names.take (i + 1)) y=hsw t S (S.names.take i) y
       exact hsw_ne tk fun q=>hc (congrArg Cell.h q)
      | d q q'=>exact ⟨lc,fun _=>renD_eq fun _ _ _ _=>rfl⟩
     ·refine gw ed ?_
      show _=O.dict (S.names.map fun y=>(y,V.ref (if y=x then σ1.length else P'.at_ (.h y))))
      congr 1
      exact wq fun y _=>by by_cases q:y=x <;> simp only [q,if_true,if_false]
    have hb1:renB { S with hist:=hsw t S (S.names.take i) } P' 1=.dict (S.names.map fun y=>(y,V.ref (P'.at_ (.h y)))):=rfl
    refine K ⟨.str x,_,_,_,nx,rfl,s_assign a4 rfl (s_assign a5 rfl (s_ifT (c6.trans (by exact gw (decide_eq_true h ..) rfl)) (after_next (s_set sl (e_attr rfl st2) rfl (setD (I2.b 1 (by decide)) (by rw [hb1] at *;refine gw ed (gw (zb ..) ?_);exact za hz (by decide))) (s_assign (e_bin rfl rfl rfl) rfl ss_nil)) ss_nil))),P'.growH σ1.length x,_,_,_,_,rfl,I3,hb,hd⟩
   ·have h0:cnt t (S.hist x) - 1=0:=cm0 h
    have e1:hsw t S (S.names.take (i + 1))=hsw t S (S.names.take i):=funext fun y=>by
     by_cases q:y=x
     ·unfold hsw
      refine gw tk (gw q (gw (if_pos (yp _ (zg.mpr rfl)) ..) (gw (if_neg hxs ..) ?_)));unfold cutv;refine gw h0 ?_;rfl
     ·exact hsw_ne tk q
    replace K:=e1▸K
    exact K ⟨.str x,_,_,_,nx,rfl,s_assign a4 rfl (s_assign a5 rfl (s_ifF (c6.trans (by exact gw (decide_eq_false h ..) rfl)) ss_nil)),P',_,_,_,_,rfl,I1,hb,hd⟩)
  (S.names.map V.str).length 0 [some (sh P),some (.int (t:Int)),some (.int 0),.none,.none,.none] σ (zo _) ⟨P,0,.none,.none,.none,rfl,by
   have:hsw t S (S.names.take 0)=S.hist:=funext fun x=>if_neg z0
   refine gw (this ..) ?_;exact I,fun _=>rfl,fun _ _=>rfl⟩
 rw [y9 (by rw [zb];exact ze _)] at I'
 exact K ⟨σ',P',g,o3,o4,o5,hF,I',e'⟩
noncomputable def opn (S:St):List Nat:=((xf S.n).filter fun k=>decide ((S.d k).st=0)).map fun k=>(S.d k).start
noncomputable def inz (l:List Nat):List Int:=l.map fun n:Nat=>(n:Int)
noncomputable def leastOf (d:Nat):List Nat->Nat
 | []=>d
 | a::r=>r.foldl min a
noncomputable def lst (S:St):Nat:=leastOf S.row.length (opn S)
theorem foldl_min (l:List Nat) (a:Nat):(inz l).foldl min (a:Int)=((l.foldl min a:Nat):Int):=by
 induction l generalizing a with
 | nil=>rfl
 | cons b l ih =>
  show (inz l).foldl min (min (a:Int) b)=_
  rw [show min (a:Int) b=((min a b:Nat):Int) by rcases zax a b with h | h;rw [yf h,j0 (yw.mpr h)];rw [uf h,jo (yw.mpr h)]]
  exact ih (min a b)
theorem intsOf_ints (l:List Nat):intsOf (iV l)=some (inz l):=by
 induction l with
 | nil=>rfl
 | cons a l ih=>show (intsOf (iV l)).map _=_;refine gw ih ?_;rfl
theorem e_mmd {a b:E}{x y v:V}{kk:Bool}{σ₁ σ₂ σ₃:H} (h1:Ev ns C ρ a σ x σ₁) (h2:Ev ns C ρ b σ₁ y σ₂) (h3:mmV kk x y σ₂=.ok v σ₃):Ev ns C ρ (.mm kk a b) σ v σ₃:=bnd2 h1 (bnd2 h2 h3)
theorem minL {l d:Nat}{ys:List Nat} (hl:σ[l]?=some (.list (iV ys))):mmV true (.ref l) (.int d) σ=.ok (.int (leastOf d ys:Nat)) σ:=by
 show onL l (fun xs=>pick ((intsOf xs).map fun is=>least is (.int d))) σ=_
 refine gw (onL_ok hl ..) (gw (intsOf_ints ..) ?_)
 cases ys with
 | nil=>rfl
 | cons a r=>show R.ok (V.int ((inz r).foldl min (a:Int))) σ=_;refine gw (foldl_min ..) ?_;rfl
theorem sweep_ok (I:Inv G S P σ) (hnd:S.names.Nodup) (hs:∀ x,(S.hist x).length<=1000) (hz:S.names.length<=1000) (hn:S.n<=1000) :
  ∃ P' σ' v,evF ns C f60_Shelf_sweep [sh P] σ=.ok v σ'/\P.Eqd P'/\Inv G { S with hist:=hsw (lst S) S S.names } P' σ':=by
 refine cps fun G' K=>?_
 have hg:=gather_fm (f:=fIf ns C [some (sh P),.none,.none,.none,.none,.none] (.attr (.var 6) [115,116,97,114,116]) (.cmp .eq (.attr (.var 6) [115,116,97,116,101]) (.lit (V.str [111,112,101,110])))) (xf S.n) (fun k=>dl P k) (fun k=>decide ((S.d k).st=0)) (fun k=>.int (S.d k).start) (I.b 2 (by decide)) (by refine gw (vj ..) ?_;exact za hn (by decide)) fun k hk=>by
  have hk:=vo.mp hk
  have hc:Ev ns C ([some (sh P),.none,.none,.none,.none,.none]++[some (dl P k)]) (.cmp .eq (.attr (.var 6) [115,116,97,116,101]) (.lit (V.str [111,112,101,110]))) σ (.bool (decide ((S.d k).st=0))) σ:=by
   refine bw (mood_open ..) ?_;exact e_cmp (e_attr rfl (dl_state I hk)) rfl (eqS _ _)
  cases w:decide ((S.d k).st=0) with
  | true=>replace hc:=w▸hc;exact fIf_t hc (e_attr rfl (dl_start I hk))
  | false=>replace hc:=w▸hc;exact fIf_f hc
 have ho:((xf S.n).filter fun k=>decide ((S.d k).st=0)).map (fun k=>V.int (S.d k).start)=iV (opn S):=by unfold iV opn;refine gw (ug ..) ?_;rfl
 replace hg:=ho▸hg
 have I1:=I.gr (Gr.app σ [.list (iV (opn S))])
 generalize hσ1:σ++[O.list (iV (opn S))]=σ1 at I1
 have a1:Ev ns C [some (sh P),.none,.none,.none,.none,.none] (.mm true (.compIf (.of (.attr (.var 0) [100,101,97,108,105,110,103,115])) (.attr (.var 6) [115,116,97,114,116]) (.cmp .eq (.attr (.var 6) [115,116,97,116,101]) (.lit (V.str [111,112,101,110])))) (.bi .len (.attr (.var 0) [114,111,119]))) σ (.int (lst S:Nat)) σ1:=by
  have q:=e_compIf (src_of (e_attr (ρ:=[some (sh P),.none,.none,.none,.none,.none]) (a:=.var 0) rfl (sh_deals I)) (I.b 2 (by decide))) hg
  replace q:=hσ1▸q
  refine e_mmd q (e_bi (e_attr rfl (sh_row I1)) (len_row I1)) (minL (hσ1▸at_new σ _))
 have I2:=I1.gr (Gr.app σ1 [.list (S.names.map V.str)])
 have ls:biV ns .list (.ref (P.at_ (.b 1))) σ1=.ok (.ref σ1.length) (σ1++[.list (S.names.map V.str)]):=by
  have q:=listD (ns:=ns) (I1.b 1 (by decide)) (by refine gw (zb ..) ?_;exact hz)
  rwa [keys_names fun x=>V.ref (P.at_ (.h x))] at q
 have fr:=I1.fr (ze σ1.length)
 have I3:=I2.mx
 have hlk:mx S P (σ1++[.list (S.names.map V.str)]) σ1.length=some (.list (S.names.map V.str)):=by
  unfold mx
  refine gw (if_neg fun q=>by obtain ⟨c,l,e⟩:=q;exact fr.ne c l e) ?_
  exact at_new σ1 _
 refine ex6 (sweep_loop (ns:=ns) (C:=C) I3 hlk hnd hs hz (lst S)) fun σ' P' g o3 o4 o5 q_h=>?_;refine an3 q_h fun hF I' e'=>?_
 exact K ⟨P',σ',.int g,f_ret (fn:=f60_Shelf_sweep) (vs:=[sh P]) rfl (s_assign a1 rfl (s_assign rfl rfl (s_forN (src_of (e_bi (e_attr rfl (sh_stock I1)) ls) (at_new σ1 _)) (after_next hF (s_ret rfl))))),e',I2.un I'⟩
end
end Mine.L13
namespace Mine.L13
open PySem Mine Mine.P
noncomputable def lv (d:Nat->Dl) (r:List Nat) (n:List Nat) (a:Option Int):Option Int:=r.foldl (fun a k=>(lw (d k).ws n).getD a) a
section
variable {d d':Nat->Dl}{n:List Nat}{a:Option Int}
theorem lv_app (r s:List Nat):lv d (r++s) n a=lv d s n (lv d r n a):=wy
theorem lv_cons (k:Nat) (r:List Nat):lv d (k::r) n a=lv d r n ((lw (d k).ws n).getD a):=rfl
theorem lv_skip:∀ {r:List Nat},(∀ j∈r,lw (d j).ws n=.none)->lv d r n a=a:=by
 intro r
 induction r with
 | nil=>intro _;rfl
 | cons k r ih =>
  intro h
  refine gw (lv_cons ..) (gw (h k zh ..) ?_)
  exact ih fun j hj=>h j (zj _ hj)
theorem lv_filter {p:Nat->Bool}:∀ {r:List Nat}{a:Option Int},(∀ j∈r,p j=false->lw (d j).ws n=.none)->lv d (r.filter p) n a=lv d r n a:=by
 intro r
 induction r with
 | nil=>intro _ _;rfl
 | cons k r ih =>
  intro a h
  have ih:=fun {a:Option Int}=>ih (a:=a) fun j hj=>h j (zj _ hj)
  refine gw (uh ..) ?_
  cases e:p k with
  | true=>refine gw (if_pos rfl ..) (gw (lv_cons ..) (gw (lv_cons ..) ?_));exact ih
  | false=>refine gw (if_neg wh ..) (gw (lv_cons ..) (gw (h k zh e ..) ?_));exact ih
theorem lv_congr (h:∀ j,(d' j).ws=(d j).ws):∀ (r:List Nat) (a:Option Int),lv d' r n a=lv d r n a:=by
 intro r
 induction r with
 | nil=>intro _;rfl
 | cons k r ih=>intro a;rw [lv_cons,lv_cons,h,ih]
end
theorem mem_kys {ws:Ws}{n:List Nat}:n∈kys ws↔lw ws n≠.none:=by
 show n∈keysOf _↔_
 rw [mem_keys,put0]
 cases lw ws n with
 | none=>exact ⟨fun h=>(nomatch h),fun h=>absurd rfl h⟩
 | some t=>exact ⟨fun _ h=>(nomatch h),fun _=>rfl⟩
theorem wl_of {ws:Ws}{D:Dl}{n:List Nat} (h:lw ws n≠.none) (l:looks D n=true):wl ws D=true:=ui.mpr ⟨n,mem_kys.mpr h,l⟩
theorem wrote_of {ws:Ws}{n:List Nat} (h:lw ws n≠.none):wrote ws n=true:=by
 refine bw (lw_wrote ..) ?_
 cases e:lw ws n with
 | none=>exact absurd e h
 | some t=>rfl
structure Ser (S:St) (g:List Nat->List (Nat×Option Int)):Prop where
 st:∀ k,k < S.n->(S.d k).start<=S.row.length
 ka:∀ j∈S.row,(S.d j).kat<=S.row.length
 hi:∀ n m,amv (g n) m=lv S.d (S.row.filter fun j=>decide ((S.d j).kat<=m)) n .none
 rd:∀ a k b,S.row=a++k::b->∀ n,looks (S.d k) n=true->lv S.d a n .none=amv (g n) (S.d k).start
section
variable {S:St}{g:List Nat->List (Nat×Option Int)}{xs:List (List Nat)}{T k p:Nat}{D:Dl}
theorem filt_congr {α:Type}{p q:α->Bool}{l:List α} (h:∀ x∈l,p x=q x):l.filter p=l.filter q:=List.filter_congr h
theorem Ser.setD (s:Ser S g) (F:Sf xs S T) (ho:(S.d k).st=0) (e:D.start=(S.d k).start):Ser (S.setD k D) g:=by
 have ne:∀ {j},j∈S.row->(S.setD k D).d j=S.d j:=fun hj=>S.setD_ne D fun e=>by have:=(F.rw _ hj).2;replace this:=ho▸e▸this;cases this
 have lc:∀ {r:List Nat}{n a},(∀ j∈r,j∈S.row)->lv (S.setD k D).d r n a=lv S.d r n a:=by
  intro r
  induction r with
  | nil=>intro _ _ _;rfl
  | cons j r ih=>intro n a h;exact gw (lv_cons ..) (gw (lv_cons ..) (gw (ne (h j zh) ..) (gw (ih fun i hi=>h i (zj _ hi)) rfl)))
 refine ⟨fun j hj=>?_,fun j hj=>by refine gw (ne hj ..) ?_;exact s.ka j hj,fun n m=>?_,fun a j b hr n l=>?_⟩
 ·by_cases q:j=k
  ·refine gw q (gw (S.setD_at ..) (gw e ?_));exact s.st k (q▸hj)
  ·refine gw (S.setD_ne D q ..) ?_;exact s.st j hj
 ·show amv (g n) m=lv (S.setD k D).d (S.row.filter fun j=>decide (((S.setD k D).d j).kat<=m)) n .none
  refine gw (filt_congr (q:=fun j=>decide ((S.d j).kat<=m)) fun j hj=>by exact gw (ne hj ..) rfl) (gw (lc fun j hj=>(xw.mp hj).1) ?_)
  exact s.hi n m
 ·have hr:S.row=a++j::b:=hr
  have mj:j∈S.row:=by refine gw hr ?_;exact yp _ zh
  rw [ne mj] at l ⊢
  refine gw (lc fun i hi=>by refine gw hr ?_;exact wk _ hi) ?_
  exact s.rd a j b hr n l
theorem Ser.beg (s:Ser S g) (F:Sf xs S T):Ser S.beg g:=by
 have nn:∀ {j},j < S.n->(S.beg).d j=S.d j:=fun hj=>S.setD_ne _ (yj hj)
 have ne:∀ {j},j∈S.row->(S.beg).d j=S.d j:=fun hj=>nn (F.rw _ hj).1
 have lc:∀ {r:List Nat}{n a},(∀ j∈r,j∈S.row)->lv S.beg.d r n a=lv S.d r n a:=by
  intro r
  induction r with
  | nil=>intro _ _ _;rfl
  | cons j r ih=>intro n a h;exact gw (lv_cons ..) (gw (lv_cons ..) (gw (ne (h j zh) ..) (gw (ih fun i hi=>h i (zj _ hi)) rfl)))
 refine ⟨fun j hj=>?_,fun j hj=>by refine gw (ne hj ..) ?_;exact s.ka j hj,fun n m=>?_,fun a j b hr n l=>?_⟩
 ·by_cases q:j=S.n
  ·refine gw q (gw (show S.beg.d S.n=_ from S.setD_at _ _) ?_);exact ze _
  ·have hj:=yy (z4 hj) q
   refine gw (nn hj ..) ?_;exact s.st j hj
 ·show amv (g n) m=lv S.beg.d (S.row.filter fun j=>decide ((S.beg.d j).kat<=m)) n .none
  refine gw (filt_congr (q:=fun j=>decide ((S.d j).kat<=m)) fun j hj=>by exact gw (ne hj ..) rfl) (gw (lc fun j hj=>(xw.mp hj).1) ?_)
  exact s.hi n m
 ·have hr:S.row=a++j::b:=hr
  have mj:j∈S.row:=by refine gw hr ?_;exact yp _ zh
  rw [ne mj] at l ⊢
  refine gw (lc fun i hi=>by refine gw hr ?_;exact wk _ hi) ?_
  exact s.rd a j b hr n l
noncomputable def gk (S:St) (k:Nat) (g:List Nat->List (Nat×Option Int)) (n:List Nat):List (Nat×Option Int):=if n∈kys (S.d k).ws then g n++[(S.row.length + 1,(lw (S.d k).ws n).getD .none)] else g n
theorem amv_keep {m:Nat} (h:m<=S.row.length) (n:List Nat):amv (gk S k g n) m=amv (g n) m:=by
 unfold gk
 split
 ·rw [amv_snoc,if_neg (Nat.not_le.mpr (gv h))]
 ·rfl
theorem Ser.keep (s:Ser S g) (F:Sf xs S T) (hk:k < S.n) (ho:(S.d k).st=0) (pk:Pk S k p):Ser (S.keep k p) (gk S k g):=by
 have nk:k∉S.row:=fun q=>by have:=(F.rw _ q).2;replace this:=ho▸this;cases this
 have dk:(S.keep k p).d k={ S.d k with st:=2,kat:=S.row.length + 1 }:=S.setD_at k _
 have dn:∀ {j},j≠k->(S.keep k p).d j=S.d j:=fun h=>S.setD_ne _ h
 have dr:∀ {j},j∈S.row->(S.keep k p).d j=S.d j:=fun h=>dn fun e=>nk (e▸h)
 have dw:∀ j,((S.keep k p).d j).ws=(S.d j).ws:=fun j=>by
  by_cases e:j=k
  ·exact gw e (gw dk rfl)
  ·exact gw (dn e ..) rfl
 have lc:∀ {r:List Nat}{n a},lv (S.keep k p).d r n a=lv S.d r n a:=fun {r n a}=>lv_congr dw r a
 obtain ⟨A,hA⟩:∃ A,A=S.row.take p:=⟨_,rfl⟩
 obtain ⟨B,hB⟩:∃ B,B=S.row.drop p:=⟨_,rfl⟩
 have hr:S.row=A++B:=by exact gw hA (gw hB (gw (z6 ..) rfl))
 have hr':(S.keep k p).row=A++k::B:=by refine gw hA (gw hB ?_);rfl
 have nd:=F.nd
 replace nd:=hr▸nd
 have dj:∀ {j},j∈A->j∈B->False:=fun h1 h2=>(vk.mp nd).2.2 _ h1 _ h2 rfl
 have mA:∀ {j},j∈A->j∈S.row:=fun h=>by refine gw hr ?_;exact wk _ h
 have mB:∀ {j},j∈B->j∈S.row:=fun h=>by refine gw hr ?_;exact yp _ h
 have nB:∀ {j},j∈B->¬ Mb (S.d j) (S.d k) (kys (S.d k).ws):=fun h m=>dj (by refine gw hA ?_;exact pk.ah _ (mB h) m) h
 refine ⟨fun j hj=>?_,fun j hj=>?_,fun n m=>?_,fun a j b hab n l=>?_⟩
 ·show _<=(insAt S.row p k).length
  refine gw (ins_len ..) ?_
  refine zr ?_
  by_cases e:j=k
  ·refine gw e (gw dk ?_);exact s.st k hk
  ·refine gw (dn e ..) ?_;exact s.st j hj
 ·show _<=(insAt S.row p k).length
  refine gw (ins_len ..) ?_
  rcases zy.mp ((ins_perm S.row p k).mem_iff.mp hj) with e | hj
  ·refine gw e (gw dk ?_);exact ze _
  ·refine gw (dr hj ..) ?_;exact zr (s.ka j hj)
 ·have fA:A.filter (fun j=>decide (((S.keep k p).d j).kat<=m))=A.filter fun j=>decide ((S.d j).kat<=m):=filt_congr fun j hj=>by exact gw (dr (mA hj) ..) rfl
  have fB:B.filter (fun j=>decide (((S.keep k p).d j).kat<=m))=B.filter fun j=>decide ((S.d j).kat<=m):=filt_congr fun j hj=>by exact gw (dr (mB hj) ..) rfl
  have hi:=s.hi n m
  replace hi:=(lv_app ..)▸(v3 ..)▸hr▸hi
  refine gw lc (gw hr' (gw (v3 ..) (gw (uh ..) (gw fA (gw fB (gw dk (gw (lv_app ..) ?_)))))))
  show amv (if n∈kys (S.d k).ws then _ else _) m=lv S.d (if decide (S.row.length + 1<=m)=true then _ else _) n _
  by_cases q:S.row.length + 1<=m
  ·refine gw (if_pos (decide_eq_true q) ..) (gw (lv_cons ..) ?_)
   cases e:lw (S.d k).ws n with
   | none=>refine gw (if_neg fun w=>mem_kys.mp w e) ?_;exact hi
   | some t =>
    have mk:n∈kys (S.d k).ws:=mem_kys.mpr fun w=>by replace w:=e▸w;cases w
    refine gw (if_pos mk ..) (gw (amv_snoc ..) (gw (if_pos q ..) ?_))
    exact (lv_skip fun j hj=>Classical.byContradiction fun w=>nB (xw.mp hj).1 (.inl ⟨n,mk,.inl (wrote_of w)⟩)).symm
  ·rw [if_neg (show ¬ decide (S.row.length + 1<=m)=true by rw [decide_eq_false q];exact wh),← hi]
   split
   ·exact gw (amv_snoc ..) (gw (if_neg q ..) rfl)
   ·rfl
 ·have sl:∀ {j},j < S.n->((S.keep k p).d j).start=(S.d j).start:=fun {j} _=>by
   by_cases e:j=k
   ·exact gw e (gw dk rfl)
   ·exact gw (dn e ..) rfl
  have ll:looks (S.d j) n=true:=by
   by_cases e:j=k
   ·replace l:=dk▸e▸l;refine gw e ?_;exact l
   ·replace l:=(dn e ..)▸l;exact l
  have hjn:j < S.n:=by
   have:j∈(S.keep k p).row:=by refine gw hab ?_;exact yp _ zh
   rcases zy.mp ((ins_perm S.row p k).mem_iff.mp this) with e | hj
   ·exact e▸hk
   ·exact (F.rw j hj).1
  refine gw lc (gw (sl hjn ..) (gw (amv_keep (s.st j hjn) ..) ?_))
  replace hab:=hr'▸hab
  have self:lv S.d A n .none=amv (g n) (S.d k).start∨looks (S.d k) n≠true:=by
   by_cases w:looks (S.d k) n=true
   ·refine .inl ?_
    rw [s.hi n _,hr,v3,lv_app,lv_skip (r:=B.filter _),lv_filter]
    ·exact fun j hj q=>Classical.byContradiction fun z=>pk.bh j (hA▸hj) ⟨xd (of_decide_eq_false q),wl_of z w⟩
    ·exact fun j hj=>Classical.byContradiction fun z=>nB (xw.mp hj).1 (.inr ⟨of_decide_eq_true (xw.mp hj).2,wl_of z w⟩)
   ·exact .inr w
  rcases List.append_eq_append_iff.mp hab with ⟨c,e1,e2⟩ | ⟨c,e1,e2⟩
  ·cases c with
   | nil =>
    replace e1:=(yi ..)▸e1
    injection e2 with e3 e4
    subst e3 e1
    exact self.resolve_right fun w=>w ll
   | cons y c =>
    injection e2 with e3 e4
    subst e3
    have hj:j∈B:=by refine gw e4 ?_;exact yp _ zh
    have no:lw (S.d k).ws n=.none:=Classical.byContradiction fun w=>nB hj (.inl ⟨n,mem_kys.mpr w,.inr ll⟩)
    refine gw e1 (gw (lv_app ..) (gw (lv_cons ..) (gw no ?_)))
    show lv S.d c n (lv S.d A n .none)=_
    refine bw (lv_app ..) ?_
    exact s.rd (A++c) j b (by refine gw hr (gw e4 (gw (zk ..) ?_));rfl) n ll
  ·cases c with
   | nil =>
    replace e1:=(yi ..)▸e1
    injection e2 with e3 e4
    subst e3 e1
    exact self.resolve_right fun w=>w ll
   | cons y c =>
    injection e2 with e3 e4
    subst e3
    exact s.rd a j (c++B) (by rw [hr,e1,zk];rfl) n ll
theorem Ser.end (s:Ser S g) (n:List Nat):amv (g n) S.row.length=lv S.d S.row n .none:=by
 rw [s.hi,lv_filter]
 exact fun j hj q=>absurd (s.ka j hj) (of_decide_eq_false q)
end
end Mine.L13
namespace Mine.L13
open PySem Mine Mine.P
theorem cnt_cons (t:Nat) (p:Nat×Option Int) (l:List (Nat×Option Int)):cnt t (p::l)=if p.1<=t then cnt t l + 1 else cnt t l:=by
 unfold cnt
 refine gw (uh ..) ?_
 by_cases h:p.1<=t
 ·refine gw (if_pos h ..) (gw (if_pos (decide_eq_true h) ..) ?_);rfl
 ·exact gw (if_neg h ..) (gw (if_neg (by refine gw (decide_eq_false h ..) ?_;exact wh) ..) rfl)
theorem cnt_zero {t:Nat}{l:List (Nat×Option Int)} (h:∀ p∈l,¬ p.1<=t):cnt t l=0:=by
 unfold cnt
 refine gw (f8.mpr fun p hp q=>h p hp (of_decide_eq_true q)) ?_;rfl
theorem atm_any {k:Nat}:∀ {l:List (Nat×Option Int)},(∃ p∈l,p.1<=k)->∀ o o':Option Int,l.foldl (fun o p=>if p.1<=k then p.2 else o) o=l.foldl (fun o p=>if p.1<=k then p.2 else o) o':=by
 intro l
 induction l with
 | nil =>
  intro h _ _
  obtain ⟨_,h,_⟩:=h;cases h
 | cons p l ih =>
  intro h o o'
  show l.foldl _ (if p.1<=k then p.2 else o)=l.foldl _ (if p.1<=k then p.2 else o')
  by_cases q:p.1<=k
  ·exact gw (if_pos q ..) (gw (if_pos q ..) rfl)
  ·refine gw (if_neg q ..) (gw (if_neg q ..) ?_)
   obtain ⟨p',h1,h2⟩:=h
   exact ih ⟨p',(zy.mp h1).resolve_left fun e=>q (e▸h2),h2⟩ o o'
theorem atm_cut {t k:Nat} (h:t<=k):∀ {l:List (Nat×Option Int)},(l.Pairwise fun a b=>a.1 < b.1)->∀ o:Option Int,(cutv t l).foldl (fun o p=>if p.1<=k then p.2 else o) o=l.foldl (fun o p=>if p.1<=k then p.2 else o) o:=by
 intro l
 induction l with
 | nil =>
  intro _ _
  exact rfl
 | cons p l ih =>
  intro hs o
  obtain ⟨h1,h2⟩:=jc.mp hs
  have c:=cnt_cons t p l
  by_cases q:p.1<=t
  ·replace c:=(if_pos q ..)▸c
   cases e:cnt t l with
   | zero=>unfold cutv;refine gw c (gw e ?_);rfl
   | succ j =>
    have e1:cutv t (p::l)=cutv t l:=by unfold cutv;refine gw c (gw e ?_);rfl
    refine gw e1 (gw (ih h2 ..) ?_)
    have:(l.filter fun p=>decide (p.1<=t))≠[]:=fun w=>by have e:(l.filter fun p=>decide (p.1<=t)).length=j + 1:=e;replace e:=w▸e;cases e
    obtain ⟨p',hp⟩:=List.exists_mem_of_ne_nil _ this
    obtain ⟨m1,m2⟩:=xw.mp hp
    exact atm_any ⟨p',m1,za (of_decide_eq_true m2) h⟩ _ _
  ·replace c:=(cnt_zero fun p' hp w=>q (za (z9 (h1 p' hp)) w))▸(if_neg q ..)▸c
   unfold cutv;refine gw c ?_;rfl
theorem min_of (a:Nat) (l:List Nat):l.foldl min a∈a::l/\∀ b∈a::l,l.foldl min a<=b:=List.min?_eq_some_iff.mp (show (a::l).min?=some (l.foldl min a) from rfl)
structure Gh (S:St) (g:List Nat->List (Nat×Option Int)) (lo:Nat):Prop where
 eq:∀ n m,lo<=m->amv (S.hist n) m=amv (g n) m
 op:∀ k,k < S.n->(S.d k).st=0->lo<=(S.d k).start
 le:lo<=S.row.length
 vn:∀ n,Vn (S.hist n) S.row.length
section
variable {S:St}{g:List Nat->List (Nat×Option Int)}{lo k p:Nat}{D:Dl}
theorem mem_opn {a:Nat}:a∈opn S↔∃ k,k < S.n/\(S.d k).st=0/\(S.d k).start=a:=by
 unfold opn
 refine iw (w4 ..) ?_
 exact ⟨fun w=>w.elim fun k h=>⟨k,vo.mp (xw.mp h.1).1,of_decide_eq_true (xw.mp h.1).2,h.2⟩,fun w=>w.elim fun k h=>⟨k,xw.mpr ⟨vo.mpr h.1,decide_eq_true h.2.1⟩,h.2.2⟩⟩
theorem lst_le {a:Nat} (h:a∈opn S):lst S<=a:=by
 unfold lst
 cases e:opn S with
 | nil=>replace h:=e▸h;cases h
 | cons c r=>replace h:=e▸h;exact (min_of c r).2 a h
theorem lst_mem:lst S=S.row.length∨lst S∈opn S:=by
 unfold lst
 cases e:opn S with
 | nil=>exact .inl rfl
 | cons c r=>exact .inr (min_of c r).1
theorem Gh.setD (h:Gh S g lo) (hk:k < S.n) (ho:(S.d k).st=0) (e:D.start=(S.d k).start):Gh (S.setD k D) g lo:=by
 refine ⟨h.eq,fun j hj q=>?_,h.le,h.vn⟩
 by_cases w:j=k
 ·refine gw w (gw (S.setD_at ..) (gw e ?_));exact h.op k hk ho
 ·rw [S.setD_ne D w] at q ⊢;exact h.op j hj q
theorem Gh.beg (h:Gh S g lo):Gh S.beg g lo:=by
 refine ⟨h.eq,fun j hj q=>?_,h.le,h.vn⟩
 by_cases w:j=S.n
 ·refine gw w (gw (show S.beg.d S.n=_ from S.setD_at _ _) ?_);exact h.le
 ·rw [show S.beg.d j=S.d j from S.setD_ne _ w] at q ⊢;exact h.op j (yy (z4 hj) w) q
theorem Gh.keep (h:Gh S g lo) (hk:k < S.n) (ho:(S.d k).st=0):Gh (S.keep k p) (gk S k g) lo:=by
 have rl:(S.keep k p).row.length=S.row.length + 1:=ins_len _ _ _
 refine ⟨fun n m l=>?_,fun j hj q=>?_,by refine gw rl ?_;exact zr h.le,fun n=>?_⟩
 ·show amv (if n∈kys (S.d k).ws then _ else _) m=_
  unfold gk
  split
  ·exact gw (amv_snoc ..) (gw (amv_snoc ..) (gw (h.eq n m l ..) rfl))
  ·exact h.eq n m l
 ·by_cases w:j=k
  ·replace q:=(show (S.keep k p).d k=_ from S.setD_at k _)▸w▸q;cases q
  ·rw [show (S.keep k p).d j=S.d j from S.setD_ne _ w] at q ⊢;exact h.op j hj q
 ·refine gw rl ?_
  have v:=h.vn n
  have le:∀ q∈S.hist n,0 < q.1/\q.1<=S.row.length + 1:=fun q hq=>⟨(v.le q hq).1,zr (v.le q hq).2⟩
  show Vn (if n∈kys (S.d k).ws then _ else _) _
  split
  ·refine ⟨wx.mpr ⟨v.up,wj _ _,fun a ha b hb=>?_⟩,fun q hq=>(z5.mp hq).elim (le q) fun w=>?_⟩
   ·refine gw (zg.mp hb ..) ?_;exact gv (v.le a ha).2
   ·refine gw (zg.mp w ..) ?_;exact ⟨ja _,ze _⟩
  ·exact ⟨v.up,le⟩
noncomputable def St.swp (S:St):St:={ S with hist:=hsw (lst S) S S.names }
theorem swp_at {P:List (Nat×Option Int)->Prop} (n:List Nat) (h1:P (cutv (lst S) (S.hist n))) (h2:P (S.hist n)):P (S.swp.hist n):=by
 show P (if n∈S.names then cutv (lst S) (S.hist n) else S.hist n)
 split
 ·exact h1
 ·exact h2
theorem Gh.swp (h:Gh S g lo) (s:Ser S g):Gh S.swp g (lst S):=by
 have ge:lo<=lst S:=by
  rcases lst_mem (S:=S) with e | e
  ·refine gw e ?_;exact h.le
  ·obtain ⟨k,q_h⟩:=(mem_opn.mp e);refine an3 q_h fun h1 h2 h3=>?_
   refine bw h3 ?_;exact h.op k h1 h2
 refine ⟨fun n m l=>?_,fun k hk q=>lst_le (mem_opn.mpr ⟨k,hk,q,rfl⟩),?_,fun n=>?_⟩
 ·refine bw (h.eq n m (za ge l) ..) ?_
  exact swp_at (P:=fun x=>amv x m=amv (S.hist n) m) n (atm_cut l (h.vn n).up .none) rfl
 ·rcases lst_mem (S:=S) with e | e
  ·refine gw e ?_;exact ze _
  ·obtain ⟨k,q_h⟩:=(mem_opn.mp e);refine an3 q_h fun h1 h2 h3=>?_
   refine bw h3 ?_;exact s.st k h1
 ·have v:=h.vn n
  exact swp_at (P:=fun x=>Vn x S.row.length) n ⟨v.up.sublist (vg _ _),fun p hp=>v.le p ((vg _ _).subset hp)⟩ v
theorem Ser.swp (s:Ser S g):Ser S.swp g:=⟨s.st,s.ka,s.hi,s.rd⟩
theorem Sf.swp {xs:List (List Nat)}{T:Nat} (F:Sf xs S T):Sf xs S.swp T:=⟨fun x h=>(if_neg (show x∉S.names from h)).trans (F.hh x h),F.rw,F.nd,F.rl,fun x=>za (swp_at (P:=fun l=>l.length<=(S.hist x).length) x (vg _ _).length_le (ze _)) (F.hl x),F.nn,F.nx,F.d⟩
end
end Mine.L13
namespace Mine.L13
open PySem Mine Mine.P
noncomputable abbrev Fu:=List V->H->R V
noncomputable abbrev ReadF (f:Fu):Prop:=∀ {G:Fz}{S:St}{P:Pl}{σ:H}{k T:Nat}{xs:List (List Nat)}{x:List Nat},Inv G S P σ->Sf xs S T->T<=800->k < S.n->Nm x ->
 f [sh P,.int k,.str x] σ=.exc 2 σ∨((S.d k).st=0/\∃ σ',f [sh P,.int k,.str x] σ=.ok (val (sb (S.d k).ws (S.base k) x)) σ'/\Inv G (S.setD k ((S.d k).rd x (.tup [.str [114,101,97,100],.str x,val (sb (S.d k).ws (S.base k) x)]))) P σ')
noncomputable abbrev UnderF (f:Fu):Prop:=∀ {G:Fz}{S:St}{P:Pl}{σ:H}{k T:Nat}{xs:List (List Nat)}{x:List Nat},Inv G S P σ->Sf xs S T->T<=800->xs.length<=137->k < S.n->x.length<=12->Sg x ->
 ((S.d k).st≠0/\f [sh P,.int k,.str x] σ=.exc 2 σ)∨((S.d k).st=0/\∃ σ' v l nn,f [sh P,.int k,.str x] σ=.ok v σ'/\σ'[l]?=some (.list (pV (und (sb (S.d k).ws (S.base k)) x (sort lexLe nn))))/\σ.length<=l/\nn.Nodup/\nn.length<=1000/\(∀ y,y∈nn↔y∈S.names∨y∈pN (S.d k).ws)/\Inv G (S.setD k ((S.d k).un x (.tup [.str [117,110,100,101,114],.str x,.ref l]))) P σ')
noncomputable abbrev WriteF (f:Fu):Prop:=∀ {G:Fz}{S:St}{P:Pl}{σ:H}{k T:Nat}{xs:List (List Nat)}{x:List Nat}{t:Option Int},Inv G S P σ->Sf xs S T->T<=800->S.n<=1000->k < S.n->Nm x->inR t ->
 ∃ σ',(∃ e,f [sh P,.int k,.str x,val t] σ=.exc e σ'/\Inv G S P σ')∨((S.d k).st=0/\f [sh P,.int k,.str x,val t] σ=.ok .none σ'/\Inv G (S.setD k ((S.d k).wr x t (.tup [.str [119,114,105,116,101],.str x,val t]))) P σ')
noncomputable abbrev MadeF (f:Fu):Prop:=∀ {G:Fz}{S:St}{P:Pl}{σ:H}{k:Nat},Inv G S P σ->k < S.n->f [sh P,.int k] σ=.exc 2 σ∨((S.d k).st=0/\f [sh P,.int k] σ=.ok (.int (S.d k).ws.length) σ)
noncomputable abbrev BackF (f:Fu):Prop:=∀ {G:Fz}{S:St}{P:Pl}{σ:H}{k T m:Nat}{xs:List (List Nat)},Inv G S P σ->Sf xs S T->T<=800->k < S.n->(S.d k).st=0->m<=(S.d k).ws.length ->
 ∃ P' σ',f [sh P,.int k,.int m] σ=.ok .none σ'/\P.Sim P'/\Inv G (S.setD k ((S.d k).bk m (.tup [.str [98,97,99,107],.int m]))) P' σ'
noncomputable abbrev ValF (f:Fu):Prop:=∀ c:Int,∃ t,inR t/\∀ σ,∃ σ',f [.int c] σ=.ok (val t) σ'/\Gr σ σ'
structure Dq (S:St) (k:Nat) (xs:List (List Nat)) (T:Nat) (d:Dd) (l:Nat) (D':Dl):Prop where
 said:D'.said=(S.d k).said++[dV (d,l)]
 start:D'.start=(S.d k).start
 sk:Sk xs D' (T + 1)
 lk:∀ n,looks (S.d k) n=true->looks D' n=true
 ws:D'.ws=stp (S.d k).ws d
 rt:Rt (S.base k) (fun n=>looks D' n=true) (S.d k).ws d
 wn:∀ x t,d=.wr x t->x∈xs
noncomputable def Dn (G:Fz) (S:St) (P:Pl) (σ:H) (k:Nat) (xs:List (List Nat)) (T:Nat) (r:R V):Prop :=
 (∃ e σ',r=.exc e σ'/\Inv G S P σ')∨∃ v d l D' P' σ',(S.d k).st=0/\r=.ok v σ'/\P.Sim P'/\Dq S k xs T d l D'/\Inv G (S.setD k D') P' σ'/\okD (of σ') (d,l)/\(∀ x ps,d=.un x ps->P'=P/\σ.length<=l)
noncomputable abbrev DeedF (f:Fu):Prop:=∀ {G:Fz}{S:St}{P:Pl}{σ:H}{k T:Nat}{xs:List (List Nat)}{x:List Nat},Inv G S P σ->Sf xs S T->T<=800->xs.length<=137->S.n<=1000->k < S.n->Nm x->x∈xs->∀ m c:Int,Dn G S P σ k xs T (f [sh P,.int k,.str x,.int m,.int c] σ)
section
variable {ns:List Int}{C:Calls}{ρ:Env}{σ σ' σ₁ σ₂ σ₃ σ₄:H}{G:Fz}{S:St}{P:Pl}{k:Nat}
theorem b8 {a T:Nat} (h:a<=T) (h':T<=800):a<=1000:=za h (za h' (by decide))
theorem looks_rd {D:Dl}{n:List Nat}{v:V}:(∀ x,looks D x=true->looks (D.rd n v) x=true)/\(lw D.ws n=.none->looks (D.rd n v) n=true):=by
 have w:=lw_wrote D.ws n
 unfold looks Dl.rd
 constructor
 ·intro x h
  rcases (wt _ _).mp h with q | q
  ·refine (wt _ _).mpr (.inl (decide_eq_true ?_))
   show x∈(if _ then _ else _)
   split
   ·exact of_decide_eq_true q
   ·exact mem_addN.mpr (.inl (of_decide_eq_true q))
  ·exact (wt _ _).mpr (.inr q)
 ·intro e
  replace w:=e▸w
  refine (wt _ _).mpr (.inl (decide_eq_true ?_))
  show n∈(if _ then _ else _)
  refine bw w ?_
  exact mem_addN.mpr (.inr rfl)
theorem looks_un {D:Dl}{h:List Nat}{v:V}:(∀ x,looks D x=true->looks (D.un h v) x=true)/\∀ x,pre h x=true->looks (D.un h v) x=true:=by
 unfold looks Dl.un
 constructor
 ·intro x q
  rcases (wt _ _).mp q with q | q
  ·exact (wt _ _).mpr (.inl q)
  ·obtain ⟨y,hy,e⟩:=ui.mp q
   exact (wt _ _).mpr (.inr (ui.mpr ⟨y,mem_addN.mpr (.inl hy),e⟩))
 ·exact fun x q=>(wt _ _).mpr (.inr (ui.mpr ⟨h,mem_addN.mpr (.inr rfl),q⟩))
theorem lw_name {ws:Ws}{n:List Nat} (h:lw ws n≠.none):n∈pN ws:=by
 obtain ⟨p,hp,e⟩:=kys_sub (mem_kys.mpr h)
 exact w4.mpr ⟨p,hp,e⟩
theorem cover {xs:List (List Nat)}{T:Nat} (F:Sf xs S T) {nn:List (List Nat)} (h:∀ y,y∈nn↔y∈S.names∨y∈pN (S.d k).ws) {n:List Nat} (q:sb (S.d k).ws (S.base k) n≠.none):n∈nn:=by
 refine (h n).mpr ?_
 by_cases e:lw (S.d k).ws n=.none
 ·refine .inl (Classical.byContradiction fun w=>q ?_)
  unfold sb St.base
  refine gw e (gw (F.hh n w ..) ?_);rfl
 ·exact .inr (lw_name e)
theorem read_c (hm:C.mlook=mlookOf T0) (h31:NeedO C) (h32:NeedN C) (h34:SeenBy C) (h8:Wrote C):ReadF (evF ns C f45_Shelf_read):=fun {_ S _ _ k _ _ _} I F hT hk hx=>by
 by_cases ho:(S.d k).st=0
 ·exact .inr ⟨ho,read_ok hm h31 h32 h34 h8 I F.hh hk ho (b8 (F.d k hk).ws hT) (b8 (F.d k hk).said hT) (b8 (F.d k hk).seen hT) hx⟩
 ·exact .inl (read_over hm h31 I hk ho)
theorem under_c (hm:C.mlook=mlookOf T0) (h31:NeedO C) (h2:Head C) (h5:IsU C) (h34:SeenBy C):UnderF (evF ns C f46_Shelf_under):=fun {_ S _ _ k _ _ _} I F hT hz hk hx hs=>by
 by_cases ho:(S.d k).st=0
 ·exact .inr ⟨ho,sunder_ok hm h31 h2 h5 h34 I F.hh hk ho (za (xc (za (pigeon F.nn F.nx) hz) (za (F.d k hk).ws hT)) (by decide)) (b8 (F.d k hk).said hT) (b8 (F.d k hk).heads hT) hx (jn.mpr hs)⟩
 ·exact .inl ⟨ho,under_over hm h31 I hk ho⟩
theorem write_c (hm:C.mlook=mlookOf T0) (h31:NeedO C) (h32:NeedN C) (h4:∀ {t σ},inR t->C.call 4 [val t] σ=.ok (.bool true) σ) (h8:Wrote C):WriteF (evF ns C f47_Shelf_write):=fun {_ S _ σ k _ _ _ _} I F hT hz hk hx ht=>by
 by_cases ho:(S.d k).st=0
 ·obtain ⟨σ',h⟩:=write_ok (ns:=ns) hm h31 h32 h4 h8 I F.hh hk hz (fun j hj=>b8 (F.d j hj).ws hT) (b8 (F.d k hk).said hT) ho hx ht
  exact ⟨σ',h.imp id fun q=>⟨ho,q⟩⟩
 ·exact ⟨σ,.inl ⟨2,write_over hm h31 I hk ho,I⟩⟩
theorem made_c (hm:C.mlook=mlookOf T0) (h31:NeedO C):MadeF (evF ns C f48_Shelf_made):=fun {_ S _ _ k} I hk=>by
 by_cases ho:(S.d k).st=0
 ·exact .inr ⟨ho,made_ok hm h31 I hk ho⟩
 ·exact .inl (made_over hm h31 I hk ho)
theorem back_c (hm:C.mlook=mlookOf T0) (h31:NeedO C) (h1:∀ i σ,C.call 1 [.int i] σ=.ok (.bool true) σ):BackF (evF ns C f49_Shelf_back):=fun {_ _ _ _ k _ _ _} I F hT hk ho hi =>
 back_ok hm h31 h1 I hk ho (b8 (F.d k hk).ws hT) (b8 (F.d k hk).said hT) hi
theorem tupX {e1 e2 e3:E}{x y:V}{c:Nat} (h1:Ev ns C ρ e1 σ x σ) (h2:Ev ns C ρ e2 σ y σ) (h3:evE ns C ρ e3 σ=.exc c σ'):evE ns C ρ (.tup [e1,e2,e3]) σ=.exc c σ':=bndx (bnd2 h1 (bndx (bnd2 h2 (bndx (bndx h3)))))
theorem deed_c (hm:C.mlook=mlookOf T0) (h18:ValF (C.call 24)) (h38:ReadF (C.call 45)) (h39:UnderF (C.call 46)) (h40:WriteF (C.call 47)) (h41:MadeF (C.call 48)) (h42:BackF (C.call 49)):DeedF (evF ns C f29_deed_by):=fun {G S P σ k T xs x} I F hT hz hn hk hx hxx m c=>by
 refine cps fun G' K=>?_
 have cq:∀ j:Int,Ev ns C [some (sh P),some (.int k),some (.str x),some (.int m),some (.int c),.none,.none] (.cmp .lt (.bin .mod (.var 3) (.lit (V.int 16))) (.lit (V.int j))) σ (.bool (decide (m.fmod 16 < j))) σ:=fun j=>e_cmp rfl rfl (lt_ok _ _)
 have cT:∀ {j:Int},m.fmod 16 < j->_:=fun {j} h=>(cq j).trans (by exact gw (decide_eq_true h ..) rfl)
 have cF:∀ {j:Int},¬ m.fmod 16 < j->_:=fun {j} h=>(cq j).trans (by exact gw (decide_eq_false h ..) rfl)
 have lk:∀ {n i},((T0.cls[1]?).bind fun p=>p.2.lookup n)=some i->dget (shE (P.at_ (.b 1)) (P.at_ (.b 2)) (P.at_ (.b 3))) n=.none->C.mlook (sh P) n σ=.ok i σ:=fun h h'=>look_ok hm (I.b 0 (by decide)) h' h
 by_cases q1:m.fmod 16 < 4
 ·rcases h38 I F hT hk hx with e | ⟨ho,σ',e,I'⟩
  ·exact K (.inl ⟨2,σ,f_exc (fn:=f29_deed_by) rfl (s_ifT (cT q1) (after_exc (s_retX (tupX rfl rfl (e_mcallX rfl (lk rfl rfl) rfl e))))),I⟩)
  ·exact K (.inr ⟨_,.rd x (sb (S.d k).ws (S.base k) x),0,(S.d k).rd x (dV (.rd x (sb (S.d k).ws (S.base k) x),0)),P,σ',ho,f_ret (fn:=f29_deed_by) rfl (s_ifT (cT q1) (after_end (s_ret (tup_ok (es_three rfl rfl (e_mcall rfl (lk rfl rfl) rfl e)) rfl)))),rfl,⟨rfl,rfl,(F.d k hk).rd,looks_rd.1,rfl,⟨rfl,looks_rd.2⟩,fun _ _ q=>nomatch q⟩,I',trivial,fun _ _ q=>nomatch q⟩)
 by_cases q2:m.fmod 16 < 7
 ·have hp:(0:Int) < (x.length:Int) + 1:=zan (z8 _)
  obtain ⟨h,hl,hs,hd⟩:∃ h:List Nat,h.length<=12/\Sg h/\∀ {r:List Mine.S}{Res:RS},evSs ns C [some (sh P),some (.int k),some (.str x),some (.int m),some (.int c),some (.str h),.none] σ r=Res->evSs ns C [some (sh P),some (.int k),some (.str x),some (.int m),some (.int c),.none,.none] σ (.assign 5 (.slice (.var 2) .nil (.bin .mod (.bin .fdiv (.var 3) (.lit (V.int 16))) (.bin .add (.bi .len (.var 2)) (.lit (V.int 1)))))::.ite (.cmp .eq (.bin .mod (.bin .fdiv (.var 3) (.lit (V.int 208))) (.lit (V.int 4))) (.lit (V.int 3))) [.assign 5 (.slice (.bin .add (.var 5) (.lit (V.str [113]))) .nil (.lit (V.int 12)))] []::r)=Res:=by
   let z:=(m.fdiv 16).fmod ((x.length:Int) + 1)
   have l0:(cut x .none (some z)).length<=12:=za (cut_len _ _ _) hx.2.1
   have s0:Sg (cut x .none (some z)):=hx.2.2.cut _ _
   have e0:Ev ns C [some (sh P),some (.int k),some (.str x),some (.int m),some (.int c),.none,.none] (.slice (.var 2) .nil (.bin .mod (.bin .fdiv (.var 3) (.lit (V.int 16))) (.bin .add (.bi .len (.var 2)) (.lit (V.int 1))))) σ (.str (cut x .none (some z))) σ:=e_slice rfl rfl (e_bin rfl rfl (modV (u5 hp))) (slS (lo:=.none) (hi:=some z) rfl rfl (za hx.2.1 (by decide)))
   have e1:Ev ns C [some (sh P),some (.int k),some (.str x),some (.int m),some (.int c),some (.str (cut x .none (some z))),.none] (.cmp .eq (.bin .mod (.bin .fdiv (.var 3) (.lit (V.int 208))) (.lit (V.int 4))) (.lit (V.int 3))) σ (.bool (decide ((m.fdiv 208).fmod 4=3))) σ:=e_cmp rfl rfl (eqI _ _)
   by_cases q:(m.fdiv 208).fmod 4=3
   ·have l1:(cut x .none (some z)).length + 1<=13:=zq l0
    refine ⟨cut (cut x .none (some z)++[113]) .none (some 12),?_,(s0.app (.one rfl)).cut _ _,fun h=>s_assign e0 rfl (s_ifT (e1.trans (by exact gw (decide_eq_true q ..) rfl)) (after_next (s_assign (e_slice (e_bin rfl rfl (addS (za l1 (by decide)))) rfl rfl (slS (lo:=.none) (hi:=some 12) rfl rfl (by refine gw (len_one ..) ?_;exact za l1 (by decide)))) rfl ss_nil) h))⟩
    refine gw (cut_take _ (by decide) ..) ?_
    exact kj _ _
   ·exact ⟨_,l0,s0,fun h=>s_assign e0 rfl (s_ifF (e1.trans (by exact gw (decide_eq_false q ..) rfl)) h)⟩
  rcases h39 I F hT hz hk hl hs with ⟨-,e⟩ | ⟨ho,σ',v,l,nn,e,a1,g1,n1,n2,n3,I'⟩
  ·exact K (.inl ⟨2,σ,f_exc (fn:=f29_deed_by) rfl (s_ifF (cF q1) (s_ifT (cT q2) (after_exc (hd (s_retX (tupX rfl rfl (e_mcallX rfl (lk rfl rfl) rfl e))))))),I⟩)
  ·exact K (.inr ⟨_,.un h (und (sb (S.d k).ws (S.base k)) h (sort lexLe nn)),l,(S.d k).un h (.tup [.str [117,110,100,101,114],.str h,.ref l]),P,σ',ho,f_ret (fn:=f29_deed_by) rfl (s_ifF (cF q1) (s_ifT (cT q2) (after_end (hd (s_ret (tup_ok (es_three rfl rfl (e_mcall rfl (lk rfl rfl) rfl e)) rfl)))))),rfl,⟨rfl,rfl,(F.d k hk).un,looks_un.1,rfl,⟨looks_un.2,nn,n1,fun n _ q=>cover F n3 q,rfl⟩,fun _ _ q=>nomatch q⟩,I',⟨a1,za (und_le _ _ _) (by refine gw (sort_len ..) ?_;exact n2)⟩,fun _ _ _=>⟨rfl,g1⟩⟩)
 by_cases q3:m.fmod 16 < 12
 ·obtain ⟨t,ht,hv⟩:=h18 c
  obtain ⟨σ1,e1,g1⟩:=hv σ
  obtain ⟨σ2,h⟩:=h40 (I.gr g1) F hT hn hk hx ht
  rcases h with ⟨e,h,I2⟩ | ⟨ho,h,I2⟩
  ·exact K (.inl ⟨e,σ2,f_exc (fn:=f29_deed_by) rfl (s_ifF (cF q1) (s_ifF (cF q2) (s_ifT (cT q3) (after_exc (s_exprX (e_mcallX rfl (lk rfl rfl) (es_three rfl rfl (e_call rfl e1)) h)))))),I2⟩)
  ·obtain ⟨σ3,e3,g3⟩:=hv σ2
   exact K (.inr ⟨_,.wr x t,0,(S.d k).wr x t (dV (.wr x t,0)),P,σ3,ho,f_ret (fn:=f29_deed_by) rfl (s_ifF (cF q1) (s_ifF (cF q2) (s_ifT (cT q3) (after_end (s_expr (e_mcall rfl (lk rfl rfl) (es_three rfl rfl (e_call rfl e1)) h) (s_ret (tup_ok (es_three rfl rfl (e_call rfl e3)) rfl))))))),rfl,⟨rfl,rfl,(F.d k hk).wr hxx,fun _ h=>h,rfl,trivial,fun y u q=>by injection q with q;exact q▸hxx⟩,I2.gr g3,trivial,fun _ _ q=>nomatch q⟩)
 rcases h41 I hk with e | ⟨ho,e⟩
 ·exact K (.inl ⟨2,σ,f_exc (fn:=f29_deed_by) rfl (s_ifF (cF q1) (s_ifF (cF q2) (s_ifF (cF q3) (s_assignX (bnd2 rfl (bndx (bndx (e_mcallX rfl (lk rfl rfl) rfl e)))))))),I⟩)
 ·have hp:(0:Int) < ((S.d k).ws.length:Int) + 1:=zan (z8 _)
  obtain ⟨z1,z2⟩:=fmod_lt (m.fdiv 16) hp
  obtain ⟨j,hj⟩:=uu z1
  have hj':j<=(S.d k).ws.length:=yw.mp (jv (hj▸z2))
  refine ex2 (h42 I F hT hk ho hj') fun P' σ' q_h=>?_;refine an3 q_h fun e' s' I'=>?_
  exact K (.inr ⟨_,.bk j,0,(S.d k).bk j (dV (.bk j,0)),P',σ',ho,f_ret (fn:=f29_deed_by) rfl (s_ifF (cF q1) (s_ifF (cF q2) (s_ifF (cF q3) (s_assign (v:=.int j) (e_bin rfl (e_bin (e_mcall rfl (lk rfl rfl) rfl e) rfl rfl) ((modV (u5 hp)).trans (by exact gw hj rfl))) rfl (s_expr (e_mcall rfl (lk rfl rfl) rfl e') (s_ret (tup_ok rfl rfl))))))),s',⟨rfl,rfl,(F.d k hk).bk,fun _ h=>h,rfl,trivial,fun _ _ q=>nomatch q⟩,I',trivial,fun _ _ q=>nomatch q⟩)
end
end Mine.L13
namespace Mine.L13
open PySem Mine Mine.P
structure Ad where
 pl:Nat
 tn:Nat
 kp:Nat
 s:V
 xs:List (List Nat)
 sc:Nat
 zs:List Int
noncomputable def Ad.fx (A:Ad):List (Nat×List V):=[(A.pl,A.xs.map V.str),(A.sc,A.zs.map V.int)]
noncomputable def okW (M:Fz) (w:Nat->Nat) (c:Nat) (p:Dd×Nat):Prop:=okD M p/\∀ x ps,p.1=.un x ps->w p.2=c
structure Me (A:Ad) (M:Fz) (w:Nat->Nat) (n:Nat) (sd:Nat->List V) (tl:Nat->Nat) (x:Nat->List V) (q:Nat->List (Dd×Nat)) (ks:List V):Prop where
 pl:∀ p∈A.fx,M p.1=some (.list p.2)/\w p.1=1
 tn:M A.tn=some (.list ((xf n).map fun k=>.ref (tl k)))/\w A.tn=2
 tk:∀ k,k < n->M (tl k)=some (.list (x k))/\w (tl k)=3
 ti:∀ j k,j < n->k < n->tl j=tl k->j=k
 sd:∀ k,k < n->sd k=dVs (q k)/\∀ p∈q k,okW M w 4 p
 kp:M A.kp=some (.list ks)/\w A.kp=5
noncomputable def Ag (c:Nat) (M M':Fz) (w w':Nat->Nat):Prop:=∀ i o,M i=some o->w i≠c->M' i=some o/\w' i=w i
section
variable {A:Ad}{M M':Fz}{w w':Nat->Nat}{n c d k:Nat}{sd:Nat->List V}{tl:Nat->Nat}{x:Nat->List V}{r:Nat->List (Dd×Nat)}{ks:List V}{p:Dd×Nat}{i:Nat}{o:O}
theorem Ag.at (g:Ag c M M' w w') (h:M i=some o/\w i=d) (hd:d≠c):M' i=some o/\w' i=d :=
 ⟨(g i o h.1 (h.2▸hd)).1,(g i o h.1 (h.2▸hd)).2.trans h.2⟩
theorem okW.ag (h:okW M w d p) (g:Ag c M M' w w') (hd:d≠c):okW M' w' d p:=by
 obtain ⟨e,l⟩:=p
 cases e with
 | un x ps =>
  have:=g.at ⟨h.1.1,h.2 x ps rfl⟩ hd
  exact ⟨⟨this.1,h.1.2⟩,fun _ _ _=>this.2⟩
 | _=>exact ⟨trivial,fun _ _ e=>nomatch e⟩
noncomputable def Ex (M M':Fz) (w w':Nat->Nat):Prop:=∀ i o,M i=some o->M' i=some o/\w' i=w i
theorem Ex.ag (g:Ex M M' w w'):Ag c M M' w w':=fun i o e _=>g i o e
theorem Ex.rfl:Ex M M w w:=fun _ _ e=>⟨e,Eq.refl _⟩
theorem Ex.tr {M'':Fz}{w'':Nat->Nat} (g:Ex M M' w w') (g':Ex M' M'' w' w''):Ex M M'' w w'':=fun i o e =>
 ⟨(g' i o (g i o e).1).1,(g' i o (g i o e).1).2.trans (g i o e).2⟩
noncomputable def wN (w:Nat->Nat) (l d:Nat):Nat->Nat:=fun i=>if i=l then d else w i
theorem ex_new {l:Nat} (hl:M l=.none) (o:O) (d:Nat):Ex M (upd M l o) w (wN w l d):=fun i x e=>by
 have:i≠l:=fun q=>by replace e:=hl▸q▸e;cases e
 exact ⟨(upd_ne M o this).trans e,if_neg this⟩
theorem ag_upd {a:Nat} (ha:w a=c) (o:O):Ag c M (upd M a o) w w:=fun i x e h=>by
 have:i≠a:=fun q=>h (q▸ha)
 exact ⟨(upd_ne M o this).trans e,Eq.refl _⟩
theorem Me.ex (m:Me A M w n sd tl x r ks) (g:Ex M M' w w'):Me A M' w' n sd tl x r ks :=
 have a:Ag 9 M M' w w':=g.ag
 ⟨fun p hp=>a.at (m.pl p hp) (by decide),a.at m.tn (by decide),fun k hk=>a.at (m.tk k hk) (by decide),m.ti,fun k hk=>⟨(m.sd k hk).1,fun p hp=>((m.sd k hk).2 p hp).ag a (by decide)⟩,a.at m.kp (by decide)⟩
theorem Me.told (m:Me A M w n sd tl x r ks) (hk:k < n) {p:Dd×Nat} (hp:okW M w 4 p) (v:V) {sd':Nat->List V} (h1:sd' k=sd k++[dV p]) (h2:∀ j,j≠k->sd' j=sd j) :
  Me A (upd M (tl k) (.list (x k++[v]))) w n sd' tl (fun j=>if j=k then x k++[v] else x j) (fun j=>if j=k then r k++[p] else r j) ks:=by
 have a:Ag 3 M (upd M (tl k) (.list (x k++[v]))) w w:=ag_upd (m.tk k hk).2 _
 refine ⟨fun p hp=>a.at (m.pl p hp) (by decide),a.at m.tn (by decide),fun j hj=>?_,m.ti,fun j hj=>?_,a.at m.kp (by decide)⟩
 ·by_cases h:j=k
  ·subst h;refine gw (if_pos rfl ..) ?_
   exact ⟨upd_at ..,(m.tk j hj).2⟩
  ·refine gw (if_neg h ..) ?_
   exact ⟨(upd_ne M _ fun q=>h (m.ti j k hj hk q)).trans (m.tk j hj).1,(m.tk j hj).2⟩
 ·by_cases h:j=k
  ·subst h;refine gw (if_pos rfl ..) ?_
   refine ⟨?_,fun x hx=>((z5.mp hx).elim ((m.sd j hj).2 x) fun q=>by refine gw (zg.mp q ..) ?_;exact hp).ag a (by decide)⟩
   refine gw h1 (gw ((m.sd j hj).1 ..) ?_);unfold dVs;refine gw (yg ..) ?_;rfl
  ·refine gw (if_neg h ..) (gw (h2 j h ..) ?_)
   exact ⟨(m.sd j hj).1,fun x hx=>((m.sd j hj).2 x hx).ag a (by decide)⟩
theorem Me.begin (m:Me A M w n sd tl x r ks) {l:Nat} (hl:M l=some (.list [])) (hw:w l=3) (hn:∀ k,k < n->tl k≠l) {sd':Nat->List V} (h1:sd' n=[]) (h2:∀ j,j≠n->sd' j=sd j) :
  Me A (upd M A.tn (.list ((xf n).map (fun k=>V.ref (tl k))++[.ref l]))) w (n + 1) sd' (fun j=>if j=n then l else tl j) (fun j=>if j=n then [] else x j) (fun j=>if j=n then [] else r j) ks:=by
 have a:Ag 2 M (upd M A.tn (.list ((xf n).map (fun k=>V.ref (tl k))++[.ref l]))) w w:=ag_upd m.tn.2 _
 have lt:∀ {j},j < n + 1->j≠n->j < n:=fun h h'=>yy (z4 h) h'
 refine ⟨fun p hp=>a.at (m.pl p hp) (by decide),⟨(upd_at ..).trans ?_,m.tn.2⟩,fun j hj=>?_,fun i j hi hj e=>?_,fun j hj=>?_,a.at m.kp (by decide)⟩
 ·refine gw (List.range_succ ..) (gw (yg ..) ?_)
  congr 2
  congr 1
  ·exact wq fun j hj=>by exact gw (if_neg (yj (vo.mp hj)) ..) rfl
  ·show _=[V.ref (if n=n then l else tl n)];exact gw (if_pos rfl ..) rfl
 ·by_cases h:j=n
  ·subst h;refine gw (if_pos rfl ..) (gw (if_pos rfl ..) ?_);exact a.at ⟨hl,hw⟩ (by decide)
  ·refine gw (if_neg h ..) (gw (if_neg h ..) ?_);exact a.at (m.tk j (lt hj h)) (by decide)
 ·by_cases h:i=n
  ·by_cases h':j=n
   ·exact gw h (gw h' rfl)
   ·replace e:=(if_neg h' ..)▸(if_pos h ..)▸e;exact absurd e.symm (hn j (lt hj h'))
  ·by_cases h':j=n
   ·replace e:=(if_pos h' ..)▸(if_neg h ..)▸e;exact absurd e (hn i (lt hi h))
   ·replace e:=(if_neg h' ..)▸(if_neg h ..)▸e;exact m.ti i j (lt hi h) (lt hj h') e
 ·by_cases h:j=n
  ·subst h;refine gw (if_pos rfl ..) ?_;exact ⟨h1,fun _ hx=>absurd hx z0⟩
  ·refine gw (if_neg h ..) (gw (h2 j h ..) ?_);exact ⟨(m.sd j (lt hj h)).1,fun x hx=>((m.sd j (lt hj h)).2 x hx).ag a (by decide)⟩
theorem Me.kept (m:Me A M w n sd tl x r ks) (v:V):Me A (upd M A.kp (.list (ks++[v]))) w n sd tl x r (ks++[v]) :=
 have a:Ag 5 M (upd M A.kp (.list (ks++[v]))) w w:=ag_upd m.kp.2 _
 ⟨fun p hp=>a.at (m.pl p hp) (by decide),a.at m.tn (by decide),fun k hk=>a.at (m.tk k hk) (by decide),m.ti,fun k hk=>⟨(m.sd k hk).1,fun p hp=>((m.sd k hk).2 p hp).ag a (by decide)⟩,⟨upd_at ..,m.kp.2⟩⟩
theorem Me.said (m:Me A M w n sd tl x r ks) {sd':Nat->List V} (h:∀ j,sd' j=sd j):Me A M w n sd' tl x r ks:=by
 have:sd'=sd:=funext h
 refine gw (this ..) ?_;exact m
end
structure Tl (xs:List (List Nat)) (S:St) (g:List Nat->List (Nat×Option Int)) (T:Nat) (k:Nat) (q:List (Dd×Nat)):Prop where
 lg:Lg (fun n=>amv (g n) (S.d k).start) (fun n=>looks (S.d k) n=true) (ds q) (S.d k).ws
 z:q.length<=T
 wn:∀ x t,Dd.wr x t∈ds q->x∈xs
structure Sv (xs:List (List Nat)) (S:St) (g:List Nat->List (Nat×Option Int)) (lo T:Nat) (r:Nat->List (Dd×Nat)) (x:Nat->List V) (ks:List V):Prop where
 F:Sf xs S T
 s:Ser S g
 gh:Gh S g lo
 t:∀ k,k < S.n->Tl xs S g T k (r k)
 xl:∀ k,k < S.n->(x k).length<=T
 kl:ks.length<=T
section
variable {xs:List (List Nat)}{S:St}{g:List Nat->List (Nat×Option Int)}{lo T k p:Nat}{r:Nat->List (Dd×Nat)}{x:Nat->List V}{ks:List V}
theorem Tl.mono {T':Nat}{q:List (Dd×Nat)} (h:Tl xs S g T k q) (l:T<=T'):Tl xs S g T' k q:=⟨h.lg,za h.z l,h.wn⟩
theorem Sv.mono {T':Nat} (h:Sv xs S g lo T r x ks) (l:T<=T'):Sv xs S g lo T' r x ks:=⟨h.F.mono l,h.s,h.gh,fun k hk=>(h.t k hk).mono l,fun k hk=>za (h.xl k hk) l,za h.kl l⟩
theorem Tl.to {S':St}{g':List Nat->List (Nat×Option Int)}{q:List (Dd×Nat)} (h:Tl xs S g T k q) (e:(S'.d k).start=(S.d k).start/\(S'.d k).ws=(S.d k).ws/\looks (S'.d k)=looks (S.d k)) (eg:∀ n,amv (g' n) (S.d k).start=amv (g n) (S.d k).start):Tl xs S' g' T k q:=by
 refine ⟨?_,h.z,h.wn⟩
 refine gw (e.1 ..) (gw (e.2.1 ..) (gw (e.2.2 ..) (gw (show (fun n=>amv (g' n) (S.d k).start)=fun n=>amv (g n) (S.d k).start from funext eg) ?_)))
 exact h.lg
theorem Tl.ne {k':Nat}{D:Dl}{q:List (Dd×Nat)} (h:Tl xs S g T k q) (e:k≠k'):Tl xs (S.setD k' D) g T k q:=h.to (by refine gw (S.setD_ne D e ..) ?_;exact ⟨rfl,rfl,rfl⟩) fun _=>rfl
theorem Sv.deed (h:Sv xs S g lo T r x ks) (hk:k < S.n) (ho:(S.d k).st=0) {d:Dd}{l:Nat}{D':Dl} (q:Dq S k xs T d l D') (v:V):Sv xs (S.setD k D') g lo (T + 1) (fun j=>if j=k then r k++[(d,l)] else r j) (fun j=>if j=k then x k++[v] else x j) ks:=by
 refine ⟨h.F.setD ho (yh _) q.sk,h.s.setD h.F ho q.start,h.gh.setD hk ho q.start,fun j hj=>?_,fun j hj=>?_,zr h.kl⟩
 ·by_cases e:j=k
  ·subst e
   refine gw (if_pos rfl ..) ?_
   have t:=h.t j hj
   have eb:S.base j=fun n=>amv (g n) (S.d j).start:=funext fun n=>h.gh.eq n _ (h.gh.op j hj ho)
   have em:ds (r j++[(d,l)])=ds (r j)++[d]:=yg
   refine ⟨?_,by refine gw (len_one ..) ?_;exact zq t.z,fun y u hx=>?_⟩
   ·refine gw (S.setD_at ..) (gw (q.ws ..) (gw em (gw (q.start ..) ?_)))
    exact t.lg.snoc q.lk (eb▸q.rt)
   ·replace hx:=em▸hx
    exact (z5.mp hx).elim (t.wn y u) fun w=>q.wn y u (zg.mp w).symm
  ·refine gw (if_neg e ..) ?_
   exact ((h.t j hj).ne e).mono (yh _)
 ·show (if j=k then x k++[v] else x j).length<=_
  split
  ·refine gw (len_one ..) ?_;exact zq (h.xl k hk)
  ·exact zr (h.xl j hj)
theorem Sv.over (h:Sv xs S g lo T r x ks) (hk:k < S.n) (ho:(S.d k).st=0):Sv xs (S.setD k { S.d k with st:=1 }) g lo (T + 1) r x ks:=by
 refine ⟨h.F.setD ho (yh _) ((h.F.d k hk).mono (yh _)).st,h.s.setD h.F ho rfl,h.gh.setD hk ho rfl,fun j hj=>?_,fun j hj=>zr (h.xl j hj),zr h.kl⟩
 refine ((h.t j hj).mono (yh _)).to ?_ fun _=>rfl
 by_cases e:j=k
 ·refine gw e (gw (S.setD_at ..) ?_);exact ⟨rfl,rfl,rfl⟩
 ·refine gw (S.setD_ne _ e ..) ?_;exact ⟨rfl,rfl,rfl⟩
theorem Sv.keep (h:Sv xs S g lo T r x ks) (hk:k < S.n) (ho:(S.d k).st=0) (pk:Pk S k p) (v:V):Sv xs (S.keep k p) (gk S k g) lo (T + 1) r x (ks++[v]):=by
 refine ⟨h.F.keep hk ho,h.s.keep h.F hk ho pk,h.gh.keep hk ho,fun j hj=>((h.t j hj).mono (yh _)).to ?_ fun n=>amv_keep (h.s.st j hj) n,fun j hj=>zr (h.xl j hj),by refine gw (len_one ..) ?_;exact zq h.kl⟩
 by_cases e:j=k
 ·refine gw e (gw (show (S.keep k p).d k=_ from S.setD_at k _) ?_);exact ⟨rfl,rfl,rfl⟩
 ·refine gw (show (S.keep k p).d j=_ from S.setD_ne _ e) ?_;exact ⟨rfl,rfl,rfl⟩
theorem Sv.beg (h:Sv xs S g lo T r x ks):Sv xs S.beg g lo T (fun j=>if j=S.n then [] else r j) (fun j=>if j=S.n then [] else x j) ks:=by
 refine ⟨h.F.beg,h.s.beg h.F,h.gh.beg,fun j hj=>?_,fun j hj=>?_,h.kl⟩
 ·by_cases e:j=S.n
  ·refine gw (if_pos e ..) ?_
   refine ⟨?_,z7 _,fun _ _ q=>absurd q z0⟩
   refine gw e (gw (show S.beg.d S.n=_ from S.setD_at _ _) ?_)
   exact Lg.nil
  ·refine gw (if_neg e ..) ?_
   exact (h.t j (yy (z4 hj) e)).to (by refine gw (show S.beg.d j=S.d j from S.setD_ne _ e) ?_;exact ⟨rfl,rfl,rfl⟩) fun _=>rfl
 ·show (if j=S.n then [] else x j).length<=_
  by_cases e:j=S.n
  ·refine gw (if_pos e ..) ?_;exact z7 _
  ·refine gw (if_neg e ..) ?_;exact h.xl j (yy (z4 hj) e)
theorem Sv.swp (h:Sv xs S g lo T r x ks):Sv xs S.swp g (lst S) T r x ks:=⟨h.F.swp,h.s.swp,h.gh.swp h.s,fun k hk=>(h.t k hk).to ⟨rfl,rfl,rfl⟩ fun _=>rfl,h.xl,h.kl⟩
end
end Mine.L13
namespace Mine.L13
open PySem Mine Mine.P
inductive Lx (A:Ad) (n T:Nat) (σ:H):Prop
 | mk (M:Fz) (w:Nat->Nat) (S:St) (P:Pl) (tl:Nat->Nat) (x:Nat->List V) (r:Nat->List (Dd×Nat)) (ks:List V) (g:List Nat->List (Nat×Option Int)) (lo:Nat) (I:Inv M S P σ) (sp:sh P=A.s) (sn:S.n=n) (m:Me A M w n (fun k=>(S.d k).said) tl x r ks) (v:Sv A.xs S g lo T r x ks)
noncomputable abbrev KeepF (f:Fu):Prop:=∀ {G:Fz}{S:St}{P:Pl}{σ:H}{k T:Nat}{xs:List (List Nat)},Inv G S P σ->Sf xs S T->T<=800->xs.length<=137->k < S.n ->
 f [sh P,.int k] σ=.exc 2 σ∨((S.d k).st=0/\∃ P' σ',P.Sim P'/\((f [sh P,.int k] σ=.exc 8 σ'/\Inv G (S.setD k { S.d k with st:=1 }) P' σ')∨∃ p,Pk S k p/\f [sh P,.int k] σ=.ok (.int p) σ'/\Inv G (S.keep k p) P' σ'))
noncomputable abbrev DropF (f:Fu):Prop:=∀ {G:Fz}{S:St}{P:Pl}{σ:H}{k:Nat},Inv G S P σ->k < S.n->f [sh P,.int k] σ=.exc 2 σ∨((S.d k).st=0/\∃ σ',f [sh P,.int k] σ=.ok .none σ'/\Inv G (S.setD k { S.d k with st:=1 }) P σ')
noncomputable abbrev TriedF (f:Fu):Prop:=∀ {A:Ad}{n T:Nat}{σ:H}{k:Nat}{x:List Nat},Lx A n T σ->T<=800->A.xs.length<=137->n<=1000->k < n->∀ {m c:Int},((Nm x/\x∈A.xs)∨¬ m.fmod 16 < 13) ->
 ∃ b σ',f [A.s,.ref A.tn,.ref A.kp,.int k,.str x,.int m,.int c] σ=.ok (.bool b) σ'/\Lx A n (T + 1) σ'
section
variable {ns:List Int}{C:Calls}{ρ:Env}{σ σ' σ₁ σ₂ σ₃ σ₄:H}{M:Fz}{w:Nat->Nat}{S:St}{P:Pl}{k:Nat}
theorem keep_c (hm:C.mlook=mlookOf T0) (h31:NeedO C) (h7:Values C) (h10:PlaceIn C) (h41:Ahead C) (h44:WasL C):KeepF (evF ns C f52_Shelf_keep):=fun {_ S _ _ k _ _} I F hT hz hk=>by
 by_cases ho:(S.d k).st=0
 ·exact .inr ⟨ho,keep_ok hm h31 h7 h10 h41 h44 I F.hh hk ho (fun j hj=>(F.rw j hj).1) (fun j hj=>⟨b8 (F.d j hj).ws hT,b8 (F.d j hj).heads hT⟩) (za F.rl (za hT (by decide))) (za (pigeon F.nn F.nx) (za hz (by decide))) (fun x=>b8 (F.hl x) hT)⟩
 ·exact .inl (keep_over hm h31 I hk ho)
theorem drop_c (hm:C.mlook=mlookOf T0) (h31:NeedO C):DropF (evF ns C f53_Shelf_drop):=fun {_ S _ _ k} I hk=>by
 by_cases ho:(S.d k).st=0
 ·exact .inr ⟨ho,drop_ok hm h31 I hk ho⟩
 ·exact .inl (drop_over hm h31 I hk ho)
theorem own {d:Dd}{l:Nat} (I:Inv M S P σ) (h:okD (of σ) (d,l)) (f:∀ x ps,d=.un x ps->Fr M S P l) (c:Nat):∃ M' w',Ex M M' w w'/\Inv M' S P σ/\okW M' w' c (d,l):=by
 cases d with
 | un x ps=>exact ⟨upd M l (.list (pV ps)),wN w l c,ex_new (f x ps rfl).no _ _,I.add (f x ps rfl) h.1,⟨⟨upd_at ..,h.2⟩,fun _ _ _=>if_pos rfl⟩⟩
 | _=>exact ⟨M,w,Ex.rfl,I,⟨trivial,fun _ _ q=>nomatch q⟩⟩
theorem rng_at {α:Type}{n k:Nat} (f:Nat->α) (h:k < n):((xf n).map f)[k]?=some (f k):=by refine gw (zv ..) (gw (List.getElem?_range h ..) ?_);rfl
theorem Fr.setD {a:Nat}{D:Dl} (f:Fr M S P a):Fr M (S.setD k D) P a:=⟨fun c lc=>f.ne c (by cases c <;> exact lc),f.no⟩
theorem sub0_ (e:Nat):subS e 0=true:=by show (e == 0 || true)=true;exact zaw _
theorem said_st (S:St) (k s:Nat) (j:Nat):((S.setD k { S.d k with st:=s }).d j).said=(S.d j).said:=by
 by_cases e:j=k
 ·exact gw e (gw (S.setD_at ..) rfl)
 ·exact gw (S.setD_ne _ e ..) rfl
theorem tried_c (hm:C.mlook=mlookOf T0) (hsub:C.sub=subS) (h22:DeedF (C.call 29)) (h43:KeepF (C.call 52)) (h44:DropF (C.call 53)):TriedF (evF ns C f30_tried):=fun {A n T σ k x} L hT hxs hn hk {mo c} hx=>by
 refine cps fun G' K=>?_
 obtain ⟨M,w,S,P,tl,x',r,ks,g,lo,I,sp,sn,m,v⟩:=L
 subst sn
 have F:=v.F
 have cq:Ev ns C [some (sh P),some (.ref A.tn),some (.ref A.kp),some (.int k),some (.str x),some (.int mo),some (.int c)] (.cmp .lt (.bin .mod (.var 5) (.lit (V.int 16))) (.lit (V.int 13))) σ (.bool (decide (mo.fmod 16 < 13))) σ:=e_cmp rfl rfl (lt_ok _ _)
 have X:∀ {e:Nat}{ρ':Env}{σ':H}{b:List Mine.S},evSs ns C [some (sh P),some (.ref A.tn),some (.ref A.kp),some (.int k),some (.str x),some (.int mo),some (.int c)] σ b=.exc e ρ' σ'->evSs ns C [some (sh P),some (.ref A.tn),some (.ref A.kp),some (.int k),some (.str x),some (.int mo),some (.int c)] σ [.try b 0 .none (V.bool false),.ret (.lit (V.bool true))]=.ok (.ret (.bool false)) ρ' σ':=fun h=>s_tryX (by refine gw (hsub ..) ?_;exact sub0_ _) h rfl
 have N:∀ {ρ':Env}{σ':H}{b:List Mine.S},evSs ns C [some (sh P),some (.ref A.tn),some (.ref A.kp),some (.int k),some (.str x),some (.int mo),some (.int c)] σ b=.ok .next ρ' σ'->evSs ns C [some (sh P),some (.ref A.tn),some (.ref A.kp),some (.int k),some (.str x),some (.int mo),some (.int c)] σ [.try b 0 .none (V.bool false),.ret (.lit (V.bool true))]=.ok (.ret (.bool true)) ρ' σ':=fun h=>s_try h (after_next rfl (s_ret rfl))
 have lk:∀ {n i},((T0.cls[1]?).bind fun p=>p.2.lookup n)=some i->dget (shE (P.at_ (.b 1)) (P.at_ (.b 2)) (P.at_ (.b 3))) n=.none->C.mlook (sh P) n σ=.ok i σ:=fun h h'=>look_ok hm (I.b 0 (by decide)) h' h
 replace K:=sp▸K
 by_cases q1:mo.fmod 16 < 13
 ·have cT:=cq.trans (show _=R.ok (V.bool true) σ by exact gw (decide_eq_true q1 ..) rfl)
  obtain ⟨hx1,hx2⟩:=hx.resolve_right fun q=>q q1
  have i0:Ev ns C [some (sh P),some (.ref A.tn),some (.ref A.kp),some (.int k),some (.str x),some (.int mo),some (.int c)] (.idx (.var 1) (.var 3)) σ (.ref (tl k)) σ:=e_idx rfl rfl (idxL (I.at m.tn.1) (z8 k) (by refine gw (xb ..) ?_;exact rng_at _ hk))
  have k0:=kL (m:=.append) (I.at (m.tk k hk).1) rfl
  rcases h22 I F hT hxs hn hk hx1 hx2 mo c with ⟨e,σ1,e1,I1⟩ | ⟨u,d,l,D',P',σ1,ho,e1,s1,dq,I1,o1,fr⟩
  ·exact K ⟨false,σ1,f_ret (fn:=f30_tried) rfl (X (s_ifT cT (after_exc (s_exprX (bnd2 i0 (bnd2 k0 (bndx (bndx (e_callX rfl e1))))))))),M,w,S,P,tl,x',r,ks,g,lo,I1,sp,rfl,m,v.mono (yh _)⟩
  refine ex2 (own (w:=w) I1 o1 (fun x ps e=>by obtain ⟨rfl,g1⟩:=fr x ps e;exact (I.fr g1).setD) 4) fun M1 w1 q_h=>?_;refine an3 q_h fun x1 J1 o4=>?_
  have m1:=m.ex x1
  have m2:=m1.told (p:=(d,l)) hk o4 u (sd':=fun j=>((S.setD k D').d j).said) (by refine gw (S.setD_at ..) ?_;exact dq.said) (fun j hj=>by exact gw (S.setD_ne _ hj ..) rfl)
  have I2:=J1.upd (m1.tk k hk).1 (.list (x' k++[u]))
  exact K ⟨true,_,f_ret (fn:=f30_tried) rfl (N (s_ifT cT (after_next (s_expr (e_me i0 k0 (es_one (e_call rfl e1)) (appL (J1.at (m1.tk k hk).1) (lm1 (za (v.xl k hk) (za hT (by decide)))))) ss_nil) ss_nil))),_,w1,S.setD k D',P',tl,_,_,ks,g,lo,I2,(congrArg (V.inst 1) s1).trans sp,rfl,m2,v.deed hk ho dq u⟩
 ·have cF:=cq.trans (show _=R.ok (V.bool false) σ by exact gw (decide_eq_false q1 ..) rfl)
  obtain ⟨bb,ce⟩:∃ bb,Ev ns C [some (sh P),some (.ref A.tn),some (.ref A.kp),some (.int k),some (.str x),some (.int mo),some (.int c)] (.or [(.cmp .lt (.bin .mod (.var 5) (.lit (V.int 16))) (.lit (V.int 15))),(.cmp .eq (.bin .mod (.bin .fdiv (.var 5) (.lit (V.int 16))) (.lit (V.int 2))) (.lit (V.int 0)))]) σ (.bool bb) σ:=⟨_,or2 (e_cmp rfl rfl (lt_ok _ _)) (e_cmp rfl rfl (eqI _ _))⟩
  cases bb with
  | true =>
   rcases h43 I F hT hxs hk with e | ⟨ho,P',σ',s',⟨e,I'⟩ | ⟨p,hp,e,I'⟩⟩
   ·exact K ⟨false,_,f_ret (fn:=f30_tried) rfl (X (s_if cF (after_exc (s_ifT ce (after_exc (s_exprX (e_mcallX rfl (lk rfl rfl) rfl e))))))),M,w,S,P,tl,x',r,ks,g,lo,I,sp,rfl,m,v.mono (yh _)⟩
   ·exact K ⟨false,_,f_ret (fn:=f30_tried) rfl (X (s_if cF (after_exc (s_ifT ce (after_exc (s_exprX (e_mcallX rfl (lk rfl rfl) rfl e))))))),M,w,_,P',tl,x',r,ks,g,lo,I',(congrArg (V.inst 1) s').trans sp,rfl,m.said (said_st S k 1),v.over hk ho⟩
   ·have m2:=(m.said (sd':=fun j=>((S.keep k p).d j).said) fun j=>by
     show ((S.setD k { S.d k with st:=2,kat:=S.row.length + 1 }).d j).said=_
     by_cases e:j=k
     ·exact gw e (gw (S.setD_at ..) rfl)
     ·exact gw (S.setD_ne _ e ..) rfl).kept (.int k)
    have I2:=I'.upd m.kp.1 (.list (ks++[.int k]))
    exact K ⟨true,_,f_ret (fn:=f30_tried) rfl (N (s_if cF (after_next (s_ifT ce (after_next (s_expr (e_mcall rfl (lk rfl rfl) rfl e) (s_expr (e_me rfl (kL (I'.at m.kp.1) rfl) rfl (appL (I'.at m.kp.1) (lm1 (za v.kl (za hT (by decide)))))) ss_nil)) ss_nil)) ss_nil))),_,w,S.keep k p,P',tl,x',r,_,gk S k g,lo,I2,(congrArg (V.inst 1) s').trans sp,rfl,m2,v.keep hk ho hp _⟩
  | false =>
   rcases h44 I hk with e | ⟨ho,σ',e,I'⟩
   ·exact K ⟨false,_,f_ret (fn:=f30_tried) rfl (X (s_if cF (after_exc (s_if ce (after_exc (s_exprX (e_mcallX rfl (lk rfl rfl) rfl e))))))),M,w,S,P,tl,x',r,ks,g,lo,I,sp,rfl,m,v.mono (yh _)⟩
   ·exact K ⟨true,_,f_ret (fn:=f30_tried) rfl (N (s_if cF (after_next (s_if ce (after_next (s_expr (e_mcall rfl (lk rfl rfl) rfl e) ss_nil) ss_nil)) ss_nil))),M,w,_,P,tl,x',r,ks,g,lo,I',sp,rfl,m.said (said_st S k 1),v.over hk ho⟩
end
end Mine.L13
namespace Mine.L13
open PySem Mine Mine.P
noncomputable abbrev BeginF (f:Fu):Prop:=∀ {G:Fz}{S:St}{P:Pl}{σ:H},Inv G S P σ->S.n<=1000->∃ P' σ',f [sh P] σ=.ok (.int S.n) σ'/\P.Sim P'/\Inv G S.beg P' σ'
noncomputable abbrev ShortF (f:Fu):Prop:=∀ {A:Ad}{n T j:Nat}{σ:H},Lx A n T σ->T + 2 * j<=800->A.xs.length<=137->A.xs≠[]->(∀ x∈A.xs,Nm x)->n + j<=999->∃ σ',f [A.s,.ref A.tn,.ref A.kp,.ref A.pl,.int j] σ=.ok .none σ'/\Lx A (n + j) (T + 2 * j) σ'
section
variable {ns:List Int}{C:Calls}{ρ:Env}{σ σ' σ₁ σ₂ σ₃ σ₄:H}{A:Ad}{n T:Nat}
theorem beg_l (hm:C.mlook=mlookOf T0) (h37:BeginF (C.call 44)) (L:Lx A n T σ) (hn:n<=1000):∃ (σ1 σ2:H) (xs:List V),(∀ (ρ:Env) (j:Nat),ρ[j]?=some (some (.ref A.tn))->Ev ns C ρ (.me (.var j) .append [(.list [])]) σ .none σ1)/\σ1[A.tn]?=some (.list xs)/\xs.length=n + 1 /\
  (∀ (ρ:Env) (j:Nat),ρ[j]?=some (some A.s)->Ev ns C ρ (.mcall (.var j) [98,101,103,105,110] []) σ1 (.int n) σ2)/\σ2[A.tn]?=some (.list xs)/\Lx A (n + 1) T σ2:=by
 refine cps fun G' K=>?_
 obtain ⟨M,w,S,P,tl,x,r,ks,g,lo,I,sp,sn,m,v⟩:=L
 subst sn
 have I0:=I.new (.list [])
 have m0:=m.ex (ex_new (I.fr (ze _)).no (.list []) 3)
 have I1:=I0.upd m0.tn.1 (.list ((xf S.n).map (fun k=>V.ref (tl k))++[.ref σ.length]))
 refine ex2 (h37 I1 hn) fun P' σ2 q_h=>?_;refine an3 q_h fun e2 s2 I2=>?_
 have m2:=m0.begin (l:=σ.length) (upd_at ..) (if_pos rfl) (fun k hk=>yj (zc.mp (I.at (m.tk k hk).1)).1) (sd':=fun j=>(S.beg.d j).said) (congrArg Dl.said (S.setD_at S.n (dl0 S.row.length))) (fun j hj=>congrArg Dl.said (S.setD_ne (dl0 S.row.length) hj))
 have le:((xf S.n).map (fun k=>V.ref (tl k))++[V.ref σ.length]).length=S.n + 1:=by exact gw (len_one ..) (gw (zb ..) (gw (vj ..) rfl))
 exact K ⟨_,σ2,_,fun ρ j h=>e_me (var_ok h) (kL (I.at m.tn.1) rfl) (es_one (e_list rfl (z7 _))) (appL (I0.at m0.tn.1) (by refine gw (zb ..) (gw (vj ..) ?_);exact lm1 (za hn (by decide)))),I1.at (upd_at ..),le,fun ρ j h=>e_mcall (x:=sh P) (var_ok (h.trans (congrArg (fun z=>some (some z)) sp.symm))) (look_ok hm (I1.b 0 (by decide)) rfl rfl) rfl e2,I2.at (upd_at ..),_,_,S.beg,P',_,_,_,ks,g,lo,I2,(congrArg (V.inst 1) s2).trans sp,rfl,m2,v.beg⟩
theorem Lx.pool (L:Lx A n T σ):σ[A.pl]?=some (.list (A.xs.map V.str)):=by
 obtain ⟨M,w,S,P,tl,x,r,ks,g,lo,I,sp,sn,m,v⟩:=L
 exact I.at (m.pl _ zh).1
theorem pool_i (L:Lx A n T σ) (hne:A.xs≠[]) {a:E}{z:Int}{p:Nat} (ha:Ev ns C ρ a σ (.int z) σ) (hp:ρ[p]?=some (some (.ref A.pl))):∃ x∈A.xs,Ev ns C ρ (.idx (.var p) (.bin .mod a (.bi .len (.var p)))) σ (.str x) σ:=by
 have h:=L.pool
 have h0:(0:Int) < (A.xs.length:Int):=uv.mpr (ul.mpr hne)
 obtain ⟨z1,z2⟩:=fmod_lt z h0
 have z3:=(ud z1).mpr z2
 exact ⟨A.xs[(z.fmod A.xs.length).toNat],ye _,e_idx (var_ok hp) (e_bin ha (e_bi (var_ok hp) ((lenL h).trans (by exact gw (zb ..) rfl))) (modV (u5 h0))) (idxL h z1 (by refine gw (zv ..) (gw (zf z3 ..) ?_);rfl))⟩
theorem short_c (hm:C.mlook=mlookOf T0) (h37:BeginF (C.call 44)) (h22:TriedF (C.call 30)):ShortF (evF ns C f31_short):=fun {A n T j σ} L hT hxs hne hN hn=>by
 obtain ⟨ρ',σ',h,_,_,rfl,L'⟩:=for_all (tgt:=tgtN 5) (body:=fun ρ σ=>evSs ns C ρ σ [.expr (.me (.var 1) .append [(.list [])]),
   .assign 6 (.bin .sub (.bi .len (.var 1)) (.lit (V.int 1))),
   .ite (.cmp .eq (.mcall (.var 0) [98,101,103,105,110] []) (.var 6)) [.expr (.call 30 [(.var 0),(.var 1),(.var 2),(.var 6),(.idx (.var 3) (.bin .mod (.var 5) (.bi .len (.var 3)))),(.lit (V.int 7)),(.var 5)]),
    .expr (.call 30 [(.var 0),(.var 1),(.var 2),(.var 6),(.lit (V.str [])),(.lit (V.int 13)),(.lit (V.int 0))])] []]) (it:=fun i=>.range i j)
  (fun i ρ σ'=>∃ o o':Option V,ρ=[some A.s,some (.ref A.tn),some (.ref A.kp),some (.ref A.pl),some (.int j),o,o']/\Lx A (n + i) (T + 2 * i) σ') j (fun _ _ _=>stop_range)
  (fun i ρ σ' hi p=>by
   refine ex2 (p) fun o o' q_h=>?_;obtain ⟨q_2,L1⟩:=q_h;obtain rfl:=q_2
   have hn1:n + i + 1<=1000:=zq (za (yl (z9 hi) n) hn)
   have t1:T + 2 * i + 1 + 1<=800:=za (yl (um 2 (show i + 1<=j from hi)) T) hT
   refine ex3 (beg_l (ns:=ns) hm h37 L1 (vm hn1)) fun σ1 σ2 xs q_h=>?_;refine an6 q_h fun e1 a1 len e2 _ L2=>?_
   obtain ⟨x,hx,e3⟩:=pool_i (ns:=ns) (C:=C) (ρ:=[some A.s,some (.ref A.tn),some (.ref A.kp),some (.ref A.pl),some (.int j),some (.int i),some (.int ((n + i:Nat):Int))]) (a:=.var 5) (p:=3) L2 hne rfl rfl
   refine ex2 (h22 L2 (za (yh _) (vm t1)) hxs hn1 (yo _) (m:=7) (c:=i) (.inl ⟨hN x hx,hx⟩)) fun b σ3 q_h=>?_;obtain ⟨e4,L3⟩:=q_h
   refine ex2 (h22 (x:=[]) L3 (vm t1) hxs hn1 (yo (n + i)) (m:=13) (c:=0) (.inr (by decide))) fun b' σ4 q_h=>?_;obtain ⟨e5,L4⟩:=q_h
   refine ⟨_,_,_,σ4,next_range hi,rfl,s_expr (e1 _ 1 rfl) (s_assign (v:=.int ((n + i:Nat):Int)) (e_bin (e_bi rfl (lenL a1)) rfl ?_) rfl (s_ifT (e_cmp (e2 _ 0 rfl) rfl ((eqI _ _).trans (by exact gw (decide_eq_true rfl ..) rfl))) (after_next (s_expr (e_call (es_cons rfl (es_cons rfl (es_cons rfl (es_cons rfl (es_three e3 rfl rfl))))) e4) (s_expr (e_call rfl e5) ss_nil)) ss_nil))),_,_,rfl,L4⟩
   show R.ok (V.int ((xs.length:Int) - 1)) σ1=_
   refine gw len ?_
   congr 2
   exact v1 ((n + i:Nat):Int) 1)
  j 0 [some A.s,some (.ref A.tn),some (.ref A.kp),some (.ref A.pl),some (.int j),.none,.none] σ (zo _) ⟨_,_,rfl,L⟩
 have hs:=src_range (ns:=ns) (C:=C) (ρ:=[some A.s,some (.ref A.tn),some (.ref A.kp),some (.ref A.pl),some (.int j),.none,.none]) (σ:=σ) (e:=.var 4) (k:=j) rfl (nz _) (ns_ (za (vc j n) (za hn (by decide))))
 replace hs:=(xb ..)▸hs
 exact ⟨σ',f_next (fn:=f31_short) rfl (s_forN hs (after_next h ss_nil)),L'⟩
end
end Mine.L13
namespace Mine.L13
open PySem Mine Mine.P
noncomputable abbrev ev (A:Ad) (o5 o6 o7 o8 o9 o10:Option V):Env:=[some A.s,some (.ref A.sc),some (.ref A.pl),some (.ref A.tn),some (.ref A.kp),o5,o6,o7,o8,o9,o10]
noncomputable def act:S:=.ite (.cmp .eq (.bin .mod (.var 9) (.lit (V.int 5))) (.lit (V.int 0))) [.expr (.me (.var 3) .append [(.list [])]),
   .ite (.cmp .ne (.mcall (.var 0) [98,101,103,105,110] []) (.bin .sub (.bi .len (.var 3)) (.lit (V.int 1)))) [.dead] []] [.ite (.and [(.cmp .eq (.bin .mod (.bin .fdiv (.var 9) (.lit (V.int 5))) (.lit (V.int 80))) (.lit (V.int 7))),(.cmp .lt (.bi .len (.var 3)) (.lit (V.int 60)))]) [.expr (.call 31 [(.var 0),(.var 3),(.var 4),(.var 2),(.bin .mod (.bin .fdiv (.var 9) (.lit (V.int 800))) (.lit (V.int 40)))])] [.expr (.call 30 [(.var 0),(.var 3),(.var 4),(.var 10),(.idx (.var 2) (.bin .mod (.bin .fdiv (.var 9) (.lit (V.int 9600))) (.bi .len (.var 2)))),(.bin .fdiv (.var 9) (.lit (V.int 1315200))),(.var 8)])]]
noncomputable def lp:List S:=[.assign 9 (.call 20 [(.bin .add (.var 8) (.bin .mul (.lit (V.int 131)) (.var 7)))]),
  .assign 10 (.bin .sub (.bin .sub (.bi .len (.var 3)) (.lit (V.int 1))) (.bin .mod (.bin .fdiv (.var 9) (.lit (V.int 800))) (.mm false (.bi .len (.var 3)) (.lit (V.int 4))))),
  .ite (.cmp .eq (.bin .mod (.var 7) (.lit (V.int 6))) (.lit (V.int 2))) [.assign 10 (.bin .mod (.bin .fdiv (.var 9) (.lit (V.int 800))) (.mm false (.bi .len (.var 3)) (.lit (V.int 4))))] [],
  .ite (.cmp .eq (.bin .mod (.var 7) (.lit (V.int 6))) (.lit (V.int 5))) [.assign 10 (.bin .mod (.bin .fdiv (.var 9) (.lit (V.int 800))) (.bi .len (.var 3)))] [],
  act,
  .ite (.cmp .eq (.bin .mod (.bin .fdiv (.var 9) (.lit (V.int 400))) (.lit (V.int 4))) (.lit (V.int 0))) [.expr (.mcall (.var 0) [115,119,101,101,112] [])] []]
section
variable {ns:List Int}{C:Calls}{ρ:Env}{σ σ':H}{A:Ad}{n T k i:Nat}{c mo:Int}{o5 o6 o9 o10:Option V}{r:List S}{Res:RS}
theorem Lx.told (L:Lx A n T σ):∃ xs,σ[A.tn]?=some (.list xs)/\xs.length=n:=by
 obtain ⟨M,w,S,P,tl,x,r,ks,g,lo,I,sp,sn,m,v⟩:=L
 exact ⟨_,I.at m.tn.1,by exact gw (zb ..) (gw (vj ..) rfl)⟩
theorem mulL (x y:Int) (hx:small x=true):binV .mul (.int x) (.int y) σ=.ok (.int (x * y)) σ:=by
 show (if (small x || small y)=true then M.ret (V.int (x * y)) else stuck) σ=_
 refine gw hx ?_;rfl
theorem nat_of {z:Int}{n:Nat} (h0:0<=z) (h:z < n):∃ k:Nat,z=k/\k < n:=by
 obtain ⟨k,rfl⟩:=uu h0
 exact ⟨k,rfl,vw.mp h⟩
theorem who_ok (L:Lx A n T σ) (h0:0 < n):∃ k,k < n/\∀ {r:List S}{Res:RS},evSs ns C (ev A o5 o6 (some (.int i)) (some (.int c)) (some (.int mo)) (some (.int k))) σ r=Res->evSs ns C (ev A o5 o6 (some (.int i)) (some (.int c)) (some (.int mo)) o10) σ (.assign 10 (.bin .sub (.bin .sub (.bi .len (.var 3)) (.lit (V.int 1))) (.bin .mod (.bin .fdiv (.var 9) (.lit (V.int 800))) (.mm false (.bi .len (.var 3)) (.lit (V.int 4))))) ::
  .ite (.cmp .eq (.bin .mod (.var 7) (.lit (V.int 6))) (.lit (V.int 2))) [.assign 10 (.bin .mod (.bin .fdiv (.var 9) (.lit (V.int 800))) (.mm false (.bi .len (.var 3)) (.lit (V.int 4))))] [] ::
  .ite (.cmp .eq (.bin .mod (.var 7) (.lit (V.int 6))) (.lit (V.int 5))) [.assign 10 (.bin .mod (.bin .fdiv (.var 9) (.lit (V.int 800))) (.bi .len (.var 3)))] []::r)=Res:=by
 obtain ⟨xs,hx,hl⟩:=L.told
 have le:∀ {o:Option V},Ev ns C (ev A o5 o6 (some (.int i)) (some (.int c)) (some (.int mo)) o) (.bi .len (.var 3)) σ (.int n) σ:=e_bi rfl ((lenL hx).trans (by exact gw hl rfl))
 have hn:(0:Int) < n:=uv.mpr h0
 have hy:0 < min (n:Int) 4:=Int.lt_min.mpr ⟨hn,by decide⟩
 have md:∀ {o:Option V},Ev ns C (ev A o5 o6 (some (.int i)) (some (.int c)) (some (.int mo)) o) (.bin .mod (.bin .fdiv (.var 9) (.lit (V.int 800))) (.mm false (.bi .len (.var 3)) (.lit (V.int 4)))) σ (.int ((mo.fdiv 800).fmod (min (n:Int) 4))) σ:=e_bin rfl (e_mm le rfl) (modV (u5 hy))
 obtain ⟨z1,z2⟩:=fmod_lt (mo.fdiv 800) hy
 have z3:(mo.fdiv 800).fmod (min (n:Int) 4) < n:=vu z2 (Int.min_le_left _ _)
 obtain ⟨k2,e2,h2⟩:=nat_of z1 z3
 obtain ⟨k1,e1,h1⟩:=nat_of (z:=(n:Int) - 1 - (mo.fdiv 800).fmod (min (n:Int) 4)) (n:=n) (Int.sub_nonneg.mpr (Int.le_sub_one_of_lt z3)) (wv (Int.sub_le_self _ z1) (Int.sub_lt_self _ (by decide)))
 obtain ⟨k3,e3,h3⟩:=nat_of (fmod_lt (mo.fdiv 800) hn).1 (fmod_lt (mo.fdiv 800) hn).2
 have cq:∀ {o:Option V} (j:Int),Ev ns C (ev A o5 o6 (some (.int i)) (some (.int c)) (some (.int mo)) o) (.cmp .eq (.bin .mod (.var 7) (.lit (V.int 6))) (.lit (V.int j))) σ (.bool (decide ((i:Int).fmod 6=j))) σ:=fun j=>e_cmp rfl rfl (eqI _ _)
 obtain ⟨ka,ha,ea⟩:∃ k,k < n/\∀ {r:List S}{Res:RS},evSs ns C (ev A o5 o6 (some (.int i)) (some (.int c)) (some (.int mo)) (some (.int k))) σ r=Res->evSs ns C (ev A o5 o6 (some (.int i)) (some (.int c)) (some (.int mo)) (some (.int k1))) σ (.ite (.cmp .eq (.bin .mod (.var 7) (.lit (V.int 6))) (.lit (V.int 2))) [.assign 10 (.bin .mod (.bin .fdiv (.var 9) (.lit (V.int 800))) (.mm false (.bi .len (.var 3)) (.lit (V.int 4))))] []::r)=Res:=by
  by_cases q:(i:Int).fmod 6=2
  ·exact ⟨k2,h2,fun h=>s_ifT ((cq 2).trans (by exact gw (decide_eq_true q ..) rfl)) (after_next (s_assign (md.trans (by exact gw e2 rfl)) rfl ss_nil) h)⟩
  ·exact ⟨k1,h1,fun h=>s_ifF ((cq 2).trans (by exact gw (decide_eq_false q ..) rfl)) h⟩
 by_cases q:(i:Int).fmod 6=5
 ·exact ⟨k3,h3,fun h=>s_assign (v:=.int k1) (e_bin (e_bin le rfl rfl) md (congrArg (fun z=>R.ok (V.int z) σ) e1)) rfl (ea (s_ifT ((cq 5).trans (by exact gw (decide_eq_true q ..) rfl)) (after_next (s_assign (v:=.int k3) (e_bin rfl le ((modV (u5 hn)).trans (by exact gw e3 rfl))) rfl ss_nil) h)))⟩
 ·exact ⟨ka,ha,fun h=>s_assign (v:=.int k1) (e_bin (e_bin le rfl rfl) md (congrArg (fun z=>R.ok (V.int z) σ) e1)) rfl (ea (s_ifF ((cq 5).trans (by rw [decide_eq_false q])) h))⟩
theorem n16 {n i b:Nat} (h1:n<=100 + i) (h:i<=b):n<=100 + b:=za h1 (yl h 100)
theorem t16 {n T i b c:Nat} (h2:T<=138 + 3 * i + 2 * n) (h:i<=b) (hn:n<=c):T<=138 + 3 * b + 2 * c:=za h2 (xc (yl (um 3 h) 138) (um 2 hn))
theorem n800 {n T i:Nat} (h1:n<=100 + i) (h2:T<=138 + 3 * i + 2 * n) (h3:i < 63):T + 3<=700/\n + 1<=999:=let hn:=n16 h1 (z4 h3);⟨za (yz (t16 h2 (z4 h3) hn) 3) (by decide),za (zq hn) (by decide)⟩
theorem n801 {n T i j:Nat} (hn:n < 60) (hj:j < 40) (h2:T<=138 + 3 * i + 2 * n) (h3:i < 63):T + 2 * j<=700/\n + j<=999/\n + j<=100 + (i + 1)/\T + 2 * j<=138 + 3 * i + 2 * (n + j) + 1 :=
 have hj:=z4 hj
 have nj:n + j<=59 + 39:=xc (z4 hn) hj
 ⟨za (xc (t16 h2 (z4 h3) (z4 hn)) (um 2 hj)) (by decide),za nj (by decide),za nj (f9 (by decide)),zr (za (yz h2 _) (ya ((xo ..).trans (congrArg (138 + 3 * i + ·) (Nat.mul_add 2 n j).symm))))⟩
theorem act_ok (hm:C.mlook=mlookOf T0) (h22:TriedF (C.call 30)) (h23:ShortF (C.call 31)) (h37:BeginF (C.call 44)) (L:Lx A n T σ) (hk:k < n) (h1:n<=100 + i) (h2:T<=138 + 3 * i + 2 * n) (h3:i < 63) (hxs:A.xs.length<=137) (hne:A.xs≠[]) (hN:∀ x∈A.xs,Nm x) :
  ∃ n' T' σ',(∀ {r:List S}{Res:RS},evSs ns C (ev A o5 o6 (some (.int i)) (some (.int c)) (some (.int mo)) (some (.int k))) σ' r=Res->evSs ns C (ev A o5 o6 (some (.int i)) (some (.int c)) (some (.int mo)) (some (.int k))) σ (act::r)=Res)/\Lx A n' T' σ'/\n<=n'/\n'<=100 + (i + 1)/\T'<=138 + 3 * i + 2 * n' + 1:=by
 refine cps fun G' K=>?_
 have b:=n800 h1 h2 h3
 have hT:T<=800:=za (zp _ 3) (za b.1 (by decide))
 have hn:n<=1000:=za (yh _) (za b.2 (by decide))
 have cq:Ev ns C (ev A o5 o6 (some (.int i)) (some (.int c)) (some (.int mo)) (some (.int k))) (.cmp .eq (.bin .mod (.var 9) (.lit (V.int 5))) (.lit (V.int 0))) σ (.bool (decide (mo.fmod 5=0))) σ:=e_cmp rfl rfl (eqI _ _)
 by_cases q:mo.fmod 5=0
 ·refine ex3 (beg_l (ns:=ns) hm h37 L hn) fun σ1 σ2 xs q_h=>?_;refine an6 q_h fun e1 a1 len e2 a2 L2=>?_
  refine K ⟨n + 1,T,σ2,fun h=>s_ifT (cq.trans (by rw [decide_eq_true q])) (after_next (s_expr (e1 _ 3 rfl) (s_ifF (e_cmp (e2 _ 0 rfl) (e_bin (e_bi rfl (lenL a2)) rfl rfl) ((neI _ _).trans ?_)) ss_nil)) h),L2,yh _,zq h1,za h2 (zr (yl (um 2 (yh n)) _))⟩
  rw [decide_eq_true (show (n:Int)=(xs.length:Int) - 1 by refine gw len ?_;exact (v1 (n:Int) 1).symm)];rfl
 ·have cF:=cq.trans (show _=R.ok (V.bool false) σ by exact gw (decide_eq_false q ..) rfl)
  obtain ⟨xs,hx,hl⟩:=L.told
  have c2:Ev ns C (ev A o5 o6 (some (.int i)) (some (.int c)) (some (.int mo)) (some (.int k))) (.and [(.cmp .eq (.bin .mod (.bin .fdiv (.var 9) (.lit (V.int 5))) (.lit (V.int 80))) (.lit (V.int 7))),(.cmp .lt (.bi .len (.var 3)) (.lit (V.int 60)))]) σ (.bool (decide ((mo.fdiv 5).fmod 80=7) && decide ((xs.length:Int) < 60))) σ:=and2 (e_cmp rfl rfl (eqI _ _)) (e_cmp (e_bi rfl (lenL hx)) rfl (lt_ok _ _))
  by_cases q2:(decide ((mo.fdiv 5).fmod 80=7) && decide ((xs.length:Int) < 60))=true
  ·have hs:n < 60:=by
    have:=of_decide_eq_true (yt.mp q2).2
    replace this:=hl▸this;exact vw.mp this
   replace c2:=q2▸c2
   obtain ⟨j,ej,hj⟩:=nat_of (n:=40) (fmod_lt (mo.fdiv 800) (by decide)).1 (fmod_lt (mo.fdiv 800) (by decide)).2
   have b2:=n801 hs hj h2 h3
   obtain ⟨σ',e,L'⟩:=h23 (j:=j) L (za b2.1 (by decide)) hxs hne hN b2.2.1
   exact K ⟨n + j,T + 2 * j,σ',fun h=>s_if cF (after_next (s_ifT c2 (after_next (s_expr (e_call (es_cons rfl (es_cons rfl (es_three rfl rfl (show Ev ns C _ _ σ (.int j) σ from congrArg (fun z=>R.ok (V.int z) σ) ej)))) e) ss_nil) ss_nil)) h),L',zp _ _,b2.2.2.1,b2.2.2.2⟩
  ·replace q2:=(Bool.not_eq_true ..)▸q2
   replace c2:=q2▸c2
   obtain ⟨x,hx,e3⟩:=pool_i (ns:=ns) (C:=C) (ρ:=ev A o5 o6 (some (.int i)) (some (.int c)) (some (.int mo)) (some (.int k))) (a:=.bin .fdiv (.var 9) (.lit (V.int 9600))) (p:=2) L hne rfl rfl
   refine ex2 (h22 L hT hxs hn hk (m:=mo.fdiv 1315200) (c:=c) (.inl ⟨hN x hx,hx⟩)) fun b' σ' q_h=>?_;obtain ⟨e4,L'⟩:=q_h
   exact K ⟨n,T + 1,σ',fun h=>s_if cF (after_next (s_if c2 (after_next (s_expr (e_call (es_cons rfl (es_cons rfl (es_cons rfl (es_cons rfl (es_three e3 rfl rfl))))) e4) ss_nil) ss_nil)) h),L',ze _,zr h1,zq h2⟩
theorem n802 {n T i:Nat} (h:T<=138 + 3 * i + 2 * n + 1):T<=138 + 3 * (i + 1) + 2 * n:=by (first | lia | omega)
noncomputable abbrev SweepF (f:Fu):Prop:=∀ {G:Fz}{S:St}{P:Pl}{σ:H},Inv G S P σ->S.names.Nodup->(∀ x,(S.hist x).length<=1000)->S.names.length<=1000->S.n<=1000->∃ P' σ' v,f [sh P] σ=.ok v σ'/\P.Eqd P'/\Inv G S.swp P' σ'
theorem sweep_c:SweepF (evF ns C f60_Shelf_sweep):=fun {_ _ _ _} I a b c d=>sweep_ok I a b c d
theorem swp_l (hm:C.mlook=mlookOf T0) (h60:SweepF (C.call 60)) (L:Lx A n T σ) (hT:T<=800) (hn:n<=1000) (hxs:A.xs.length<=137) {ρ:Env} (h0:ρ[0]?=some (some A.s)):∃ σ' v,Ev ns C ρ (.mcall (.var 0) [115,119,101,101,112] []) σ v σ'/\Lx A n T σ':=by
 obtain ⟨M,w,S,P,tl,x,r,ks,g,lo,I,sp,sn,m,v⟩:=L
 refine ex3 (h60 I v.F.nn (fun x=>b8 (v.F.hl x) hT) (za (pigeon v.F.nn v.F.nx) (za hxs (by decide))) (sn▸hn)) fun P' σ' u q_h=>?_;refine an3 q_h fun e eq I'=>?_
 exact ⟨σ',u,e_mcall (x:=sh P) (var_ok (h0.trans (congrArg (fun z=>some (some z)) sp.symm))) (look_ok hm (I.b 0 (by decide)) rfl rfl) rfl e,M,w,S.swp,P',tl,x,r,ks,g,lst S,I',(congrArg (V.inst 1) (eq.1 0)).trans sp,sn,m,v.swp⟩
theorem n804 {n T i:Nat} (h1:n<=100 + (i + 1)) (h2:T<=138 + 3 * i + 2 * n + 1) (h3:i < 63):T<=800/\n<=1000:=have hn:=n16 h1 (zq (z4 h3));⟨za h2 (za (zq (t16 (ze _) (z4 h3) hn)) (by decide)),za hn (by decide)⟩
theorem turn_ok (hm:C.mlook=mlookOf T0) (h13:∀ x σ,∃ y:Int,C.call 20 [.int x] σ=.ok (.int y) σ) (h22:TriedF (C.call 30)) (h23:ShortF (C.call 31)) (h37:BeginF (C.call 44)) (h60:SweepF (C.call 60))
  (L:Lx A n T σ) (h0:0 < n) (h1:n<=100 + i) (h2:T<=138 + 3 * i + 2 * n) (h3:i < 63) (hxs:A.xs.length<=137) (hne:A.xs≠[]) (hN:∀ x∈A.xs,Nm x) :
  ∃ n' T' σ' p9 p10,evSs ns C (ev A o5 o6 (some (.int i)) (some (.int c)) o9 o10) σ lp=.ok .next (ev A o5 o6 (some (.int i)) (some (.int c)) p9 p10) σ'/\Lx A n' T' σ'/\0 < n'/\n'<=100 + (i + 1)/\T'<=138 + 3 * (i + 1) + 2 * n':=by
 obtain ⟨mo,em⟩:=h13 (c + 131 * i) σ
 have e10:Ev ns C (ev A o5 o6 (some (.int i)) (some (.int c)) o9 o10) (.call 20 [(.bin .add (.var 8) (.bin .mul (.lit (V.int 131)) (.var 7)))]) σ (.int mo) σ:=e_call (es_one (e_bin rfl (e_bin rfl rfl (mulL 131 i rfl)) rfl)) em
 obtain ⟨k,hk,ek⟩:=who_ok (ns:=ns) (C:=C) (o5:=o5) (o6:=o6) (o10:=o10) (i:=i) (c:=c) (mo:=mo) L h0
 refine ex3 (act_ok (ns:=ns) (o5:=o5) (o6:=o6) (c:=c) (mo:=mo) hm h22 h23 h37 L hk h1 h2 h3 hxs hne hN) fun n' T' σ1 q_h=>?_;refine an5 q_h fun ea L1 hn1 b1 b2=>?_
 have cq:Ev ns C (ev A o5 o6 (some (.int i)) (some (.int c)) (some (.int mo)) (some (.int k))) (.cmp .eq (.bin .mod (.bin .fdiv (.var 9) (.lit (V.int 400))) (.lit (V.int 4))) (.lit (V.int 0))) σ1 (.bool (decide ((mo.fdiv 400).fmod 4=0))) σ1:=e_cmp rfl rfl (eqI _ _)
 by_cases q:(mo.fdiv 400).fmod 4=0
 ·have b:=n804 b1 b2 h3
  refine ex2 (swp_l (ns:=ns) (ρ:=ev A o5 o6 (some (.int i)) (some (.int c)) (some (.int mo)) (some (.int k))) hm h60 L1 b.1 b.2 hxs rfl) fun σ2 v q_h=>?_;obtain ⟨e2,L2⟩:=q_h
  exact ⟨n',T',σ2,_,_,s_assign e10 rfl (ek (ea (s_ifT (cq.trans (by exact gw (decide_eq_true q ..) rfl)) (after_next (s_expr e2 ss_nil) ss_nil)))),L2,zm h0 hn1,b1,n802 b2⟩
 ·exact ⟨n',T',σ1,_,_,s_assign e10 rfl (ek (ea (s_ifF (cq.trans (by exact gw (decide_eq_false q ..) rfl)) ss_nil))),L1,zm h0 hn1,b1,n802 b2⟩
end
end Mine.L13
namespace Mine.L13
open PySem Mine Mine.P
noncomputable def s0:St:=⟨0,fun _=>dl0 0,[],[],fun _=>[]⟩
noncomputable abbrev PlayedF (f:Fu):Prop:=∀ {M:Fz}{P:Pl}{σ:H}{pl sc:Nat}{xs:List (List Nat)}{zs:List Int},Inv M s0 P σ->M pl=some (.list (xs.map V.str))->M sc=some (.list (zs.map V.int))->xs.length<=137->xs≠[]->(∀ x∈xs,Nm x)->zs.length<=63 ->
 ∃ tn kp n T σ',f [sh P,.ref sc,.ref pl] σ=.ok (.tup [.ref tn,.ref kp]) σ'/\Lx ⟨pl,tn,kp,sh P,xs,sc,zs⟩ n T σ'/\T<=700/\n<=999
section
variable {ns:List Int}{C:Calls}{ρ:Env}{σ σ':H}{A:Ad}{n T k i:Nat}{M:Fz}{P:Pl}
theorem start_l (hm:C.mlook=mlookOf T0) (h37:BeginF (C.call 44)) {pl sc:Nat}{xs:List (List Nat)}{zs:List Int} (I:Inv M s0 P σ) (hp:M pl=some (.list (xs.map V.str))) (hs:M sc=some (.list (zs.map V.int))) :
  ∃ tn kp σ',(∀ {r:List S}{Res:RS},evSs ns C (ev ⟨pl,tn,kp,sh P,xs,sc,zs⟩ .none .none .none .none .none .none) σ' r=Res->evSs ns C [some (sh P),some (.ref sc),some (.ref pl),.none,.none,.none,.none,.none,.none,.none,.none] σ (.assign 3 (.list [(.list [])])::.assign 4 (.list [])::.ite (.cmp .ne (.mcall (.var 0) [98,101,103,105,110] []) (.lit (V.int 0))) [.dead] []::r)=Res)/\Lx ⟨pl,tn,kp,sh P,xs,sc,zs⟩ 1 0 σ':=by
 refine cps fun G' K=>?_
 let σ1:=σ++[O.list []]
 let σ2:=σ1++[O.list [.ref σ.length]]
 have I1:Inv _ s0 P σ1:=I.new (.list [])
 have I2:Inv _ s0 P σ2:=I1.new (.list [.ref σ.length])
 have I3:=I2.new (.list [])
 have x1:Ex M _ (fun _=>1) (wN (fun _=>1) σ.length 3):=ex_new (I.fr (ze _)).no (.list []) 3
 have x2:=ex_new (w:=wN (fun _=>1) σ.length 3) (I1.fr (ze _)).no (.list [.ref σ.length]) 2
 have x3:=ex_new (w:=wN (wN (fun _=>1) σ.length 3) σ1.length 2) (I2.fr (ze _)).no (.list []) 5
 refine ex2 (h37 I3 (z7 _)) fun P' σ5 q_h=>?_;refine an3 q_h fun e5 s5 I5=>?_
 have v0:Sv xs s0 (fun _=>[]) 0 0 (fun _=>[]) (fun _=>[]) []:=⟨⟨fun _ _=>rfl,fun _ h=>absurd h z0,vp,ze _,fun _=>ze _,vp,fun _ h=>absurd h z0,fun _ h=>absurd h (y5 _)⟩,⟨fun _ h=>absurd h (y5 _),fun _ h=>absurd h z0,fun _ _=>rfl,fun a k b h=>by cases a <;> cases h⟩,⟨fun _ _ _=>rfl,fun _ h=>absurd h (y5 _),ze _,fun _=>⟨.nil,fun _ h=>absurd h z0⟩⟩,fun _ h=>absurd h (y5 _),fun _ h=>absurd h (y5 _),ze _⟩
 refine K ⟨σ1.length,σ2.length,σ5,fun h=>s_assign (e_list (es_one (e_list rfl (z7 _))) (by show 1<=lim;decide)) rfl (s_assign (e_list rfl (z7 _)) rfl (s_ifF (e_cmp (e_mcall rfl (look_ok hm (I3.b 0 (by decide)) rfl rfl) rfl e5) rfl rfl) h)),_,wN (wN (wN (fun _=>1) σ.length 3) σ1.length 2) σ2.length 5,s0.beg,P',fun _=>σ.length,_,_,[],_,_,I5,congrArg (V.inst 1) s5,rfl,⟨fun p hp'=>?_,?_,fun k hk=>?_,fun j k hj hk _=>(uc.mp hj).trans (uc.mp hk).symm,fun k hk=>?_,⟨upd_at ..,if_pos rfl⟩⟩,v0.beg⟩
 ·have a:Ag 9 _ _ _ _:=(x1.tr (x2.tr x3)).ag
  refine a.at ⟨?_,rfl⟩ (by decide)
  rcases zy.mp hp' with rfl | h
  ·exact hp
  ·refine gw (zg.mp h ..) ?_;exact hs
 ·have a:Ag 9 _ _ _ _:=x3.ag
  exact a.at ⟨upd_at ..,if_pos rfl⟩ (by decide)
 ·have a:Ag 9 _ _ _ _:=(x2.tr x3).ag
  refine gw (uc.mp hk ..) ?_
  exact a.at ⟨upd_at ..,if_pos rfl⟩ (by decide)
 ·refine gw (uc.mp hk ..) ?_
  exact ⟨rfl,fun _ h=>absurd h z0⟩
theorem Lx.scr (L:Lx A n T σ):σ[A.sc]?=some (.list (A.zs.map V.int)):=by
 obtain ⟨M,w,S,P,tl,x,r,ks,g,lo,I,sp,sn,m,v⟩:=L
 exact I.at (m.pl _ (zj _ zh)).1
theorem n803 {n T i:Nat} (h1:n<=100 + i) (h2:T<=138 + 3 * i + 2 * n) (h3:i<=63):T<=700/\n<=999:=have hn:=n16 h1 h3;⟨za (t16 h2 h3 hn) (by decide),za hn (by decide)⟩
theorem played_c (hm:C.mlook=mlookOf T0) (h13:∀ x σ,∃ y:Int,C.call 20 [.int x] σ=.ok (.int y) σ) (h22:TriedF (C.call 30)) (h23:ShortF (C.call 31)) (h37:BeginF (C.call 44)) (h60:SweepF (C.call 60)):PlayedF (evF ns C f32_played):=fun {M P σ pl sc xs zs} I hp hs hxs hne hN hz=>by
 refine cps fun G' K=>?_
 refine ex3 (start_l (ns:=ns) hm h37 I hp hs) fun tn kp σ1 q_h=>?_;obtain ⟨e1,L1⟩:=q_h
 let A:Ad:=⟨pl,tn,kp,sh P,xs,sc,zs⟩
 have h7:∀ {T},T<=137->T<=800:=fun h=>za h (by decide)
 obtain ⟨ρ2,σ2,hF,o5,o6,rfl,L2⟩:=for_all (tgt:=tgtP 5 6) (body:=fun ρ σ=>evSs ns C ρ σ [.expr (.call 30 [(.var 0),(.var 3),(.var 4),(.lit (V.int 0)),(.var 6),(.lit (V.int 7)),(.var 5)])]) (it:=fun i=>.enum pl i)
  (fun i ρ σ'=>∃ o5 o6,ρ=ev A o5 o6 .none .none .none .none/\Lx A 1 i σ') (xs.map V.str).length
  (fun ρ σ' p=>by obtain ⟨_,_,_,L⟩:=p;exact stop_enum L.pool)
  (fun i ρ σ' hi p=>by
   refine ex2 (p) fun o5 o6 q_h=>?_;obtain ⟨q_2,L⟩:=q_h;obtain rfl:=q_2
   replace hi:=(zb ..)▸hi
   refine ex2 (h22 (x:=xs[i]) L (h7 (za (z9 hi) hxs)) hxs (by decide) (yo 0) (m:=7) (c:=i) (.inl ⟨hN _ (ye hi),ye hi⟩)) fun b σ'' q_h=>?_;obtain ⟨e,L'⟩:=q_h
   exact ⟨_,_,_,σ'',next_enum L.pool (show (xs.map V.str)[i]?=some (.str xs[i]) by refine gw (zv ..) (gw (zf hi ..) ?_);rfl),rfl,s_expr (e_call rfl e) ss_nil,_,_,rfl,L'⟩)
  (xs.map V.str).length 0 (ev A .none .none .none .none .none .none) σ1 (zo _) ⟨_,_,rfl,L1⟩
 replace L2:=(zb ..)▸L2
 refine ex2 (h22 (x:=[]) L2 (h7 hxs) hxs (by decide) (yo 0) (m:=13) (c:=0) (.inr (by decide))) fun b σ3 q_h=>?_;obtain ⟨e3,L3⟩:=q_h
 obtain ⟨ρ4,σ4,hG,n,T,p5,p6,p7,p8,p9,p10,rfl,L4,-,n4,t4⟩:=for_all (tgt:=tgtP 7 8) (body:=fun ρ σ=>evSs ns C ρ σ lp) (it:=fun i=>.enum sc i)
  (fun i ρ σ'=>∃ n T p5 p6 p7 p8 p9 p10,ρ=ev A p5 p6 p7 p8 p9 p10/\Lx A n T σ'/\0 < n/\n<=100 + i/\T<=138 + 3 * i + 2 * n) (zs.map V.int).length
  (fun ρ σ' p=>by obtain ⟨_,_,_,_,_,_,_,_,_,L,_⟩:=p;exact stop_enum L.scr)
  (fun i ρ σ' hi p=>by
   refine ex8 (p) fun n T p5 p6 p7 p8 p9 p10 q_h=>?_;refine an5 q_h fun q_8 L h0 h1 h2=>?_;obtain rfl:=q_8
   replace hi:=(zb ..)▸hi
   refine ex5 (turn_ok (ns:=ns) (o5:=p5) (o6:=p6) (o9:=p9) (o10:=p10) (c:=zs[i]) hm h13 h22 h23 h37 h60 L h0 h1 h2 (zm hi hz) hxs hne hN) fun n' T' σ'' q9 q10 q_h=>?_;refine an5 q_h fun e L' h0' h1' h2'=>?_
   exact ⟨_,_,_,σ'',next_enum L.scr (show (zs.map V.int)[i]?=some (.int zs[i]) by refine gw (zv ..) (gw (zf hi ..) ?_);rfl),rfl,e,n',T',_,_,_,_,_,_,rfl,L',h0',h1',h2'⟩)
  (zs.map V.int).length 0 (ev A o5 o6 .none .none .none .none) σ3 (zo _) ⟨1,_,_,_,_,_,_,_,rfl,L3,by decide,by decide,za (zq hxs) (by decide)⟩
 rw [zb] at n4 t4
 have b:=n803 n4 t4 hz
 exact K ⟨tn,kp,n,T,σ4,f_ret (fn:=f32_played) rfl (e1 (s_forP (src_enum rfl L1.pool) (after_next hF (s_expr (e_call rfl e3) (s_forP (src_enum rfl L3.scr) (after_next hG (s_ret (tup_ok rfl rfl)))))))),L4,b⟩
end
end Mine.L13
namespace Mine.L13
open PySem Mine Mine.P
section
variable {ns:List Int}{C:Calls}{ρ:Env}{σ σ' σ₁:H}{M:Fz}{S:St}{P:Pl}{k:Nat}{q:Nat->List (Dd×Nat)}
theorem copy_ok {p:Dd×Nat} (h:okD (of σ) p):∃ l σ',evF ns C f10_told_deed [dV p] σ=.ok (dV (p.1,l)) σ'/\Gr σ σ'/\okD (of σ') (p.1,l):=by
 obtain ⟨d,l⟩:=p
 cases d with
 | un x ps=>exact ⟨σ.length,σ++[.list (pV ps)],f_ret (fn:=f10_told_deed) rfl (s_ifT (e_cmp (e_idx rfl rfl rfl) rfl ((eqS _ _).trans (by exact gw (decide_eq_true rfl ..) rfl))) (after_end (s_ret (tup_ok (es_three rfl (e_idx rfl rfl rfl) (e_bi (e_idx rfl rfl rfl) (listL h.1 (by refine gw (pV_len ..) ?_;exact h.2)))) rfl)))),Gr.app _ _,⟨at_new _ _,h.2⟩⟩
 | rd x t=>exact ⟨0,σ,f_ret (fn:=f10_told_deed) rfl (s_ifF (e_cmp (e_idx rfl rfl rfl) rfl ((eqS _ _).trans rfl)) (s_ret rfl)),Gr.rfl,trivial⟩
 | wr x t=>exact ⟨0,σ,f_ret (fn:=f10_told_deed) rfl (s_ifF (e_cmp (e_idx rfl rfl rfl) rfl ((eqS _ _).trans rfl)) (s_ret rfl)),Gr.rfl,trivial⟩
 | bk m=>exact ⟨0,σ,f_ret (fn:=f10_told_deed) rfl (s_ifF (e_cmp (e_idx rfl rfl rfl) rfl ((eqS _ _).trans rfl)) (s_ret rfl)),Gr.rfl,trivial⟩
noncomputable abbrev CopyC (C:Calls):Prop:=∀ {p:Dd×Nat}{σ:H},okD (of σ) p->∃ l σ',C.call 10 [dV p] σ=.ok (dV (p.1,l)) σ'/\Gr σ σ'/\okD (of σ') (p.1,l)
structure Cps (σ σ':H) (qs rs:List (Dd×Nat)):Prop where
 gr:Gr σ σ'
 eq:ds rs=ds qs
 ok:∀ p∈rs,okD (of σ') p
theorem okD.gr {p:Dd×Nat} (h:okD (of σ) p) (g:Gr σ σ'):okD (of σ') p:=h.mono fun _ e=>g.at e
theorem deeds_ok (hm:C.mlook=mlookOf T0) (h39:Need C) (h10:CopyC C) (I:Inv M S P σ) (hk:k < S.n) {qs:List (Dd×Nat)} (hs:(S.d k).said=dVs qs) (hq:∀ p∈qs,okD M p) (hz:qs.length<=1000) :
  ∃ l rs σ',evF ns C f57_Shelf_deeds [sh P,.int k] σ=.ok (.ref l) σ'/\σ'[l]?=some (.list (dVs rs))/\Cps σ σ' qs rs:=by
 have hl:σ[P.at_ (.d 2 k)]?=some (.list (dVs qs)):=by refine bw hs ?_;exact I.d 2 (by decide) hk
 obtain ⟨acc,σ',hg,rs,rfl,c1⟩:=gather_all (f:=fElt ns C [some (sh P),some (.int k)] (.call 10 [(.var 2)])) (it:=fun i=>.list (P.at_ (.d 2 k)) i)
  (fun i acc σ'=>∃ rs,acc=dVs rs/\Cps σ σ' (qs.take i) rs) (dVs qs).length (fun acc σ' p=>by obtain ⟨rs,_,c1⟩:=p;exact stop_list (c1.gr.at hl))
  (fun i acc σ' hi p=>by
   obtain ⟨rs,rfl,c1⟩:=p
   have hi':i < qs.length:=by replace hi:=(dVs_len ..)▸hi;exact hi
   refine ex2 (h10 (((hq _ (ye hi')).mono fun o e=>I.at e).gr c1.gr)) fun l σ'' q_h=>?_;refine an3 q_h fun e g ok=>?_
   have len:rs.length=i:=by
    have:=congrArg ki c1.eq
    unfold ds at this
    replace this:=(yf (z9 hi') ..)▸(yu ..)▸(zb ..)▸(zb ..)▸this
    exact this
   refine ⟨dV qs[i],next_list (c1.gr.at hl) (dVs_at hi'),.inl ⟨dV (qs[i].1,l),σ'',fElt_ok (e_call rfl e),?_,rs++[(qs[i].1,l)],?_,c1.gr.tr g,?_,fun p hp=>?_⟩⟩
   ·refine gw (dVs_len ..) (gw len ?_);exact lm1 (za (z9 hi') (za hz (by decide)))
   ·unfold dVs;refine gw (yg ..) ?_;rfl
   ·have e1:=c1.eq
    unfold ds at e1 ⊢
    refine gw (take_at qs hi' ..) (gw (yg ..) (gw (yg ..) (gw e1 ?_)));rfl
   ·exact (z5.mp hp).elim (fun q=>(c1.ok p q).gr g) fun q=>by refine gw (zg.mp q ..) ?_;exact ok)
  (dVs qs).length 0 [] σ (zo _) ⟨[],rfl,Gr.rfl,rfl,fun _ h=>absurd h z0⟩
 replace c1:=(zu ..)▸(dVs_len ..)▸c1
 exact ⟨_,rs,_,f_ret (fn:=f57_Shelf_deeds) rfl (s_ret (e_comp (src_of (e_attr (e_mcall rfl (look_ok hm (I.b 0 (by decide)) rfl rfl) rfl (h39 I hk)) (dl_said I hk)) hl) hg)),at_new _ _,c1.gr.tr (Gr.app _ _),c1.eq,fun p hp=>(c1.ok p hp).gr (Gr.app _ _)⟩
noncomputable abbrev DeedsF (f:Fu):Prop:=∀ {M:Fz}{S:St}{P:Pl}{σ:H}{k:Nat},Inv M S P σ->k < S.n->∀ {qs:List (Dd×Nat)},(S.d k).said=dVs qs->(∀ p∈qs,okD M p)->qs.length<=1000->∃ l rs σ',f [sh P,.int k] σ=.ok (.ref l) σ'/\σ'[l]?=some (.list (dVs rs))/\Cps σ σ' qs rs
theorem deeds_c (hm:C.mlook=mlookOf T0) (h39:Need C) (h10:CopyC C):DeedsF (evF ns C f57_Shelf_deeds):=fun {_ _ _ _ _} I hk {_} hs hq hz=>deeds_ok hm h39 h10 I hk hs hq hz
theorem rows_ok (hm:C.mlook=mlookOf T0) (h57:DeedsF (C.call 57)) (I:Inv M S P σ) (hq:∀ k,k < S.n->(S.d k).said=dVs (q k)/\(∀ p∈q k,okD M p)/\(q k).length<=1000) {js:List Nat} (hj:∀ j∈js,j < S.n) (hz:js.length<=1000) {src:Src}{it:Nat->It} (hsrc:evSrc ns C ρ src σ=.ok (it 0,js.length) σ)
  (hn:∀ i (h:i < js.length) σ',Gr σ σ'->nextIt (it i) σ'=some (some (.int js[i],it (i + 1)))) (hst:∀ σ',Gr σ σ'->nextIt (it js.length) σ'=some .none) (h2:ρ[2]?=some (some (sh P))) (h8:ρ.length=8) :
  ∃ l as Rs σ',Ev ns C ρ (.comp src (.mcall (.var 2) [100,101,101,100,115] [(.var 8)])) σ (.ref l) σ'/\Gr σ σ'/\Ra σ' l as Rs/\Ds Rs=js.map fun k=>ds (q k):=by
 obtain ⟨acc,σ',hg,as,Rs,rfl,g1,len,row,eq⟩:=gather_all (f:=fElt ns C ρ (.mcall (.var 2) [100,101,101,100,115] [(.var 8)])) (it:=it)
  (fun i acc σ'=>∃ (as:List Nat) (Rs:List (List (Dd×Nat))),acc=as.map V.ref/\Gr σ σ'/\as.length=Rs.length/\(∀ i (h:i < as.length) (h':i < Rs.length),σ'[as[i]]?=some (.list (dVs Rs[i]))/\∀ p∈Rs[i],okD (of σ') p)/\Ds Rs=(js.take i).map fun k=>ds (q k)) js.length (fun acc σ' p=>by obtain ⟨_,_,_,g,_⟩:=p;exact hst σ' g)
  (fun i acc σ' hi p=>by
   refine ex2 (p) fun as Rs q_h=>?_;refine an5 q_h fun q_2 g1 len row eq=>?_;obtain rfl:=q_2
   have hk:=hj _ (ye hi)
   refine an3 (hq _ hk) fun q1 q2 q3=>?_
   have I1:=I.gr g1
   refine ex3 (h57 I1 hk q1 q2 q3) fun l rs σ2 q_h=>?_;refine an3 q_h fun e a2 c=>?_
   have ln:as.length=i:=by
    have:=congrArg ki eq
    unfold Ds at this
    rw [zb,zb,yu,yf (z9 hi)] at this
    exact len.trans this
   have v2:Ev ns C (ρ++[some (.int js[i])]) (.var 2) σ' (sh P) σ':=var_ok (by rw [y7 (by rw [h8];decide)];exact h2)
   have v8:∀ {σ:H},Ev ns C (ρ++[some (.int js[i])]) (.var 8) σ (.int js[i]) σ:=var_ok (by refine bw h8 (gw (zw (ze _) ..) (gw (xv ..) ?_));rfl)
   refine ⟨_,hn i hi σ' g1,.inl ⟨.ref l,σ2,fElt_ok (e_mcall v2 (look_ok hm (I1.b 0 (by decide)) rfl rfl) (es_one v8) e),?_,as++[l],Rs++[rs],?_,g1.tr c.gr,?_,fun j h1 h2=>?_,?_⟩⟩
   ·refine gw (zb ..) (gw ln ?_);exact lm1 (za (z9 hi) (za hz (by decide)))
   ·refine gw (yg ..) ?_;rfl
   ·exact gw (len_one ..) (gw (len_one ..) (gw len rfl))
   ·by_cases w:j < as.length
    ·refine gw (fk w ..) (gw (fk (len▸w) ..) ?_)
     obtain ⟨r1,r2⟩:=row j w (len▸w)
     exact ⟨c.gr.at r1,fun p hp=>(r2 p hp).gr c.gr⟩
    ·replace h1:=(len_one ..)▸h1
     obtain rfl:j=as.length:=vd (z4 h1) (yc.mp w)
     refine gw (gy (ze _) ..) (gw (gy (ya len.symm) ..) ?_)
     have e0:as.length - as.length=0:=xv _
     have e1:as.length - Rs.length=0:=by refine gw len ?_;exact xv _
     simp only [e0,e1,List.getElem_singleton]
     exact ⟨a2,c.ok⟩
   ·unfold Ds at eq ⊢
    exact gw (take_at js hi ..) (gw (yg ..) (gw (yg ..) (gw eq (gw (List.map_singleton ..) (gw (List.map_singleton ..) (gw (c.eq ..) rfl)))))))
  js.length 0 [] σ (zo _) ⟨[],[],rfl,Gr.rfl,rfl,fun i h=>absurd h (y5 _),rfl⟩
 replace eq:=(zu ..)▸eq
 exact ⟨_,as,Rs,_,e_comp hsrc hg,g1.tr (Gr.app _ _),⟨at_new _ _,len,fun i h h'=>⟨(Gr.app _ _).at (row i h h').1,fun p hp=>((row i h h').2 p hp).gr (Gr.app _ _)⟩⟩,eq⟩
end
end Mine.L13
namespace Mine.L13
open PySem Mine Mine.P
theorem Rt.ck {f:List Nat->Option Int}{Lk:List Nat->Prop}{ws:Ws}{d:Dd}{L:Kv}{xs:List (List Nat)} (h:Rt f Lk ws d) (F:Lf L xs) (e:vf L=f):Ck L ws d:=by
 subst e
 cases d with
 | rd x t=>exact h.1
 | un x ps =>
  obtain ⟨-,nn,n1,n2,n3⟩:=h
  exact n3.trans (und_eq n1 (dputs_nodup _ _ F.nd) n2 (fun n _ q=>(F.v.put ws).key q))
 | _=>trivial
section
variable {xs:List (List Nat)}{S:St}{g:List Nat->List (Nat×Option Int)}{lo T:Nat}{r:Nat->List (Dd×Nat)}{x:Nat->List V}{ks:List V}
theorem Tl.rw {k:Nat}{q:List (Dd×Nat)} (h:Tl xs S g T k q) (hT:T<=800):Rw xs (ds q):=⟨by unfold ds;refine gw (zb ..) ?_;exact za h.z hT,h.wn⟩
theorem row_vd (v:Sv xs S g lo T r x ks):∀ i,i<=S.row.length->Vd (st (S.row.map fun k=>ds (r k)) i) fun n=>lv S.d (S.row.take i) n .none:=by
 intro i
 induction i with
 | zero=>exact fun _ _=>rfl
 | succ i ih =>
  intro hi
  have h:=ih (z9 hi)
  have e:(S.row.map fun k=>ds (r k))[i]?=some (ds (r S.row[i])):=by refine gw (zv ..) (gw (zf hi ..) ?_);rfl
  refine gw (st_succ e ..) ?_
  have t:=v.t _ (v.F.rw _ (ye hi)).1
  refine fun n=>((h.put (wss (ds (r S.row[i])))) n).trans (congrArg val ?_)
  show _=lv S.d (S.row.take (i + 1)) n .none
  refine gw (take_at S.row hi ..) (gw (lv_app ..) (bw (t.lg.ws ..) ?_));rfl
theorem row_oa (v:Sv xs S g lo T r x ks) (hT:T<=800):Oa (S.row.map fun k=>ds (r k)):=fun i d e j dd ej=>by
 have hi:i < S.row.length:=by have:=(zc.mp e).1;replace this:=(zb ..)▸this;exact this
 replace e:=(zf hi ..)▸(zv ..)▸e
 cases e
 have t:=v.t _ (v.F.rw _ (ye hi)).1
 have sp:S.row=S.row.take i++S.row[i]::S.row.drop (i + 1):=by exact bw (y8 hi ..) (gw (z6 ..) rfl)
 have lg:=t.lg.ext (f':=fun n=>lv S.d (S.row.take i) n .none) fun n l=>(v.s.rd _ _ _ sp n l).symm
 refine (lg.ok j dd ej).ck (Lf.st (xs:=xs) (fun d hd=>?_) i) (vf_eq (row_vd v i (z9 hi)))
 obtain ⟨k,hk,rfl⟩:=w4.mp hd
 exact (v.t k (v.F.rw k hk).1).rw hT
theorem row_end (v:Sv xs S g lo T r x ks) (n:List Nat):vf (st (S.row.map fun k=>ds (r k)) S.row.length) n=amv (S.hist n) S.row.length:=by
 exact gw (vf_eq (row_vd v _ (ze _)) ..) (gw (v.gh.eq n _ v.gh.le ..) (gw (v.s.end ..) (gw (zu ..) rfl)))
end
end Mine.L13
namespace Mine.L13
open PySem Mine Mine.P
noncomputable def P0 (L:Nat):Pl:=⟨fun c=>match c with | .b j=>L + j | _=>0,fun i=>.b (i - L)⟩
theorem names_of {xs:List V} (h:allN xs):∃ ks:List (List Nat),xs=ks.map V.str/\∀ x∈ks,Nm x:=by
 induction xs with
 | nil=>exact ⟨[],rfl,fun _ h=>absurd h z0⟩
 | cons v xs ih =>
  obtain ⟨n,e,hn⟩:=h v zh
  obtain ⟨ks,e',hk⟩:=ih fun u hu=>h u (zj _ hu)
  exact ⟨n::ks,by refine gw e (gw e' ?_);rfl,fun x hx=>(zy.mp hx).elim (fun q=>q▸hn) (hk x)⟩
noncomputable abbrev CellL (C:Calls):Prop:=∀ (k:Int) (σ:H),0<=k->∃ y:Int,C.call 19 [.scr,.int k] σ=.ok (.int y) σ
noncomputable abbrev PoolL (C:Calls):Prop:=∀ (a b:Int) (σ:H),∃ l xs σ',C.call 23 [.int a,.int b] σ=.ok (.ref l) σ'/\Gr σ σ'/\σ'[l]?=some (.list xs)/\xs≠[]/\xs.length<=137/\allN xs
noncomputable abbrev OrderF (f:Fu):Prop:=∀ {G:Fz}{S:St}{P:Pl}{σ:H},Inv G S P σ->S.row.length<=1000->f [sh P] σ=.ok (.ref σ.length) (σ++[.list (iV S.row)])
noncomputable abbrev ValueF (f:Fu):Prop:=∀ {G:Fz}{S:St}{P:Pl}{σ:H}{x:List Nat},Inv G S P σ->(∀ x,x∉S.names->S.hist x=[])->Nm x->∃ σ',f [sh P,.str x] σ=.ok (val (amv (S.hist x) S.row.length)) σ'/\Gr σ σ'
noncomputable abbrev GoodF (f:Fu):Prop:=∀ {G:Fz}{S:St}{P:Pl}{σ:H}{x:List Nat},Inv G S P σ->(∀ x,x∉S.names->S.hist x=[])->Nm x->(S.hist x).length<=1000->Vn (S.hist x) S.row.length->∃ σ',f [sh P,.str x,val (amv (S.hist x) S.row.length)] σ=.ok (.bool true) σ'/\Gr σ σ'
noncomputable abbrev WalksF (f:Fu):Prop:=∀ {σ:H}{xs:List (List Nat)}{r:Nat}{as:List Nat}{Rs:List (List (Dd×Nat))},(∀ x∈xs,x.length<=12)->xs.length<=137->Ra σ r as Rs->(∀ q∈Rs,Rw xs (ds q))->∃ σ',f [.ref r] σ=.ok (.bool true) σ'/\Ol σ σ'
section
variable {ns:List Int}{C:Calls}{ρ:Env}{σ σ':H}{A:Ad}{n T:Nat}
theorem shelf0 (σ:H):Inv nof s0 (P0 σ.length) (σ++[.dict (shE (σ.length + 1) (σ.length + 2) (σ.length + 3))]++[.dict [],.list [],.list []]):=by
 refine ⟨fun c l=>?_,fun _ _ e=>nomatch e⟩
 cases c with
 | b j=>exact ⟨below (motive:=fun j=>(σ++[O.dict (shE (σ.length + 1) (σ.length + 2) (σ.length + 3))]++[.dict [],.list [],.list []])[σ.length + j]?=some (renB s0 (P0 σ.length) j)) (show j < 4 from l) ⟨⟨⟨⟨trivial,at_mid σ _ _⟩,at_more σ _ _ 0⟩,at_more σ _ _ 1⟩,at_more σ _ _ 2⟩,congrArg Cell.b (xk σ.length j)⟩
 | d j k=>exact absurd l.2 (y5 _)
 | h x=>exact absurd l z0
theorem order_c:OrderF (evF ns C f54_Shelf_order):=fun {_ _ _ _} I hz=>order_ok I hz
theorem value_c (hm:C.mlook=mlookOf T0) (h32:NeedN C) (h33:AtM C):ValueF (evF ns C f58_Shelf_value):=fun {_ S P σ x} I hh hx=>by
 obtain ⟨σ1,e1,g1⟩:=h32 (sh P) σ hx
 have I1:=I.gr g1
 obtain ⟨σ2,e2,g2⟩:=h33 I1 hh (n:=x) (m:=S.row.length)
 exact ⟨σ2,f_ret (fn:=f58_Shelf_value) rfl (s_expr (e_mcall rfl (look_ok hm (I.b 0 (by decide)) rfl rfl) rfl e1) (s_ret (e_mcall rfl (look_ok hm (I1.b 0 (by decide)) rfl rfl) (es_two rfl (e_bi (e_attr rfl (sh_row I1)) (len_row I1))) e2))),g1.tr g2⟩
theorem Inv.ol {M:Fz}{S:St}{P:Pl} (I:Inv M S P σ) (h:Ol σ σ'):Inv M S P σ' :=
 ⟨fun c l=>⟨h _ _ (I.c c l).1,(I.c c l).2⟩,fun i o e=>⟨h i o (I.at e),(I.fz i o e).2⟩⟩
theorem src_rev {e:E}{l:Nat}{xs:List V}{σ₁:H} (h:Ev ns C ρ e σ (.ref l) σ₁) (hl:σ₁[l]?=some (.list xs)):evSrc ns C ρ (.rev e) σ=.ok (.rev l xs.length,xs.length) σ₁ :=
 bnd2 h (by show pick (((listAt σ₁ l).map fun xs=>(l,xs.length)).map fun p=>(It.rev p.1 p.2,p.2)) σ₁=_;refine gw (listAt_of hl ..) ?_;rfl)
theorem next_rev {l j:Nat}{xs:List V}{v:V} (hl:σ[l]?=some (.list xs)) (h:xs[j]?=some v):nextIt (.rev l (j + 1)) σ=some (some (v,.rev l j)):=by
 show (listAt σ l).bind (fun xs=>(xs[j]?).map fun v=>some (v,It.rev l j))=_
 refine gw (listAt_of hl ..) ?_
 show (xs[j]?).map (fun v=>some (v,It.rev l j))=_
 refine gw h ?_;rfl
theorem stop_rev {l:Nat}{xs:List V} (hl:σ[l]?=some (.list xs)):nextIt (.rev l 0) σ=some .none:=by
 show (listAt σ l).bind (fun xs=>some Option.none)=_
 refine gw (listAt_of hl ..) ?_;rfl
noncomputable abbrev en (A:Ad) (a4:Nat) (o5 o6 o7:Option V):Env:=[some .scr,some (.ref A.pl),some A.s,some (.tup [.ref A.tn,.ref A.kp]),some (.ref a4),o5,o6,o7]
theorem rest_ok (hm:C.mlook=mlookOf T0) (h25:Same C) (h33:LeftF C) (h34:WalksF (C.call 34)) (h35:GoodF (C.call 35)) (h54:OrderF (C.call 54)) (h57:DeedsF (C.call 57)) (h58:ValueF (C.call 58)) (L:Lx A n T σ) (hT:T<=700) (hn:n<=999) (hxs:A.xs.length<=137) (hN:∀ x∈A.xs,Nm x) :
  ∃ ρ' σ',evSs ns C [some .scr,some (.ref A.pl),some A.s,some (.tup [.ref A.tn,.ref A.kp]),.none,.none,.none,.none] σ (f36_law.body.drop 3)=.ok (.ret (.bool true)) ρ' σ':=by
 refine cps fun G' K=>?_
 obtain ⟨M,w,S,P,tl,x,r,ks,g,lo,I,sp,sn,m,v⟩:=L
 subst sn
 have F:=v.F
 have hT8:T<=800:=za hT (by decide)
 have rz:S.row.length<=1000:=b8 F.rl hT8
 have hx:∀ x∈A.xs,x.length<=12:=fun x h=>(hN x h).2.1
 have s2:∀ {σ:H}{o4 o5 o6 o7:Option V},Ev ns C [some .scr,some (.ref A.pl),some A.s,some (.tup [.ref A.tn,.ref A.kp]),o4,o5,o6,o7] (.var 2) σ (sh P) σ:=fun {σ _ _ _ _}=>congrArg (fun z=>R.ok z σ) sp.symm
 have hq:∀ k,k < S.n->(S.d k).said=dVs (r k)/\(∀ p∈r k,okD M p)/\(r k).length<=1000:=fun k hk=>⟨(m.sd k hk).1,fun p hp=>((m.sd k hk).2 p hp).1,b8 (v.t k hk).z hT8⟩
 let σ5:=σ++[O.list (iV S.row)]
 have I5:Inv M S P σ5:=I.gr (Gr.app σ _)
 have a5:σ5[σ.length]?=some (.list (iV S.row)):=at_new σ _
 have hrow:∀ j∈S.row,j < S.n:=fun j hj=>(F.rw j hj).1
 have src5:=src_of (ns:=ns) (C:=C) (ρ:=en A σ.length .none .none .none) (e:=.var 4) (σ:=σ5) rfl a5
 replace src5:=(iV_len ..)▸src5
 refine ex4 (rows_ok (ns:=ns) (ρ:=en A σ.length .none .none .none) (src:=.of (.var 4)) (it:=fun i=>.list σ.length i) hm h57 I5 hq hrow rz src5 (fun i hi σ' g'=>next_list (g'.at a5) (iV_at hi)) (fun σ' g'=>by refine bw (iV_len ..) ?_;exact stop_list (g'.at a5)) (by refine gw sp ?_;rfl) rfl) fun l5 as Rs σ6 q_h=>?_;refine an4 q_h fun e5 g5 R5 q5=>?_
 have rw_:∀ {Rs:List (List (Dd×Nat))}{js:List Nat},(∀ j∈js,j < S.n)->Ds Rs=js.map (fun k=>ds (r k))->∀ q∈Rs,Rw A.xs (ds q):=fun {Rs js} hj e q hq'=>by
  have:ds q∈Ds Rs:=w4.mpr ⟨q,hq',rfl⟩
  replace this:=e▸this
  obtain ⟨k,hk,e'⟩:=w4.mp this
  refine bw e' ?_
  exact (v.t k (hj k hk)).rw hT8
 have oa:=row_oa v hT8
 have Rl:Rs.length=S.row.length:=by have:=congrArg ki q5;unfold Ds at this;replace this:=(zb ..)▸(zb ..)▸this;exact this
 have a6:=g5.at a5
 have I6:=I5.gr g5
 obtain ⟨-,σ7,⟨l6,e6,b6⟩,k6⟩:=(h33 hx hxs R5 (rw_ hrow q5)).resolve_right fun q=>q.1 (q5.symm▸oa)
 replace b6:=(Rl ..)▸q5▸b6
 obtain ⟨σ8,e8,k8⟩:=h34 hx hxs (R5.ol k6) (rw_ hrow q5)
 have I8:=(I6.ol k6).ol k8
 have b8':=k8 _ _ b6
 have a8:=k8 _ _ (k6 _ _ a6)
 have F8:Lf (st (S.row.map fun k=>ds (r k)) S.row.length) A.xs:=Lf.st (fun d hd=>by
  obtain ⟨k,hk,rfl⟩:=w4.mp hd
  exact (v.t k (hrow k hk)).rw hT8) _
 have ev:=row_end v
 generalize st (S.row.map fun k=>ds (r k)) S.row.length=Lz at b6 b8' F8 ev
 obtain ⟨ρ9,σ9,e9,⟨o7,rfl⟩,g9⟩:=for_all (tgt:=tgtN 7) (body:=fun ρ σ=>evSs ns C ρ σ [.ite (.or [(.not (.call 25 [(.mcall (.var 2) [118,97,108,117,101] [(.var 7)]),(.me (.var 6) .get [(.var 7)])])),(.not (.call 35 [(.var 2),(.var 7),(.me (.var 6) .get [(.var 7)])]))]) [.dead] []]) (it:=fun i=>.list A.pl i)
  (fun i ρ σ'=>(∃ o7,ρ=en A σ.length (some (.ref l5)) (some (.ref l6)) o7)/\Gr σ8 σ') (A.xs.map V.str).length
  (fun ρ σ' p=>stop_list (p.2.at (I8.at (m.pl _ zh).1)))
  (fun i ρ σ' hi p=>by
   obtain ⟨⟨o7,rfl⟩,g⟩:=p
   replace hi:=(zb ..)▸hi
   have I1:=I8.gr g
   have hNi:=hN _ (ye hi)
   obtain ⟨σ2,e2,g2⟩:=h58 I1 F.hh hNi
   have I2:=I1.gr g2
   obtain ⟨σ3,e3,g3⟩:=h35 I2 F.hh hNi (za (F.hl _) (za hT8 (by decide))) (v.gh.vn _)
   have gt:∀ {σ':H},Gr σ8 σ'->Ev ns C (en A σ.length (some (.ref l5)) (some (.ref l6)) (some (.str A.xs[i]))) (.me (.var 6) .get [(.var 7)]) σ' (val (amv (S.hist A.xs[i]) S.row.length)) σ':=fun g=>e_me rfl (kD (g.at b8') rfl) rfl ((getD1 (g.at b8')).trans (by rw [F8.v,ev]))
   refine ⟨_,_,_,σ3,next_list (I1.at (m.pl _ zh).1) (show (A.xs.map V.str)[i]?=some (.str A.xs[i]) by refine gw (zv ..) (gw (zf hi ..) ?_);rfl),rfl,s_ifF (orF (e_not (e_call (es_two (e_mcall s2 (look_ok hm (I1.b 0 (by decide)) rfl rfl) rfl e2) (gt (g.tr g2))) ((h25 _ _ σ2).trans (by exact gw (decide_eq_true rfl ..) rfl))) rfl) (or1 (e_not (e_call (es_three s2 rfl (gt (g.tr g2))) e3) rfl))) ss_nil,⟨_,rfl⟩,g.tr (g2.tr g3)⟩)
  (A.xs.map V.str).length 0 (en A σ.length (some (.ref l5)) (some (.ref l6)) .none) σ8 (zo _) ⟨⟨_,rfl⟩,Gr.rfl⟩
 have I9:=I8.gr g9
 have a9:=g9.at a8
 have src9:=src_rev (ns:=ns) (C:=C) (ρ:=en A σ.length (some (.ref l5)) (some (.ref l6)) o7) (e:=.var 4) (σ:=σ9) rfl a9
 replace src9:=(iV_len ..)▸src9
 have hrev:∀ j∈S.row.reverse,j < S.n:=fun j hj=>hrow j (List.mem_reverse.mp hj)
 refine ex4 (rows_ok (ns:=ns) (ρ:=en A σ.length (some (.ref l5)) (some (.ref l6)) o7) (src:=.rev (.var 4)) (js:=S.row.reverse) (it:=fun i=>.rev σ.length (S.row.length - i)) hm h57 I9 hq hrev (by refine gw (uo ..) ?_;exact rz) (by refine gw (uo ..) ?_;exact src9) (fun i hi σ' g'=>by
  replace hi:=(uo ..)▸hi
  obtain ⟨j,hj⟩:=j8 (Nat.sub_ne_zero_of_lt hi)
  have hj':S.row.length - 1 - i=j:=by refine gw (Nat.sub_right_comm ..) (gw hj ?_);rfl
  have hj2:S.row.length - (i + 1)=j:=by refine gw (Nat.sub_add_eq ..) (gw hj ?_);rfl
  have hjl:j < S.row.length:=zm (Nat.lt_of_succ_le (ya hj.symm)) (wc _ _)
  show nextIt (.rev σ.length (S.row.length - i)) σ'=some (some (_,.rev σ.length (S.row.length - (i + 1))))
  refine gw hj (gw hj2 ?_)
  refine next_rev (g'.at a9) ?_
  refine gw (iV_at hjl ..) (gw (List.getElem_reverse ..) ?_)
  simp only [hj']) (fun σ' g'=>by
  show nextIt (.rev σ.length (S.row.length - S.row.reverse.length)) σ'=_
  refine gw (uo ..) (gw (xv ..) ?_)
  exact stop_rev (g'.at a9)) (by refine gw sp ?_;rfl) rfl) fun l9 as' Rs' σ10 q_h=>?_;refine an4 q_h fun e10 g10 R10 q10=>?_
 obtain ⟨σ11,e11,-⟩:=h34 hx hxs R10 (rw_ hrev q10)
 exact K ⟨_,σ11,s_ifF rfl (s_assign (e_mcall s2 (look_ok hm (I.b 0 (by decide)) rfl rfl) rfl (h54 I rz)) rfl (s_assign e5 rfl (s_assign (e_call rfl e6) rfl (s_ifF (orF rfl (or1 (e_not (e_call rfl e8) rfl))) (s_forN (src_of rfl (I8.at (m.pl _ zh).1)) (after_next e9 (s_ret (e_call (es_one e10) e11))))))))⟩
theorem law_ok (hm:C.mlook=mlookOf T0) (h19:CellL C) (h23:PoolL C) (hS:∀ σ,C.new 1 [] σ=.ok (.inst 1 σ.length) (σ++[.dict (shE (σ.length + 1) (σ.length + 2) (σ.length + 3))]++[.dict [],.list [],.list []])) (h32:PlayedF (C.call 32)) (h25:Same C) (h33:LeftF C) (h34:WalksF (C.call 34)) (h35:GoodF (C.call 35)) (h54:OrderF (C.call 54)) (h57:DeedsF (C.call 57)) (h58:ValueF (C.call 58)) (hlen:ns.length<=63):∃ σ',evF ns C f36_law [.scr] σ=.ok (.bool true) σ':=by
 refine cps fun G' K=>?_
 obtain ⟨y0,e0⟩:=h19 0 σ (by decide)
 obtain ⟨y1,e1⟩:=h19 1 σ (by decide)
 refine ex3 (h23 y0 y1 σ) fun pl xs σ1 q_h=>?_;refine an6 q_h fun ep _ hp hne hx2 ha=>?_
 obtain ⟨ks,rfl,hN⟩:=names_of ha
 replace hx2:=(zb ..)▸hx2
 obtain ⟨τ,hτ⟩:∃ τ,τ=σ1++[O.dict (shE (σ1.length + 1) (σ1.length + 2) (σ1.length + 3))]++[.dict [],.list [],.list []]:=⟨_,rfl⟩
 have eS:=hS σ1
 have I0:=shelf0 σ1
 have g:Gr σ1 (σ1++[O.dict (shE (σ1.length + 1) (σ1.length + 2) (σ1.length + 3))]++[.dict [],.list [],.list []]):=(Gr.app _ _).tr (Gr.app _ _)
 rw [← hτ] at eS I0 g
 have lp:pl < σ1.length:=(zc.mp hp).1
 have fp:Fr nof s0 (P0 σ1.length) pl:=⟨fun c l=>by
  cases c with
  | b j=>exact xt (zm lp (zp _ _))
  | d j k=>exact absurd l.2 (y5 _)
  | h x=>exact absurd l z0,rfl⟩
 have I1:=I0.add fp (g.at hp)
 let zs:=cut ns (some 2) (some 92)
 have hz:zs.length<=63:=za (cut_len _ _ _) hlen
 have I2:=I1.new (.list (zs.map V.int))
 have e7:sliceV ns .scr (.int 2) (.int 92) τ=.ok (.ref τ.length) (τ++[.list (zs.map V.int)]):=newL_ok (by refine gw (zb ..) ?_;exact za hz (by decide))
 have lt:pl≠τ.length:=yj (zc.mp (g.at hp)).1
 refine ex5 (h32 I2 ((upd_ne _ _ lt).trans (upd_at ..)) (upd_at ..) hx2 (fun q=>hne (by refine gw q ?_;rfl)) hN hz) fun tn kp n T σ4 q_h=>?_;refine an4 q_h fun e4 L hT hn=>?_
 refine ex2 (rest_ok (ns:=ns) hm h25 h33 h34 h35 h54 h57 h58 L hT hn hx2 hN) fun ρ' σ5 e5=>?_
 exact K ⟨σ5,f_ret (fn:=f36_law) rfl (s_assign (e_call (es_two (e_call rfl e0) (e_call rfl e1)) ep) rfl (s_assign (e_new rfl eS) rfl (s_assign (e_call (es_three rfl (e_slice rfl rfl rfl e7) rfl) e4) rfl e5)))⟩
theorem shelf_init_ok:evF ns C f38_Shelf___init__ [.inst 1 σ.length] (σ++[.dict []])=.ok .none (σ++[.dict (shE (σ.length + 1) (σ.length + 2) (σ.length + 3))]++[.dict [],.list [],.list []]):=by
 have e:σ++[O.dict []]=σ++[O.dict []]++[]:=(yi _).symm
 refine gw e ?_
 exact f_next (fn:=f38_Shelf___init__) rfl (s_seta (newD_mid _ _) rfl (setaM rfl) (s_seta (newL_mid _ _) rfl (setaM rfl) (s_seta (newL_mid _ _) rfl (setaM rfl) ss_nil)))
end
end Mine.L13
namespace Mine.L13
open PySem Mine Mine.P
noncomputable abbrev Cs (ns:List Int) (n:Nat):Calls:=callsOf ns T0 n
section
variable {ns:List Int}
theorem hm_ (n:Nat):(Cs ns n).mlook=mlookOf T0:=by cases n <;> rfl
theorem hsub_ (n:Nat):(Cs ns n).sub=subS:=by cases n <;> rfl
theorem c1 (n:Nat) (i:Int) (σ:H):(Cs ns (n + 1)).call 1 [.int i] σ=.ok (.bool true) σ:=show evF ns (Cs ns n) f1_is_whole [.int i] σ=_ from rfl
theorem c12 (n:Nat) (i:Int) (σ:H):(Cs ns (n + 1)).call 18 [.int i] σ=.ok (.bool true) σ:=show evF ns (Cs ns n) f18_whole [.int i] σ=_ from rfl
theorem c2 (n:Nat):Head (Cs ns (n + 1)):=fun x σ hx=>head_ok (ns:=ns) (C:=Cs ns n) x hx
theorem c3 (n:Nat) (x:List Nat) (σ:H) (hx:x.length<=12):∃ σ',(Cs ns (n + 2)).call 3 [.str x] σ=.ok (.bool ((x.all fun c=>signs.contains c) && decide (0 < x.length))) σ'/\Gr σ σ':=name_is (ns:=ns) (C:=Cs ns (n + 1)) (c2 n) x hx
theorem c34 (n:Nat):NeedN (Cs ns (n + 3)):=fun s {_} σ hx=>need_name_ok (ns:=ns) (C:=Cs ns (n + 2)) (c3 n) s hx
theorem c4 (n:Nat) {t:Option Int}{σ:H} (ht:inR t):(Cs ns (n + 2)).call 4 [val t] σ=.ok (.bool true) σ:=value_is (ns:=ns) (C:=Cs ns (n + 1)) (c1 n) ht
theorem c5 (n:Nat):IsU (Cs ns (n + 1)):=fun x y σ=>under_ok (ns:=ns) (C:=Cs ns n) x y
theorem c6 (n:Nat):LastPl (Cs ns (n + 1)):=fun hl hz m=>place_ok (ns:=ns) (C:=Cs ns n) hl hz m
theorem c7 (n:Nat):Values (Cs ns (n + 1)):=fun hl hz=>values_ok (ns:=ns) (C:=Cs ns n) hl hz
theorem c8 (n:Nat):Wrote (Cs ns (n + 2)):=fun I hk hz m=>has_written_ok (ns:=ns) (C:=Cs ns (n + 1)) (c6 n) I hk hz m
theorem c9 (n:Nat):Looked (Cs ns (n + 2)):=fun I hk hz m=>has_looked_ok (ns:=ns) (C:=Cs ns (n + 1)) (c5 n) I hk hz m
theorem c11 (n:Nat):PlaceIn (Cs ns (n + 1)):=fun hr ha hb hz hs=>place_in_ok (ns:=ns) (C:=Cs ns n) hr ha hb hz hs
theorem c32 (n:Nat):Need (Cs ns (n + 2)):=fun I hk=>need_dealing_ok (ns:=ns) (C:=Cs ns (n + 1)) (c1 n) I hk
theorem c33 (n:Nat):NeedO (Cs ns (n + 3)):=fun I hk=>⟨need_open_ok (ns:=ns) (C:=Cs ns (n + 2)) (hm_ _) (c32 n) I hk,need_open_no (ns:=ns) (C:=Cs ns (n + 2)) (hm_ _) (c32 n) I hk⟩
theorem c35 (n:Nat):AtM (Cs ns (n + 1)):=fun {_ _ _ _} I hh {_ _}=>moment_at_ok (ns:=ns) (C:=Cs ns n) I hh
theorem c36 (n:Nat):SeenBy (Cs ns (n + 2)):=fun I hh hk hz m=>seen_by_ok (ns:=ns) (C:=Cs ns (n + 1)) (hm_ _) (c6 n) (c35 n) I hh hk hz m
theorem c44 (n:Nat):WasL (Cs ns (n + 3)):=fun I hj hk hz hh=>was_looked_ok (ns:=ns) (C:=Cs ns (n + 2)) (c7 (n + 1)) (c9 n) I hj hk hz hh
theorem c43 (n:Nat):Ahead (Cs ns (n + 4)):=fun {_ _ _ _} I {_ _ _} hj hk hz h1 h2 {_} hl=>ahead_ok (ns:=ns) (C:=Cs ns (n + 3)) (hm_ _) (c8 (n + 1)) (c9 (n + 1)) (c44 n) I hj hk hz h1 h2 hl
theorem c37 (n:Nat):BeginF ((Cs ns (n + 2)).call 44):=fun I hz=>begin_ok (ns:=ns) (C:=Cs ns (n + 1)) (fun r σ=>by
  show (evF ns (Cs ns n) f37_Dealing___init__ [.inst 0 σ.length,.int r]).bnd (backI 0 σ.length) (σ++[.dict []])=_
  refine gw (bnd_ok (deal_init_ok (ns:=ns) (C:=Cs ns n) r) ..) ?_;rfl) I hz
theorem c38 (n:Nat):ReadF ((Cs ns (n + 4)).call 45):=read_c (ns:=ns) (C:=Cs ns (n + 3)) (hm_ _) (c33 n) (c34 n) (c36 (n + 1)) (c8 (n + 1))
theorem c39 (n:Nat):UnderF ((Cs ns (n + 4)).call 46):=under_c (ns:=ns) (C:=Cs ns (n + 3)) (hm_ _) (c33 n) (c2 (n + 2)) (c5 (n + 2)) (c36 (n + 1))
theorem c40 (n:Nat):WriteF ((Cs ns (n + 4)).call 47):=write_c (ns:=ns) (C:=Cs ns (n + 3)) (hm_ _) (c33 n) (c34 n) (fun ht=>c4 (n + 1) ht) (c8 (n + 1))
theorem c41 (n:Nat):MadeF ((Cs ns (n + 4)).call 48):=made_c (ns:=ns) (C:=Cs ns (n + 3)) (hm_ _) (c33 n)
theorem c42 (n:Nat):BackF ((Cs ns (n + 4)).call 49):=back_c (ns:=ns) (C:=Cs ns (n + 3)) (hm_ _) (c33 n) (c1 (n + 2))
theorem c45 (n:Nat):KeepF ((Cs ns (n + 5)).call 52):=keep_c (ns:=ns) (C:=Cs ns (n + 4)) (hm_ _) (c33 (n + 1)) (c7 (n + 3)) (c11 (n + 3)) (c43 n) (c44 (n + 1))
theorem c46 (n:Nat):DropF ((Cs ns (n + 4)).call 53):=drop_c (ns:=ns) (C:=Cs ns (n + 3)) (hm_ _) (c33 n)
theorem c47 (n:Nat):OrderF ((Cs ns (n + 1)).call 54):=order_c (ns:=ns) (C:=Cs ns n)
theorem c18 (n:Nat):ValF ((Cs ns (n + 1)).call 24):=fun x=>value_ok (ns:=ns) (C:=Cs ns n) x
theorem c19 (n:Nat):Same (Cs ns (n + 2)):=fun s t σ=>same_ok (ns:=ns) (C:=Cs ns (n + 1)) (c12 n) s t
theorem cp (n:Nat):PairsL (Cs ns (n + 3)):=fun ha hb hz=>pairs_ok (ns:=ns) (C:=Cs ns (n + 2)) (c19 n) ha hb hz
theorem c20 (n:Nat):LastL (Cs ns (n + 1)):=fun hl hz=>last_ok (ns:=ns) (C:=Cs ns n) hl hz
theorem c21 (n:Nat):ToldL (Cs ns (n + 1)):=fun hd hj hz hn hv hk h=>told_under_ok (ns:=ns) (C:=Cs ns n) hd hj hz hn hv hk h
theorem c22 (n:Nat):DeedF ((Cs ns (n + 5)).call 29):=deed_c (ns:=ns) (C:=Cs ns (n + 4)) (hm_ _) (c18 (n + 3)) (c38 n) (c39 n) (c40 n) (c41 n) (c42 n)
theorem c23 (n:Nat):TriedF ((Cs ns (n + 6)).call 30):=tried_c (ns:=ns) (C:=Cs ns (n + 5)) (hm_ _) (hsub_ _) (c22 n) (c45 n) (c46 (n + 1))
theorem w11 (n:Nat):Alike (Cs ns (n + 2)):=fun s t σ=>alike_ok (ns:=ns) (C:=Cs ns (n + 1)) (c1 n) s t
theorem w12 (n:Nat):WSeen (Cs ns (n + 2)):=fun ha hb hz hv m=>wseen_ok (ns:=ns) (C:=Cs ns (n + 1)) (c6 n) ha hb hz hv m
theorem w13 (n:Nat):WPairs (Cs ns (n + 3)):=fun ha hb hz hv hn=>wpairs_ok (ns:=ns) (C:=Cs ns (n + 2)) (c5 (n + 1)) (w12 n) ha hb hz hv hn
theorem w14 (n:Nat):SameRow (Cs ns (n + 3)):=fun ha hb=>same_row_ok (ns:=ns) (C:=Cs ns (n + 2)) (w11 n) ha hb
theorem w15 (n:Nat):DoneF (Cs ns (n + 4)):=fun {_ _ _} hx {_ _ _} F w ha hb hq=>done_ok (ns:=ns) (C:=Cs ns (n + 3)) (w11 (n + 1)) (w12 (n + 1)) (w13 n) (w14 n) hx F w ha hb hq
theorem w16 (n:Nat):WalkedF (Cs ns (n + 5)):=fun {_ _} hx {_ _ _} R w=>walked_ok (ns:=ns) (C:=Cs ns (n + 4)) (c7 (n + 3)) (w15 n) hx R w
theorem w33 (n:Nat):LeftF (Cs ns (n + 4)):=fun hx hxs R w=>left_ok (ns:=ns) (C:=Cs ns (n + 3)) (c19 (n + 1)) (cp n) (c20 (n + 2)) (c21 (n + 2)) hx hxs R w
theorem w34 (n:Nat):WalksF ((Cs ns (n + 6)).call 34):=fun hx hxs R w=>walks_ok (ns:=ns) (C:=Cs ns (n + 5)) (hsub_ _) (w16 n) (cp (n + 2)) (c21 (n + 4)) (w33 (n + 1)) hx hxs R w
theorem w55 (n:Nat) {G:Fz}{S:St}{P:Pl}{σ:H} (I:Inv G S P σ):(Cs ns (n + 1)).call 55 [sh P] σ=.ok (.int S.row.length) σ:=moment_ok (ns:=ns) (C:=Cs ns n) I
theorem w59 (n:Nat):VersF (Cs ns (n + 4)):=fun {_ _ _ _} I hh {_} hx hz=>versions_ok (ns:=ns) (C:=Cs ns (n + 3)) (hm_ _) (c34 n) I hh hx hz
theorem w35 (n:Nat):GoodF ((Cs ns (n + 5)).call 35):=fun {_ _ _ _ _} I hh hx hz hv=>good_ok (ns:=ns) (C:=Cs ns (n + 4)) (hm_ _) (c12 (n + 3)) (c19 (n + 2)) (fun I=>w55 (n + 3) I) (w59 n) I hh hx hz hv
theorem w57 (n:Nat):DeedsF ((Cs ns (n + 3)).call 57):=deeds_c (ns:=ns) (C:=Cs ns (n + 2)) (hm_ _) (c32 n) (fun {_ _} h=>copy_ok (ns:=ns) (C:=Cs ns (n + 1)) h)
theorem w60 (n:Nat):SweepF ((Cs ns (n + 1)).call 60):=sweep_c (ns:=ns) (C:=Cs ns n)
theorem c49 (n:Nat):ValueF ((Cs ns (n + 4)).call 58):=value_c (ns:=ns) (C:=Cs ns (n + 3)) (hm_ _) (c34 n) (c35 (n + 2))
theorem short_f (n:Nat):(Cs ns (n + 1)).call 31=evF ns (Cs ns n) f31_short:=rfl
theorem c24 (n:Nat):ShortF ((Cs ns (n + 7)).call 31):=by
 rw [short_f (n + 6)]
 exact short_c (ns:=ns) (C:=Cs ns (n + 6)) (hm_ _) (c37 (n + 4)) (c23 n)
theorem c14 (n:Nat) (x:Int) (σ:H):∃ y:Int,(Cs ns (n + 1)).call 20 [.int x] σ=.ok (.int y) σ:=⟨_,mixed_ok (ns:=ns) (C:=Cs ns n) x⟩
theorem c25 (n:Nat):PlayedF ((Cs ns (n + 8)).call 32):=played_c (ns:=ns) (C:=Cs ns (n + 7)) (hm_ _) (c14 (n + 6)) (c23 (n + 1)) (c24 n) (c37 (n + 5)) (w60 (n + 6))
theorem c13 (n:Nat):CellL (Cs ns (n + 1)):=fun k σ hk=>by
 obtain ⟨i,rfl⟩:=uu hk
 exact ⟨_,cell_ok (ns:=ns) (C:=Cs ns n) i⟩
theorem new_ (n:Nat) (σ:H):(Cs ns (n + 1)).new 1 [] σ=.ok (.inst 1 σ.length) (σ++[.dict (shE (σ.length + 1) (σ.length + 2) (σ.length + 3))]++[.dict [],.list [],.list []]):=by
 show (evF ns (Cs ns n) f38_Shelf___init__ [.inst 1 σ.length]).bnd (backI 1 σ.length) (σ++[.dict []])=_
 refine gw (bnd_ok (shelf_init_ok (ns:=ns) (C:=Cs ns n)) ..) ?_;rfl
theorem pure (ns:List Int) (h:ns.length<=63):∃ σ,(callsOf ns T0 12).call 36 [.scr] []=.ok (.bool true) σ :=
 law_ok (ns:=ns) (C:=Cs ns 11) (hm_ _) (c13 10)
  (fun a b σ=>pool_ok (ns:=ns) (C:=Cs ns 10) (fun c σ=>name_ok (ns:=ns) (C:=Cs ns 9) (c14 8) c) (fun x c σ h=>twin_ok (ns:=ns) (C:=Cs ns 9) h c) a b) (new_ 10) (c25 3) (c19 9) (w33 7) (w34 5) (w35 6) (c47 10) (w57 8) (c49 7) h
end
end Mine.L13
namespace Mine
open PySem
structure Ok (P:Prop) where
 b:Bool
 h:b=true->P
section
variable {P Q R:Prop}{α:Type}
noncomputable def Ok.no:Ok P:=⟨false,fun h=>nomatch h⟩
noncomputable def Ok.map (a:Ok P) (f:P->Q):Ok Q:=⟨a.b,fun h=>f (a.h h)⟩
theorem and2 {a b:Bool} (h:(a && b)=true):a=true/\b=true:=(vq _ _).mp h
noncomputable def Ok.and (a:Ok P) (b:Ok Q) (f:P->Q->R):Ok R:=⟨a.b && b.b,fun h=>f (a.h (and2 h).1) (b.h (and2 h).2)⟩
noncomputable def Ok.iff (p:Prop) [Decidable p] (f:p->Ok P):Ok P:=if h:p then f h else .no
noncomputable def Ok.dec (p:Prop) [Decidable p] (f:p->P):Ok P:=⟨decide p,fun h=>f (of_decide_eq_true h)⟩
noncomputable def Ok.on (o:Option α) (f:α->Ok P):Ok P:=match o with
 | some a=>f a
 | .none=>.no
end
noncomputable def sameV (v w:V):Ok (v=w):=match v with
 | .none=>match w with | .none=>⟨true,fun _=>rfl⟩ | _=>.no
 | .bool b=>match w with | .bool c=>.dec (b=c) (congrArg V.bool) | _=>.no
 | .int i=>match w with | .int j=>.dec (i=j) (congrArg V.int) | _=>.no
 | .str x=>match w with | .str y=>.dec (x=y) (congrArg V.str) | _=>.no
 | _=>.no
noncomputable def litIs (k:Const) (v:V):Ok (litOf k=some v):=match litOf k with
 | some w=>(sameV w v).map (congrArg some)
 | .none=>.no
noncomputable def conIs (x:Str) (v:V):(l:List (Str×V))->Ok ((x,v)∈l)
 | []=>.no
 | (y,w)::r=>if h:x=y then (sameV v w).map fun q=>by refine gw h (gw q ?_);exact zh else (conIs x v r).map fun q=>zj _ q
noncomputable abbrev NMt (e:Expr):Type:={ q:Str×Pos // e=.Name q.1 q.2 }
noncomputable def nm (e:Expr):Option (NMt e):=if h:e.ctorIdx=23 then Expr.Name.elim (motive_1:=fun e=>Option (NMt e)) e h fun a0 a1=>some ⟨(a0,a1),rfl⟩ else .none
noncomputable abbrev CLt (e:Expr):Type:={ q:Expr×List Expr×List Keyword×Pos // e=.Call q.1 q.2.1 q.2.2.1 q.2.2.2 }
noncomputable def cl (e:Expr):Option (CLt e):=if h:e.ctorIdx=16 then Expr.Call.elim (motive_1:=fun e=>Option (CLt e)) e h fun a0 a1 a2 a3=>some ⟨(a0,a1,a2,a3),rfl⟩ else .none
noncomputable abbrev AT1t (e:Expr):Type:={ q:Expr×Str×Pos // e=.Attribute q.1 q.2.1 q.2.2 }
noncomputable def at1 (e:Expr):Option (AT1t e):=if h:e.ctorIdx=20 then Expr.Attribute.elim (motive_1:=fun e=>Option (AT1t e)) e h fun a0 a1 a2=>some ⟨(a0,a1,a2),rfl⟩ else .none
noncomputable abbrev UNt (e:Expr):Type:={ q:UnaryOp×Expr×Pos // e=.UnaryOp q.1 q.2.1 q.2.2 }
noncomputable def un (e:Expr):Option (UNt e):=if h:e.ctorIdx=3 then Expr.UnaryOp.elim (motive_1:=fun e=>Option (UNt e)) e h fun a0 a1 a2=>some ⟨(a0,a1,a2),rfl⟩ else .none
noncomputable abbrev BOt (e:Expr):Type:={ q:BoolOp×List Expr×Pos // e=.BoolOp q.1 q.2.1 q.2.2 }
noncomputable def bo (e:Expr):Option (BOt e):=if h:e.ctorIdx=0 then Expr.BoolOp.elim (motive_1:=fun e=>Option (BOt e)) e h fun a0 a1 a2=>some ⟨(a0,a1,a2),rfl⟩ else .none
noncomputable abbrev CMt (e:Expr):Type:={ q:Expr×List CmpOp×List Expr×Pos // e=.Compare q.1 q.2.1 q.2.2.1 q.2.2.2 }
noncomputable def cm (e:Expr):Option (CMt e):=if h:e.ctorIdx=15 then Expr.Compare.elim (motive_1:=fun e=>Option (CMt e)) e h fun a0 a1 a2 a3=>some ⟨(a0,a1,a2,a3),rfl⟩ else .none
noncomputable abbrev DTt (e:Expr):Type:={ q:List (Option Expr)×List Expr×Pos // e=.Dict q.1 q.2.1 q.2.2 }
noncomputable def dt (e:Expr):Option (DTt e):=if h:e.ctorIdx=6 then Expr.Dict.elim (motive_1:=fun e=>Option (DTt e)) e h fun a0 a1 a2=>some ⟨(a0,a1,a2),rfl⟩ else .none
noncomputable abbrev SBSt (e:Expr):Type:={ q:Expr×Expr×Pos // e=.Subscript q.1 q.2.1 q.2.2 }
noncomputable def sbs (e:Expr):Option (SBSt e):=if h:e.ctorIdx=21 then Expr.Subscript.elim (motive_1:=fun e=>Option (SBSt e)) e h fun a0 a1 a2=>some ⟨(a0,a1,a2),rfl⟩ else .none
noncomputable abbrev SL3t (e:Expr):Type:={ q:Option Expr×Option Expr×Option Expr×Pos // e=.Slice q.1 q.2.1 q.2.2.1 q.2.2.2 }
noncomputable def sl3 (e:Expr):Option (SL3t e):=if h:e.ctorIdx=26 then Expr.Slice.elim (motive_1:=fun e=>Option (SL3t e)) e h fun a0 a1 a2 a3=>some ⟨(a0,a1,a2,a3),rfl⟩ else .none
noncomputable abbrev LC0t (e:Expr):Type:={ q:Expr×List Comprehension×Scope×Pos // e=.ListComp q.1 q.2.1 q.2.2.1 q.2.2.2 }
noncomputable def lc0 (e:Expr):Option (LC0t e):=if h:e.ctorIdx=8 then Expr.ListComp.elim (motive_1:=fun e=>Option (LC0t e)) e h fun a0 a1 a2 a3=>some ⟨(a0,a1,a2,a3),rfl⟩ else .none
noncomputable abbrev TUt (e:Expr):Type:={ q:List Expr×Nat×Pos // e=.Tuple q.1 q.2.1 q.2.2 }
noncomputable def tu (e:Expr):Option (TUt e):=if h:e.ctorIdx=25 then Expr.Tuple.elim (motive_1:=fun e=>Option (TUt e)) e h fun a0 a1 a2=>some ⟨(a0,a1,a2),rfl⟩ else .none
noncomputable abbrev LIt (e:Expr):Type:={ q:List Expr×Pos // e=.List q.1 q.2 }
noncomputable def li (e:Expr):Option (LIt e):=if h:e.ctorIdx=24 then Expr.List.elim (motive_1:=fun e=>Option (LIt e)) e h fun a0 a1=>some ⟨(a0,a1),rfl⟩ else .none
noncomputable abbrev CTt (e:Expr):Type:={ q:Const×Nat×Pos // e=.Constant q.1 q.2.1 q.2.2 }
noncomputable def ct (e:Expr):Option (CTt e):=if h:e.ctorIdx=19 then Expr.Constant.elim (motive_1:=fun e=>Option (CTt e)) e h fun a0 a1 a2=>some ⟨(a0,a1,a2),rfl⟩ else .none
noncomputable abbrev BNt (e:Expr):Type:={ q:Expr×Operator×Expr×Pos // e=.BinOp q.1 q.2.1 q.2.2.1 q.2.2.2 }
noncomputable def bn (e:Expr):Option (BNt e):=if h:e.ctorIdx=2 then Expr.BinOp.elim (motive_1:=fun e=>Option (BNt e)) e h fun a0 a1 a2 a3=>some ⟨(a0,a1,a2,a3),rfl⟩ else .none
noncomputable def one1 {α:Type} (l:List α):Option { x:α // l=[x] }:=match l with | [x]=>some ⟨x,rfl⟩ | _=>.none
noncomputable def two2 {α:Type} (l:List α):Option { x:α×α // l=[x.1,x.2] }:=match l with | [x,y]=>some ⟨(x,y),rfl⟩ | _=>.none
noncomputable def em0 {α:Type} (l:List α):Option { _u:Unit // l=[] }:=match l with | []=>some ⟨(),rfl⟩ | _=>.none
noncomputable def emo {α:Type} (o:Option α):Option { _u:Unit // o=none }:=match o with | .none=>some ⟨(),rfl⟩ | _=>.none
theorem c4 {f f':Expr}{xs xs':List Expr}{ks ks':List Keyword}{p:Pos} (h1:f=f') (h2:xs=xs') (h3:ks=ks'):Expr.Call f xs ks p=.Call f' xs' ks' p:=by cases h1;cases h2;cases h3;rfl
noncomputable def smo {α:Type} (o:Option α):Option { x:α // o=some x }:=match o with | some x=>some ⟨x,rfl⟩ | _=>.none
noncomputable abbrev NC (e:Expr):Type:={ q:Str×Pos×List Expr×Pos // e=.Call (.Name q.1 q.2.1) q.2.2.1 [] q.2.2.2 }
noncomputable def nc (e:Expr):Option (NC e):=(cl e).bind fun q=>(nm q.1.1).bind fun n=>(em0 q.1.2.2.1).map fun k=>⟨(n.1.1,n.1.2,q.1.2.1,q.1.2.2.2),q.2.trans (c4 n.2 rfl k.2)⟩
theorem kw_eq (k:Keyword):k=⟨k.arg,k.value,k.pos⟩:=by cases k;rfl
noncomputable abbrev KC (e:Expr):Type:={ q:Str×Pos×Expr×Option Str×Expr×Pos×Pos // e=.Call (.Name q.1 q.2.1) [q.2.2.1] [⟨q.2.2.2.1,q.2.2.2.2.1,q.2.2.2.2.2.1⟩] q.2.2.2.2.2.2 }
noncomputable def kc (e:Expr):Option (KC e):=(cl e).bind fun q=>(nm q.1.1).bind fun n=>(one1 q.1.2.1).bind fun x=>(one1 q.1.2.2.1).map fun k=>⟨(n.1.1,n.1.2,x.1,k.1.arg,k.1.value,k.1.pos,q.1.2.2.2),q.2.trans (c4 n.2 x.2 (k.2.trans (congrArg (fun z=>[z]) (kw_eq k.1))))⟩
noncomputable abbrev AC (e:Expr):Type:={ q:Expr×Str×Pos×List Expr×Pos // e=.Call (.Attribute q.1 q.2.1 q.2.2.1) q.2.2.2.1 [] q.2.2.2.2 }
noncomputable def ac (e:Expr):Option (AC e):=(cl e).bind fun q=>(at1 q.1.1).bind fun n=>(em0 q.1.2.2.1).map fun k=>⟨(n.1.1,n.1.2.1,n.1.2.2,q.1.2.1,q.1.2.2.2),q.2.trans (c4 n.2 rfl k.2)⟩
noncomputable abbrev LC (e:Expr):Type:={ q:Expr×Str×Pos×Expr×List Expr×Scope×Pos // e=.ListComp q.1 [⟨.Name q.2.1 q.2.2.1,q.2.2.2.1,q.2.2.2.2.1,0⟩] q.2.2.2.2.2.1 q.2.2.2.2.2.2 }
theorem lc_eq {g:Comprehension}{x:Str}{p:Pos} (h:g.target=.Name x p) (h0:g.is_async=0):g=⟨.Name x p,g.iter,g.ifs,0⟩:=by cases g;cases h;cases h0;rfl
noncomputable def lc (e:Expr):Option (LC e):=(lc0 e).bind fun q=>(one1 q.1.2.1).bind fun g=>(nm g.1.target).bind fun n=>if h:g.1.is_async=0 then some ⟨(q.1.1,n.1.1,n.1.2,g.1.iter,g.1.ifs,q.1.2.2.1,q.1.2.2.2),lc_eq n.2 h▸g.2▸q.2⟩ else .none
noncomputable def sli (e:Expr):Option { q:Option Expr×Option Expr×Pos // e=.Slice q.1 q.2.1 none q.2.2 }:=(sl3 e).bind fun q=>(emo q.1.2.2.1).map fun k=>⟨(q.1.1,q.1.2.1,q.1.2.2.2),q.2.trans (congrArg (fun z=>Expr.Slice q.1.1 q.1.2.1 z q.1.2.2.2) k.2)⟩
noncomputable def tp2 (e:Expr):Option { q:Str×Pos×Str×Pos×Nat×Pos // e=.Tuple [.Name q.1 q.2.1,.Name q.2.2.1 q.2.2.2.1] q.2.2.2.2.1 q.2.2.2.2.2 }:=(tu e).bind fun q=>(two2 q.1.1).bind fun z=>(nm z.1.1).bind fun x=>(nm z.1.2).map fun y=>⟨(x.1.1,x.1.2,y.1.1,y.1.2,q.1.2.1,q.1.2.2),y.2▸x.2▸z.2▸q.2⟩
noncomputable def isN {α:Type} (l:List α):Ok (l=[]):=match l with
 | []=>⟨true,fun _=>rfl⟩
 | _=>.no
noncomputable def kNil (G:GT) (cx:Cx) (xs:List Expr):Ok (Ts G [] cx xs):=isN xs
noncomputable def kCons {G:GT}{t:E}{ts:List E} (f:∀ cx e,Ok (T G t cx e)) (g:∀ cx xs,Ok (Ts G ts cx xs)) (cx:Cx) (xs:List Expr):Ok (Ts G (t::ts) cx xs):=match xs with
 | x::r=>(f cx x).and (g cx r) fun h1 h2=>⟨x,r,rfl,h1,h2⟩
 | []=>.no
noncomputable def kOf {G:GT}{t:E} (f:∀ cx e,Ok (T G t cx e)) (cx:Cx) (e:Expr):Ok (TSrc G (.of t) cx e):=(f cx e).map id
noncomputable def kOne {G:GT}{t:E} (n:Str) (f:∀ cx e,Ok (T G t cx e)) (cx:Cx) (e:Expr):Ok (∃ q x p,e=.Call (.Name n q) [x] [] p/\cx.glob n=true/\T G t cx x):=.on (nc e) fun q=>.iff (q.1.1=n/\cx.glob n=true) fun h=>.on (one1 q.1.2.2.1) fun r=>(f cx r.1).map fun g=>⟨_,_,_,r.2▸h.1▸q.2,h.2,g⟩
noncomputable def kZip {G:GT}{t u:E} (f:∀ cx e,Ok (T G t cx e)) (g:∀ cx e,Ok (T G u cx e)) (cx:Cx) (e:Expr):Ok (TSrc G (.zip t u) cx e):=.on (nc e) fun q=>.iff (q.1.1="zip"/\cx.glob "zip"=true) fun h=>.on (two2 q.1.2.2.1) fun r=>(f cx r.1.1).and (g cx r.1.2) fun h1 h2=>⟨_,_,_,_,r.2▸h.1▸q.2,h.2,h1,h2⟩
noncomputable def kPart (G:GT) (lo:E) (f:∀ cx e,Ok (T G lo cx e)) (cx:Cx) (l:Option Expr):Ok ((l=none/\isNil lo=true)∨∃ x,l=some x/\T G lo cx x):=match l with
 | .none=>Ok.dec (isNil lo=true) fun h=>.inl ⟨rfl,h⟩
 | some x=>(f cx x).map fun h=>.inr ⟨x,rfl,h⟩
noncomputable def kE (G:GT) (t:E):∀ (cx:Cx) (e:Expr),Ok (T G t cx e) :=
 E.rec (motive_1:=fun t=>∀ (cx:Cx) (e:Expr),Ok (T G t cx e)) (motive_2:=fun t=>∀ (cx:Cx) (e:Expr),Ok (TSrc G t cx e)) (motive_3:=fun t=>∀ (cx:Cx) (e:List Expr),Ok (Ts G t cx e))
  (fun v _ e=>.on (ct e) fun q=>(litIs q.1.1 v).map fun h=>⟨_,_,_,q.2,h⟩)
  (fun v cx e=>.on (nm e) fun q=>.iff (cx.glob q.1.1=true) fun h=>(conIs q.1.1 v G.con).map fun g=>⟨_,_,q.2,h,g⟩)
  (fun k cx e=>.on (nm e) fun q=>.dec (cx.slot q.1.1=some k/\(q.1.1 == ("__debug__":Str))=false) fun h=>⟨_,_,q.2,h⟩)
  (fun op _ _ f g cx e=>.on (bn e) fun q=>.iff (q.1.2.1=opOf op) fun h=>(f cx q.1.1).and (g cx q.1.2.2.1) fun h1 h2=>⟨_,_,_,h▸q.2,h1,h2⟩)
  (fun _ f cx e=>.on (un e) fun q=>.iff (q.1.1=.Not) fun h=>(f cx q.1.2.1).map fun g=>⟨_,_,h▸q.2,g⟩)
  (fun _ f cx e=>.on (un e) fun q=>.iff (q.1.1=.USub) fun h=>(f cx q.1.2.1).map fun g=>⟨_,_,h▸q.2,g⟩)
  (fun _ f cx e=>.on (bo e) fun q=>.iff (q.1.1=.And) fun h=>(f cx q.1.2.1).map fun g=>⟨_,_,h▸q.2,g⟩)
  (fun _ f cx e=>.on (bo e) fun q=>.iff (q.1.1=.Or) fun h=>(f cx q.1.2.1).map fun g=>⟨_,_,h▸q.2,g⟩)
  (fun op _ _ f g cx e=>.on (cm e) fun q=>.iff (q.1.2.1=[cmOf op]) fun h=>.on (one1 q.1.2.2.1) fun r=>(f cx q.1.1).and (g cx r.1) fun h1 h2=>⟨_,_,_,r.2▸h▸q.2,h1,h2⟩)
  (fun op op' _ _ _ f g k cx e=>.on (cm e) fun q=>.iff (q.1.2.1=[cmOf op,cmOf op']) fun h=>.on (two2 q.1.2.2.1) fun r=>(f cx q.1.1).and ((g cx r.1.1).and (k cx r.1.2) And.intro) fun h1 h2=>⟨_,_,_,_,r.2▸h▸q.2,h1,h2⟩)
  (fun n _ f cx e=>.on (nc e) fun q=>.iff (cx.glob q.1.1=true/\G.fns[n]?=some q.1.1) fun h=>(f cx q.1.2.2.1).map fun g=>⟨_,_,_,_,q.2,h.1,h.2,g⟩)
  (fun n _ f cx e=>.on (nc e) fun q=>.iff (cx.glob q.1.1=true/\G.own[n]?=some q.1.1) fun h=>(f cx q.1.2.2.1).map fun g=>⟨_,_,_,_,q.2,h.1,h.2,g⟩)
  (fun _ m _ f g cx e=>.on (ac e) fun q=>.iff (codes q.1.2.1=m/\plainBase q.1.1=true/\q.1.2.2.1.endLine=q.1.2.2.2.2.line/\q.1.2.2.2.1.length < 29) fun h=>(f cx q.1.1).and (g cx q.1.2.2.2.1) fun h1 h2=>⟨_,_,_,_,_,q.2,h.1,h.2.1,h.2.2.1,h.2.2.2,h1,h2⟩)
  (fun b _ f cx e=>.on (nc e) fun q=>.iff (q.1.1=biName b/\cx.glob (biName b)=true) fun h=>.on (one1 q.1.2.2.1) fun r=>(f cx r.1).map fun g=>⟨_,_,_,r.2▸h.1▸q.2,h.2,g⟩)
  (fun dv _ _ f g cx e=>match dv with
   | true=>.on (kc e) fun q=>.iff (q.1.1="min"/\q.1.2.2.2.1=some "default"/\cx.glob "min"=true) fun h=>(f cx q.1.2.2.1).and (g cx q.1.2.2.2.2.1) fun h1 h2=>⟨_,_,_,_,_,h.2.1▸h.1▸q.2,h.2.2,h1,h2⟩
   | false=>.on (nc e) fun q=>.iff (q.1.1="min"/\cx.glob "min"=true) fun h=>.on (two2 q.1.2.2.1) fun r=>(f cx r.1.1).and (g cx r.1.2) fun h1 h2=>⟨_,_,_,q.1.2.1,_,r.2▸h.1▸q.2,h.2,h1,h2⟩)
  (fun _ t f cx e=>.on (nc e) fun q=>.iff (q.1.1="isinstance"/\cx.glob "isinstance"=true) fun h=>.on (two2 q.1.2.2.1) fun r=>.on (nm r.1.2) fun y=>.iff (y.1.1=tyName t/\cx.glob (tyName t)=true) fun h'=>(f cx r.1.1).map fun g=>⟨_,_,_,_,h'.1▸y.2▸r.2▸h.1▸q.2,h.2,h'.2,g⟩)
  (fun _ m _ f g cx e=>.on (ac e) fun q=>.iff (q.1.2.1=meName m/\plainBase q.1.1=true/\q.1.2.2.1.endLine=q.1.2.2.2.2.line/\q.1.2.2.2.1.length < 29) fun h=>(f cx q.1.1).and (g cx q.1.2.2.2.1) fun h1 h2=>⟨_,_,_,_,h.1▸q.2,h.2.1,h.2.2.1,h.2.2.2,h1,h2⟩)
  (fun _ x f cx e=>.on (at1 e) fun q=>.iff (codes q.1.2.1=x/\q.1.2.1∈G.att/\plainBase q.1.1=true) fun h=>(f cx q.1.1).map fun g=>⟨_,_,_,q.2,h.1,h.2.1,h.2.2,g⟩)
  (fun _ _ f g cx e=>.on (sbs e) fun q=>(f cx q.1.1).and (g cx q.1.2.1) fun h1 h2=>⟨_,_,_,q.2,h1,h2⟩)
  (fun _ lo hi f g k cx e=>.on (sbs e) fun q=>.on (sli q.1.2.1) fun z=>(f cx q.1.1).and ((kPart G lo g cx z.1.1).and (kPart G hi k cx z.1.2.1) And.intro) fun h1 h2=>⟨_,_,_,_,_,z.2▸q.2,h1,h2⟩)
  (fun _ _=>.no)
  (fun _ f cx e=>.on (li e) fun q=>(f cx q.1.1).map fun g=>⟨_,_,q.2,g⟩)
  (fun _ f cx e=>.on (tu e) fun q=>(f cx q.1.1).map fun g=>⟨_,_,_,q.2,g⟩)
  (fun _ e=>.on (dt e) fun q=>(isN q.1.1).and (isN q.1.2.1) fun h1 h2=>⟨_,h1▸h2▸q.2⟩)
  (fun src elt f g cx e=>.on (lc e) fun q=>.iff (q.1.2.2.2.2.1=[]/\plainSrc src=true) fun h=>match hc:cx.inComp q.1.2.1 q.1.2.2.2.2.2.1 with
   | some cx'=>(f cx q.1.2.2.2.1).and (g cx' q.1.1) fun h1 h2=>⟨_,_,_,_,_,_,cx',h.1▸q.2,hc,h.2,h1,h2⟩
   | .none=>.no)
  (fun src elt c f g k cx e=>.on (lc e) fun q=>.on (one1 q.1.2.2.2.2.1) fun r=>.iff (plainSrc src=true) fun h=>match hc:cx.inComp q.1.2.1 q.1.2.2.2.2.2.1 with
   | some cx'=>(f cx q.1.2.2.2.1).and ((g cx' q.1.1).and (k cx' r.1) And.intro) fun h1 h2=>⟨_,_,_,_,_,_,_,cx',r.2▸q.2,hc,h,h1,h2⟩
   | .none=>.no)
  (fun _=>kOf) (fun _=>kOne "range") (fun _=>kOne "enumerate") (fun _=>kOne "reversed") (fun _ _=>kZip) (kNil G) (fun _ _=>kCons) t
noncomputable def kSrc (G:GT) (t:Src):∀ (cx:Cx) (e:Expr),Ok (TSrc G t cx e):=match t with
 | .of t=>kOf (kE G t)
 | .range t=>kOne "range" (kE G t)
 | .enum t=>kOne "enumerate" (kE G t)
 | .rev t=>kOne "reversed" (kE G t)
 | .zip t u=>kZip (kE G t) (kE G u)
noncomputable abbrev AS0t (e:Stmt):Type:={ q:List Expr×Expr×Pos // e=.Assign q.1 q.2.1 q.2.2 }
noncomputable def as0 (e:Stmt):Option (AS0t e):=if h:e.ctorIdx=5 then Stmt.Assign.elim (motive_2:=fun e=>Option (AS0t e)) e h fun a0 a1 a2=>some ⟨(a0,a1,a2),rfl⟩ else .none
noncomputable abbrev FR0t (e:Stmt):Type:={ q:Expr×Expr×List Stmt×List Stmt×Pos // e=.For q.1 q.2.1 q.2.2.1 q.2.2.2.1 q.2.2.2.2 }
noncomputable def fr0 (e:Stmt):Option (FR0t e):=if h:e.ctorIdx=9 then Stmt.For.elim (motive_2:=fun e=>Option (FR0t e)) e h fun a0 a1 a2 a3 a4=>some ⟨(a0,a1,a2,a3,a4),rfl⟩ else .none
noncomputable abbrev EX0t (e:Stmt):Type:={ q:Expr×Pos // e=.Expr q.1 q.2 }
noncomputable def ex0 (e:Stmt):Option (EX0t e):=if h:e.ctorIdx=24 then Stmt.Expr.elim (motive_2:=fun e=>Option (EX0t e)) e h fun a0 a1=>some ⟨(a0,a1),rfl⟩ else .none
noncomputable abbrev RT0t (e:Stmt):Type:={ q:Option Expr×Pos // e=.Return q.1 q.2 }
noncomputable def rt0 (e:Stmt):Option (RT0t e):=if h:e.ctorIdx=3 then Stmt.Return.elim (motive_2:=fun e=>Option (RT0t e)) e h fun a0 a1=>some ⟨(a0,a1),rfl⟩ else .none
noncomputable abbrev IF0t (e:Stmt):Type:={ q:Expr×List Stmt×List Stmt×Pos // e=.If q.1 q.2.1 q.2.2.1 q.2.2.2 }
noncomputable def if0 (e:Stmt):Option (IF0t e):=if h:e.ctorIdx=12 then Stmt.If.elim (motive_2:=fun e=>Option (IF0t e)) e h fun a0 a1 a2 a3=>some ⟨(a0,a1,a2,a3),rfl⟩ else .none
noncomputable abbrev RA0t (e:Stmt):Type:={ q:Option Expr×Option Expr×Pos // e=.Raise q.1 q.2.1 q.2.2 }
noncomputable def ra0 (e:Stmt):Option (RA0t e):=if h:e.ctorIdx=16 then Stmt.Raise.elim (motive_2:=fun e=>Option (RA0t e)) e h fun a0 a1 a2=>some ⟨(a0,a1,a2),rfl⟩ else .none
noncomputable abbrev TY0t (e:Stmt):Type:={ q:List Stmt×List ExceptHandler×List Stmt×List Stmt×Pos // e=.Try q.1 q.2.1 q.2.2.1 q.2.2.2.1 q.2.2.2.2 }
noncomputable def ty0 (e:Stmt):Option (TY0t e):=if h:e.ctorIdx=17 then Stmt.Try.elim (motive_2:=fun e=>Option (TY0t e)) e h fun a0 a1 a2 a3 a4=>some ⟨(a0,a1,a2,a3,a4),rfl⟩ else .none
noncomputable def asg (s:Stmt):Option { q:Expr×Expr×Pos // s=.Assign [q.1] q.2.1 q.2.2 }:=(as0 s).bind fun q=>(one1 q.1.1).map fun x=>⟨(x.1,q.1.2.1,q.1.2.2),x.2▸q.2⟩
noncomputable def frs (s:Stmt):Option { q:Expr×Expr×List Stmt×Pos // s=.For q.1 q.2.1 q.2.2.1 [] q.2.2.2 }:=(fr0 s).bind fun q=>(em0 q.1.2.2.2.1).map fun k=>⟨(q.1.1,q.1.2.1,q.1.2.2.1,q.1.2.2.2.2),q.2.trans (congrArg (fun z=>Stmt.For q.1.1 q.1.2.1 q.1.2.2.1 z q.1.2.2.2.2) k.2)⟩
noncomputable def rts (s:Stmt):Option { q:Expr×Pos // s=.Return (some q.1) q.2 }:=(rt0 s).bind fun q=>(smo q.1.1).map fun x=>⟨(x.1,q.1.2),x.2▸q.2⟩
noncomputable def sct (e:Expr):Option { q:Str×Nat×Pos // e=.Constant (.str q.1) q.2.1 q.2.2 }:=(ct e).bind fun q=>match h:q.1.1 with
 | .str m=>some ⟨(m,q.1.2),h▸q.2⟩
 | _=>.none
noncomputable def rai (s:Stmt):Option { q:Str×Pos×Str×Nat×Pos×Pos×Pos // s=.Raise (some (.Call (.Name q.1 q.2.1) [.Constant (.str q.2.2.1) q.2.2.2.1 q.2.2.2.2.1] [] q.2.2.2.2.2.1)) none q.2.2.2.2.2.2 } :=
 (ra0 s).bind fun q=>(smo q.1.1).bind fun x=>(emo q.1.2.1).bind fun k=>(nc x.1).bind fun c=>(one1 c.1.2.2.1).bind fun a=>(sct a.1).map fun m=>⟨(c.1.1,c.1.2.1,m.1.1,m.1.2.1,m.1.2.2,c.1.2.2.2,q.1.2.2),m.2▸a.2▸c.2▸k.2▸x.2▸q.2⟩
theorem eh {t t':Option Expr}{n n':Option Str}{b b':List Stmt}{p:Pos} (h1:t=t') (h2:n=n') (h3:b=b'):ExceptHandler.ExceptHandler t n b p=.ExceptHandler t' n' b' p:=by cases h1;cases h2;cases h3;rfl
noncomputable def hnd (h:ExceptHandler):Option { q:Str×Pos×Expr×Pos×Pos // h=.ExceptHandler (some (.Name q.1 q.2.1)) none [.Return (some q.2.2.1) q.2.2.2.1] q.2.2.2.2 }:=match h with
 | .ExceptHandler t n b p=>(smo t).bind fun t=>(nm t.1).bind fun x=>(emo n).bind fun k=>(one1 b).bind fun b=>(rts b.1).map fun r=>⟨(x.1.1,x.1.2,r.1.1,r.1.2,p),eh (t.2.trans (congrArg some x.2)) k.2 (b.2.trans (congrArg (fun z=>[z]) r.2))⟩
theorem ty4 {b:List Stmt}{hs hs':List ExceptHandler}{o o' f f':List Stmt}{p:Pos} (h1:hs=hs') (h2:o=o') (h3:f=f'):Stmt.Try b hs o f p=.Try b hs' o' f' p:=by cases h1;cases h2;cases h3;rfl
noncomputable def trs (s:Stmt):Option { q:List Stmt×Str×Pos×Expr×Pos×Pos×Pos // s=.Try q.1 [.ExceptHandler (some (.Name q.2.1 q.2.2.1)) none [.Return (some q.2.2.2.1) q.2.2.2.2.1] q.2.2.2.2.2.1] [] [] q.2.2.2.2.2.2 } :=
 (ty0 s).bind fun q=>(one1 q.1.2.1).bind fun h=>(hnd h.1).bind fun x=>(em0 q.1.2.2.1).bind fun k=>(em0 q.1.2.2.2.1).map fun k'=>⟨(q.1.1,x.1.1,x.1.2.1,x.1.2.2.1,x.1.2.2.2.1,x.1.2.2.2.2,q.1.2.2.2.2),q.2.trans (ty4 (h.2.trans (congrArg (fun z=>[z]) x.2)) k.2 k'.2)⟩
noncomputable def kSNil (G:GT) (cx:Cx) (xs:List Stmt):Ok (TSs G [] cx xs):=isN xs
noncomputable def kSCons {G:GT}{t:S}{ts:List S} (f:∀ cx s,Ok (TS G t cx s)) (g:∀ cx xs,Ok (TSs G ts cx xs)) (cx:Cx) (xs:List Stmt):Ok (TSs G (t::ts) cx xs):=match xs with
 | x::r=>(f cx x).and (g cx r) fun h1 h2=>⟨x,r,rfl,h1,h2⟩
 | []=>.no
noncomputable def kS (G:GT) (t:S):∀ (cx:Cx) (s:Stmt),Ok (TS G t cx s) :=
 S.rec (motive_1:=fun t=>∀ (cx:Cx) (s:Stmt),Ok (TS G t cx s)) (motive_2:=fun t=>∀ (cx:Cx) (s:List Stmt),Ok (TSs G t cx s))
  (fun k t cx st=>.on (asg st) fun q=>.on (nm q.1.1) fun x=>.iff (cx.slot x.1.1=some k) fun h=>(kE G t cx q.1.2.1).map fun g=>⟨_,_,_,_,x.2▸q.2,h,g⟩)
  (fun a x t cx st=>.on (asg st) fun q=>.on (at1 q.1.1) fun z=>.iff (codes z.1.2.1=x/\z.1.2.1∈G.att/\z.1.2.1.length<=4096/\isComp t=false) fun h=>(kE G a cx z.1.1).and (kE G t cx q.1.2.1) fun h1 h2=>⟨_,_,_,_,_,z.2▸q.2,h.1,h.2.1,h.2.2.1,h1,h2,h.2.2.2⟩)
  (fun a i t cx st=>.on (asg st) fun q=>.on (sbs q.1.1) fun z=>.iff (isComp t=false) fun h=>(kE G a cx z.1.1).and ((kE G i cx z.1.2.1).and (kE G t cx q.1.2.1) And.intro) fun h1 h2=>⟨_,_,_,_,_,z.2▸q.2,h1,h2.1,h2.2,h⟩)
  (fun t cx st=>.on (ex0 st) fun q=>.iff (exprOk t=true) fun h=>(kE G t cx q.1.1).map fun g=>⟨_,_,q.2,h,g⟩)
  (fun t cx st=>.on (rts st) fun q=>(kE G t cx q.1.1).map fun g=>⟨_,_,q.2,g⟩)
  (fun c _ _ f g cx st=>.on (if0 st) fun q=>(kE G c cx q.1.1).and ((f cx q.1.2.1).and (g cx q.1.2.2.1) And.intro) fun h1 h2=>⟨_,_,_,_,q.2,h1,h2⟩)
  (fun k src _ f cx st=>.on (frs st) fun q=>.on (nm q.1.1) fun x=>.iff (cx.slot x.1.1=some k/\plainSrc src=true) fun h=>(kSrc G src cx q.1.2.1).and (f cx q.1.2.2.1) fun h1 h2=>⟨_,_,_,_,_,x.2▸q.2,h.1,h.2,h1,h2⟩)
  (fun k k' src _ f cx st=>.on (frs st) fun q=>.on (tp2 q.1.1) fun x=>.iff (cx.slot x.1.1=some k/\cx.slot x.1.2.2.1=some k') fun h=>(kSrc G src cx q.1.2.1).and (f cx q.1.2.2.1) fun h1 h2=>⟨_,_,_,_,_,_,_,_,_,x.2▸q.2,h.1,h.2,h1,h2⟩)
  (fun c cx st=>.on (rai st) fun q=>.dec (cx.glob q.1.1=true/\G.cls[c]?=some q.1.1/\(codes q.1.2.2.1).length<=4096) fun h=>⟨_,_,_,_,_,_,_,q.2,h⟩)
  (fun _ c k v f cx st=>.on (trs st) fun q=>.iff (cx.glob q.1.2.1=true/\G.cls[c]?=some q.1.2.1) fun h=>(f cx q.1.1).and (kE G (backE k v) cx q.1.2.2.2.1) fun h1 h2=>⟨_,_,_,_,_,_,_,q.2,h1,h.1,h.2,h2⟩)
  (fun _ _=>⟨true,fun _=>trivial⟩)
  (kSNil G) (fun _ _=>kSCons) t
noncomputable def kSs (G:GT) (ts:List S):∀ (cx:Cx) (xs:List Stmt),Ok (TSs G ts cx xs) :=
 List.rec (motive:=fun t=>∀ (cx:Cx) (s:List Stmt),Ok (TSs G t cx s)) (kSNil G) (fun t _ f=>kSCons (kS G t) f) ts
noncomputable def kFn (G:GT) (fn:Fn) (a:Arguments) (body:List Stmt) (sc:Scope):Ok (TFn G fn a body sc) :=
 .iff (((slotsOf sc.names 0).map (·.1)).take a.args.length=a.args.map (·.arg)/\(sc.names.map (·.1)).Nodup/\sc.kind=.function/\sc.isGenerator=false/\sc.isCoroutine=false/\fn.nargs=a.args.length/\fn.n=(slotsOf sc.names 0).length) fun h =>
  (kSs G fn.body ⟨sc.names,slotsOf sc.names 0,(slotsOf sc.names 0).length⟩ body).map fun g=>⟨h.1,h.2.1,h.2.2.1,h.2.2.2.1,h.2.2.2.2.1,g,h.2.2.2.2.2⟩
end Mine
namespace Mine
open PySem
structure W where
 prog:Program
 w:World
 h₀:Heap
 scr:Addr
 ns:List Int
 ca:Nat->Addr
 co:Nat->Addr
 fa:Nat->Addr
 K:PySem.W.Frag
 bad:Addr->Prop
noncomputable def IsX (cls:Value) (o:Obj):Prop:=o.cls=cls/\o.dict=none
variable (X:W)
mutual
inductive VR (h:Heap) (μ:List Addr):V->Value->Prop
 | none:VR h μ .none .none
 | bool (b:Bool):VR h μ (.bool b) (.bool b)
 | int (i:Int) (t:Tok):VR h μ (.int i) (.int i t)
 | str (x:Str) (t:Tok):x.length<=lim->VR h μ (.str (codes x)) (.str x t)
 | ref {i:Nat}{a:Addr}:μ[i]?=some a->VR h μ (.ref i) (.ref a)
 | tup {vs:List V}{a:Addr}{l:List Value}{n:Nat}:h.get? a=some { cls:=.type "tuple",data:=.seq l.toArray n }->¬ X.bad a->l.length<=lim->VRs h μ vs l->VR h μ (.tup vs) (.ref a)
 | inst {c d:Nat}{a δ:Addr}{sl:Array (Option Value)}:h.get? a=some ⟨.ref (X.co c),some δ,.plain,sl⟩->μ[d]?=some δ->VR h μ (.inst c d) (.ref a)
 | scr:VR h μ .scr (.ref X.scr)
inductive VRs (h:Heap) (μ:List Addr):List V->List Value->Prop
 | nil:VRs h μ [] []
 | cons {v:V}{vs:List V}{u:Value}{us:List Value}:VR h μ v u->VRs h μ vs us->VRs h μ (v::vs) (u::us)
end
structure ERs (h:Heap) (μ:List Addr) (kvs:List (List Nat×V)) (l:List (Str×Value)):Prop where
 keys:kvs.map (·.1)=l.map fun p=>codes p.1
 lim:∀ p∈l,p.1.length<=lim
 vals:VRs X h μ (kvs.map (·.2)) (l.map (·.2))
inductive OR (h:Heap) (μ:List Addr) (a:Addr):O->Prop
 | list {xs:List V}{l:List Value}{n:Nat}:h.get? a=some { cls:=.type "list",data:=.seq l.toArray n }->l.length<=lim->VRs X h μ xs l->OR h μ a (.list xs)
 | dict {kvs:List (List Nat×V)}{l:List (Str×Value)}:h.DictOf (strKind X.prog X.w) a l->l.length<=lim->ERs X h μ kvs l->OR h μ a (.dict kvs)
structure HR (μ:List Addr) (σ:H) (h:Heap):Prop where
 len:μ.length=σ.length
 nodup:μ.Nodup
 fresh:∀ a∈μ,X.h₀.objs.size<=a
 obj:∀ (i:Nat) (o:O) (a:Addr),σ[i]?=some o->μ[i]?=some a->OR X h μ a o
noncomputable def Solid (a:Addr) (o:Obj):Prop:=(o.cls=.type "tuple"∨∃ c,o.cls=.ref c)/\(∀ es n,o.data≠.dict es n)/\(∀ u,o.data≠.cell u)/\(o.cls=.type "tuple"->¬ X.bad a)
theorem Solid.offList {X:W}{a:Addr}{o:Obj} (h:Solid X a o) (hc:o.cls=.type "list"∨o.cls=.type "dict"):False:=by
 rcases h.1 with h | ⟨c,h⟩ <;> rcases hc with q | q <;> rw [h] at q <;> simp at q
noncomputable def Keep (μ:List Addr) (h h':Heap):Prop :=
 ∀ b o,b∉μ->h.get? b=some o->∃ sl,h'.get? b=some { o with slots:=sl }/\((∀ es n,o.data≠.dict es n)->sl=o.slots)
structure Base (h:Heap):Prop where
 keep:∀ b o,X.h₀.get? b=some o->h.get? b=some o
 size:X.h₀.objs.size<=h.objs.size
 low:sysModules < X.h₀.objs.size
noncomputable def FF (h:Heap) (μ:List Addr):List zt->Prop
 | []=>True
 | env::r=>(env.scope.kind≠.module/\∃ L o es n,env.frame=some L/\X.h₀.get? L=none/\L∉μ/\h.get? L=some o/\o.data=.dict es n)/\FF h μ r
structure Step (s:Shared) (μ:List Addr) (s':Shared) (μ':List Addr) (σ':H):Prop where
 hr:HR X μ' σ' s'.heap
 keep:Keep μ s.heap s'.heap
 base:Base X s'.heap
 size:s.heap.objs.size<=s'.heap.objs.size
 ext:∃ ν,μ'=μ++ν/\∀ a∈ν,s.heap.objs.size<=a
 gens:s'.gens=s.gens
 os:s'.os=s.os
section
variable {X}
theorem HR.cls {μ:List Addr}{σ:H}{h:Heap} (R:HR X μ σ h) {a:Addr} (ha:a∈μ):∃ o,h.get? a=some o/\(o.cls=.type "list"∨o.cls=.type "dict"):=by
 obtain ⟨i,hi,e⟩:=List.getElem_of_mem ha
 have h1:μ[i]?=some a:=by exact gw (zf hi ..) (gw e rfl)
 have hi':i < σ.length:=R.len▸hi
 have h2:σ[i]?=some σ[i]:=zf hi'
 cases hO:σ[i] with
 | list xs =>
  replace h2:=hO▸h2
  cases R.obj i _ a h2 h1 with
  | list e _ _=>exact ⟨_,e,.inl rfl⟩
 | dict kvs =>
  replace h2:=hO▸h2
  cases R.obj i _ a h2 h1 with
  | dict e _ _=>obtain ⟨o,_,_,e,c,_⟩:=e;exact ⟨o,e,.inr c.1⟩
theorem HR.lt {μ:List Addr}{σ:H}{h:Heap} (R:HR X μ σ h) {a:Addr} (ha:a∈μ):a < h.objs.size:=let ⟨_,e,_⟩:=R.cls ha;yb e
noncomputable def LikeO (o o':Obj):Prop:=o'=o∨∃ fs fs',o.data=.fields fs/\o'.data=.fields fs'/\o'.cls=o.cls/\o'.dict=o.dict
theorem LikeO.trans {a b c:Obj} (x:LikeO a b) (y:LikeO b c):LikeO a c:=by
 rcases x with rfl | ⟨f,f',h1,h2,h3⟩
 ·exact y
 ·rcases y with rfl | ⟨g,g',k1,k2,k3⟩
  ·exact .inr ⟨f,f',h1,h2,h3⟩
  ·exact .inr ⟨f,g',h1,k2,k3.1.trans h3.1,k3.2.trans h3.2⟩
theorem VR.like {h h':Heap}{μ μ':List Addr} (hk:∀ a o,h.get? a=some o->Solid X a o->∃ o',h'.get? a=some o'/\LikeO o o') (hμ:∀ (i:Nat) (a:Addr),μ[i]?=some a->μ'[i]?=some a) {v:V}{u:Value} (r:VR X h μ v u):VR X h' μ' v u :=
 VR.rec (motive_1:=fun v u _=>VR X h' μ' v u) (motive_2:=fun v u _=>VRs X h' μ' v u) .none .bool .int .str (fun e=>.ref (hμ _ _ e)) (fun e b z _ r=>by
   obtain ⟨o',e',l⟩:=hk _ _ e ⟨.inl rfl,(fun _ _ q=>nomatch q),(fun _ q=>nomatch q),fun _=>b⟩
   rcases l with rfl | ⟨_,_,q,_⟩
   ·exact .tup e' b z r
   ·cases q) (fun e m=>by
   obtain ⟨o',e',l⟩:=hk _ _ e ⟨.inr ⟨_,rfl⟩,(fun _ _ q=>nomatch q),(fun _ q=>nomatch q),(fun q=>nomatch q)⟩
   rcases l with rfl | ⟨_,_,q,_⟩
   ·exact .inst e' (hμ _ _ m)
   ·cases q) .scr .nil (fun _ _ x y=>.cons x y) r
theorem VRs.each {X':W}{h h':Heap}{μ μ':List Addr} (f:∀ {v:V}{u:Value},VR X h μ v u->VR X' h' μ' v u) {v:List V}{u:List Value} (r:VRs X h μ v u):VRs X' h' μ' v u :=
 VRs.rec (motive_1:=fun _ _ _=>True) (motive_2:=fun v u _=>VRs X' h' μ' v u) trivial (fun _=>trivial) (fun _ _=>trivial) (fun _ _ _=>trivial) (fun _=>trivial) (fun _ _ _ _ _=>trivial) (fun _ _=>trivial) trivial .nil (fun x _ _ y=>.cons (f x) y) r
theorem VR.mono {h h':Heap}{μ μ':List Addr} (hk:∀ a o,h.get? a=some o->Solid X a o->h'.get? a=some o) (hμ:∀ (i:Nat) (a:Addr),μ[i]?=some a->μ'[i]?=some a) {v:V}{u:Value} (r:VR X h μ v u):VR X h' μ' v u :=
 r.like (fun a o e s=>⟨o,hk a o e s,.inl rfl⟩) hμ
theorem VRs.mono {h h':Heap}{μ μ':List Addr} (hk:∀ a o,h.get? a=some o->Solid X a o->h'.get? a=some o) (hμ:∀ (i:Nat) (a:Addr),μ[i]?=some a->μ'[i]?=some a) {v:List V}{u:List Value} (r:VRs X h μ v u):VRs X h' μ' v u :=
 r.each fun x=>x.mono hk hμ
theorem ERs.like {h h':Heap}{μ μ':List Addr}{v:List (List Nat×V)}{u:List (Str×Value)} (r:ERs X h μ v u) (hv:∀ {v:List V}{u:List Value},VRs X h μ v u->VRs X h' μ' v u):ERs X h' μ' v u:=⟨r.keys,r.lim,hv r.vals⟩
theorem OR.mono {h h':Heap}{μ μ':List Addr} (hk:∀ a o,h.get? a=some o->Solid X a o->h'.get? a=some o) (hμ:∀ (i:Nat) (a:Addr),μ[i]?=some a->μ'[i]?=some a)
  {a:Addr}{o:O} (ha:∀ x,h.get? a=some x->h'.get? a=some x) (r:OR X h μ a o):OR X h' μ' a o:=by
 cases r with
 | list e z r=>exact .list (ha _ e) z (r.mono hk hμ)
 | dict e z r=>obtain ⟨o,es,ep,e,q⟩:=e;exact .dict ⟨o,es,ep,ha _ e,q⟩ z (r.like fun x=>x.mono hk hμ)
theorem ext_get {μ ν:List Addr}:∀ (i:Nat) (a:Addr),μ[i]?=some a->(μ++ν)[i]?=some a:=fun i a e=>by
 have:=(zc.mp e).1
 refine gw (y7 this ..) ?_;exact e
theorem Keep.of_all {μ:List Addr}{h h':Heap} (k:∀ b o,b∉μ->h.get? b=some o->h'.get? b=some o):Keep μ h h':=fun b o hb e=>⟨o.slots,k b o hb e,fun _=>rfl⟩
theorem Keep.refl (μ:List Addr) (h:Heap):Keep μ h h:=.of_all fun _ _ _ e=>e
theorem Keep.trans {μ μ':List Addr}{h₁ h₂ h₃:Heap} (x:Keep μ h₁ h₂) (y:Keep μ' h₂ h₃) (hm:∀ b o,h₁.get? b=some o->b∉μ->b∉μ'):Keep μ h₁ h₃:=fun b o hb e=>by
 obtain ⟨sl,e1,q1⟩:=x b o hb e
 obtain ⟨sl',e2,q2⟩:=y b _ (hm b o e hb) e1
 exact ⟨sl',e2,fun hd=>(q2 hd).trans (q1 hd)⟩
theorem Keep.at {μ:List Addr}{h h':Heap} (x:Keep μ h h') {b:Addr}{o:Obj} (hb:b∉μ) (e:h.get? b=some o) (hd:∀ es n,o.data≠.dict es n):h'.get? b=some o:=by
 obtain ⟨sl,e1,q⟩:=x b o hb e
 replace e1:=(q hd ..)▸e1;exact e1
theorem Keep.ns {μ:List Addr}{h h':Heap} (x:Keep μ h h') {b:Addr}{m:Str->Option Value} (hb:b∉μ) (n:h.Ns b m):h'.Ns b m:=by
 refine ex3 (n) fun o es ep q_h=>?_;refine an3 q_h fun e hd r=>?_
 obtain ⟨sl,e1,_⟩:=x b o hb e
 exact ⟨_,es,ep,e1,hd,r⟩
theorem Keep.cell {μ:List Addr}{h h':Heap} (x:Keep μ h h') {b:Addr}{u:Option Value} (hb:b∉μ) (n:h.IsCell b u):h'.IsCell b u:=by
 obtain ⟨o,e,hd⟩:=n
 exact ⟨o,x.at hb e (by refine gw hd ?_;intro _ _ q;cases q),hd⟩
theorem Step.refl {s:Shared}{μ:List Addr}{σ:H} (R:HR X μ σ s.heap) (B:Base X s.heap):Step X s μ s μ σ :=
 ⟨R,.refl _ _,B,ze _,⟨[],by simp,fun _ h=>nomatch h⟩,rfl,rfl⟩
theorem Step.toks {s s':Shared}{μ μ':List Addr}{σ':H} (S:Step X s μ s' μ' σ') (t:Nat):Step X s μ { s' with toks:=t } μ' σ':=⟨S.hr,S.keep,S.base,S.size,S.ext,S.gens,S.os⟩
theorem Step.trans {s s' s'':Shared}{μ μ' μ'':List Addr}{σ' σ'':H} (S:Step X s μ s' μ' σ') (S':Step X s' μ' s'' μ'' σ''):Step X s μ s'' μ'' σ'':=by
 obtain ⟨ν,rfl,hν⟩:=S.ext
 obtain ⟨ν',rfl,hν'⟩:=S'.ext
 refine ⟨S'.hr,S.keep.trans S'.keep fun b o e hb hm=>?_,S'.base,za S.size S'.size,⟨ν++ν',by exact gw (zk ..) rfl,fun a ha=>?_⟩,S'.gens.trans S.gens,S'.os.trans S.os⟩
 ·rcases z5.mp hm with h1 | h1
  ·exact hb h1
  ·exact absurd (yb e) (yc.mpr (hν b h1))
 ·rcases z5.mp ha with h1 | h1
  ·exact hν a h1
  ·exact za S.size (hν' a h1)
theorem Step.pers {s s':Shared}{μ μ':List Addr}{σ':H} (S:Step X s μ s' μ' σ'):∀ b,s'.heap.get? b=none->s.heap.get? b=none:=fun b hb=>by
 cases e:s.heap.get? b with
 | none=>rfl
 | some o =>
  by_cases hm:b∈μ
  ·obtain ⟨ν,rfl,_⟩:=S.ext
   obtain ⟨o',e',_⟩:=S.hr.cls (wk _ hm)
   replace e':=hb▸e';cases e'
  ·obtain ⟨sl,e',_⟩:=S.keep b o hm e
   replace e':=hb▸e';cases e'
theorem Step.notIn {s s':Shared}{μ μ':List Addr}{σ':H} (S:Step X s μ s' μ' σ') {b:Addr} (hb:b∉μ) (hl:b < s.heap.objs.size):b∉μ':=by
 obtain ⟨ν,rfl,hν⟩:=S.ext
 intro hm
 rcases z5.mp hm with h1 | h1
 ·exact hb h1
 ·exact absurd hl (yc.mpr (hν b h1))
theorem HR.offC {μ:List Addr}{σ:H}{h:Heap} (R:HR X μ σ h) {a:Addr}{o:Obj} (e:h.get? a=some o) (h1:o.cls≠.type "list") (h2:o.cls≠.type "dict"):a∉μ:=fun hm=>by
 obtain ⟨o',e',hc⟩:=R.cls hm
 replace e':=e▸e';cases e'
 rcases hc with hc | hc
 ·exact h1 hc
 ·exact h2 hc
theorem Step.keepC {s s':Shared}{μ μ':List Addr}{σ σ':H} (S:Step X s μ s' μ' σ') (R:HR X μ σ s.heap) :
  ∀ a o,s.heap.get? a=some o->Solid X a o->s'.heap.get? a=some o:=fun a o e hS=>S.keep.at (fun hm=>by
   obtain ⟨o',e',hc⟩:=R.cls hm
   replace e':=e▸e';cases e'
   exact hS.offList hc) e hS.2.1
theorem FF.fun {h:Heap}{μ:List Addr}:∀ {l:List zt},FF X h μ l->h.FunFrames X.h₀ l
 | [],_=>trivial
 | _::_,h=>by
  obtain ⟨⟨a,L,o,es,n,e1,e2,_,e4,e5⟩,r⟩:=h
  exact ⟨a,⟨L,o,e1,e2,e4,by refine gw e5 ?_;intro _ q;cases q⟩,FF.fun r⟩
theorem Step.ff {s s':Shared}{μ μ':List Addr}{σ':H} (S:Step X s μ s' μ' σ'):∀ {l:List zt},FF X s.heap μ l->FF X s'.heap μ' l
 | [],_=>trivial
 | _::_,h=>by
  obtain ⟨⟨a,L,o,es,n,e1,e2,e3,e4,e5⟩,r⟩:=h
  obtain ⟨sl,q,_⟩:=S.keep L o e3 e4
  exact ⟨⟨a,L,_,es,n,e1,e2,S.notIn e3 (yb e4),q,e5⟩,S.ff r⟩
theorem Step.get {s s':Shared}{μ μ':List Addr}{σ':H} (S:Step X s μ s' μ' σ'):∀ (i:Nat) (a:Addr),μ[i]?=some a->μ'[i]?=some a:=by
 obtain ⟨ν,rfl,_⟩:=S.ext
 exact ext_get
theorem Step.vr {s s':Shared}{μ μ':List Addr}{σ σ':H} (S:Step X s μ s' μ' σ') (R:HR X μ σ s.heap) {v:V}{u:Value} (r:VR X s.heap μ v u):VR X s'.heap μ' v u:=r.mono (S.keepC R) S.get
theorem Step.vrs {s s':Shared}{μ μ':List Addr}{σ σ':H} (S:Step X s μ s' μ' σ') (R:HR X μ σ s.heap) {v:List V}{u:List Value} (r:VRs X s.heap μ v u):VRs X s'.heap μ' v u:=r.mono (S.keepC R) S.get
theorem HR.push {μ:List Addr}{σ:H}{h:Heap} (R:HR X μ σ h) (o:Obj):HR X μ σ (h.push o) :=
 ⟨R.len,R.nodup,R.fresh,fun i x a e1 e2=>(R.obj i x a e1 e2).mono (fun _ _ e _=>zz _ e) (fun _ _ e=>e) fun _ e=>zz _ e⟩
theorem HR.keeps {μ:List Addr}{σ:H}{h h':Heap} (R:HR X μ σ h) (k:∀ b o,h.get? b=some o->h'.get? b=some o):HR X μ σ h' :=
 ⟨R.len,R.nodup,R.fresh,fun i x a e1 e2=>(R.obj i x a e1 e2).mono (fun _ _ e _=>k _ _ e) (fun _ _ e=>e) fun _ e=>k _ _ e⟩
theorem HR.alloc {μ:List Addr}{σ:H}{h:Heap} (R:HR X μ σ h) {a:Addr}{o:O} (ha:a∉μ) (hf:X.h₀.objs.size<=a) (r:OR X h (μ++[a]) a o):HR X (μ++[a]) (σ++[o]) h where
 len:=by refine gw (zd ..) (gw (zd ..) (gw (R.len ..) ?_));rfl
 nodup:=vk.mpr ⟨R.nodup,by simp,fun x hx y hy e=>ha (by replace e:=(zg.mp hy ..)▸e;exact e▸hx)⟩
 fresh:=fun b hb=>by
  rcases z5.mp hb with h1 | h1
  ·exact R.fresh b h1
  ·refine gw (zg.mp h1 ..) ?_;exact hf
 obj:=fun i x b e1 e2=>by
  by_cases hi:i < σ.length
  ·replace e1:=(y7 hi ..)▸e1
   replace e2:=(y7 (R.len▸hi) ..)▸e2
   exact (R.obj i x b e1 e2).mono (fun _ _ e _=>e) ext_get fun _ e=>e
  ·have hi':σ.length<=i:=uj hi
   replace e1:=(zw hi' ..)▸e1
   replace e2:=(R.len ..)▸(zw (R.len▸hi') ..)▸e2
   cases hk:i - σ.length with
   | zero =>
    rw [hk] at e1 e2
    cases e1;cases e2;exact r
   | succ k=>replace e1:=hk▸e1;cases e1
theorem getElem?_nodup {μ:List Addr} (hn:μ.Nodup) {i j:Nat}{a:Addr} (h1:μ[i]?=some a) (h2:μ[j]?=some a):i=j:=by
 obtain ⟨hi,e1⟩:=zc.mp h1
 obtain ⟨hj,e2⟩:=zc.mp h2
 have hp:=kr.mp hn
 rcases Nat.lt_trichotomy i j with q | q | q
 ·exact absurd (e1.trans e2.symm) (hp i j hi hj q)
 ·exact q
 ·exact absurd (e2.trans e1.symm) (hp j i hj hi q)
theorem HR.put {μ:List Addr}{σ:H}{h h':Heap} (R:HR X μ σ h) {i:Nat}{a:Addr}{o:O} (hi:μ[i]?=some a) (hs:Heap.SameBut a h h') (r:OR X h' μ a o):HR X μ (σ.set i o) h' where
 len:=by exact gw (f0 ..) (gw (R.len ..) rfl)
 nodup:=R.nodup
 fresh:=R.fresh
 obj:=fun j x b e1 e2=>by
  by_cases hj:i=j
  ·subst hj
   replace e2:=hi▸e2;cases e2
   have hl:i < σ.length:=R.len▸(zc.mp hi).1
   replace e1:=(jk hl ..)▸e1
   cases e1;exact r
  ·replace e1:=(jy hj ..)▸e1
   have hb:b≠a:=fun e=>hj (getElem?_nodup R.nodup hi (e▸e2))
   obtain ⟨o',e',hc⟩:=R.cls (yr hi)
   refine (R.obj j x b e1 e2).mono (fun c y e hS=>?_) (fun _ _ e=>e) fun y e=>(hs.2 b hb).trans e
   refine (hs.2 c fun q=>?_).trans e
   subst q
   replace e':=e▸e';cases e'
   exact (hS.offList hc).elim
end
end Mine
namespace Mine
open PySem PyProof.Rows
theorem dict_mapFields (o:Obj) (f:Array Value->Array Value):(o.mapFields f).dict=o.dict:=by
 obtain ⟨c,d,data,sl⟩:=o
 cases data <;> rfl
theorem IsX.map {cls:Value}{o:Obj} (h:IsX cls o) (f:Array Value->Array Value):IsX cls (o.mapFields f):=⟨(Obj.cls_mapFields _ _).trans h.1,(dict_mapFields _ _).trans h.2⟩
structure Eff (g:Heap) (fr:List Addr) (h h':Heap):Prop where
 size:h.objs.size<=h'.objs.size
 old:∀ b o x,g.get? b=some x->b∉fr->h.get? b=some o->h'.get? b=some o
 like:∀ b o,b∉fr->h.get? b=some o->∃ o',h'.get? b=some o'/\LikeO o o'
 fram:∀ b o,b∈fr->h.get? b=some o->∃ sl,h'.get? b=some { o with slots:=sl }
theorem Eff.refl (g:Heap) (fr:List Addr) (h:Heap):Eff g fr h h:=⟨ze _,fun _ _ _ _ _ e=>e,fun _ o _ e=>⟨o,e,.inl rfl⟩,fun _ o _ e=>⟨o.slots,e⟩⟩
theorem Eff.trans {g:Heap}{fr:List Addr}{h₁ h₂ h₃:Heap} (x:Eff g fr h₁ h₂) (y:Eff g fr h₂ h₃):Eff g fr h₁ h₃ where
 size:=za x.size y.size
 old:=fun b o x' hb hf e=>y.old b o x' hb hf (x.old b o x' hb hf e)
 like:=fun b o hf e=>by
  obtain ⟨o',e1,l1⟩:=x.like b o hf e
  obtain ⟨o'',e2,l2⟩:=y.like b o' hf e1
  exact ⟨o'',e2,l1.trans l2⟩
 fram:=fun b o hf e=>by
  obtain ⟨sl,e1⟩:=x.fram b o hf e
  obtain ⟨sl',e2⟩:=y.fram b _ hf e1
  exact ⟨sl',e2⟩
theorem Eff.field {g:Heap}{fr:List Addr}{h:Heap}{a:Addr}{o:Obj}{vs:Array Value} (e:h.get? a=some o) (hd:o.data=.fields vs) (ha:g.get? a=none) (hf:a∉fr) (f:Array Value->Array Value):Eff g fr h (h.update a (Obj.mapFields f)) where
 size:=by rw [Heap.size_after_update];exact ze _
 old:=fun b x y hb _ eb=>by rw [xa _ _ (fun (q:a=b)=>by rw [← q,ha] at hb;cases hb)];exact eb
 like:=fun b x _ eb=>by
  by_cases hba:a=b
  ·subst hba
   replace eb:=e▸eb;cases eb
   exact ⟨_,wu _ e (Obj.isFreed_of_fields (Obj.data_mapFields hd f)),.inr ⟨vs,_,hd,Obj.data_mapFields hd f,Obj.cls_mapFields _ _,dict_mapFields _ _⟩⟩
  ·exact ⟨x,by refine gw (xa _ _ hba ..) ?_;exact eb,.inl rfl⟩
 fram:=fun b x hb eb=>⟨x.slots,by rw [xa _ _ (fun (q:a=b)=>hf (by rw [q];exact hb))];exact eb⟩
theorem Eff.push {g:Heap}{fr:List Addr}{h:Heap} (o:Obj):Eff g fr h (h.push o) :=
 ⟨by refine gw (wf ..) ?_;exact yh _,fun _ _ _ _ _ e=>zz _ e,fun _ x _ e=>⟨x,zz _ e,.inl rfl⟩,fun _ x _ e=>⟨x.slots,zz _ e⟩⟩
theorem Eff.slots {g:Heap}{fr:List Addr}{h h':Heap} (x:Heap.SlotsOnly fr h h'):Eff g fr h h' :=
 ⟨ya x.1.symm,fun b o _ _ hf e=>(x.2.1 b hf).trans e,fun b o hf e=>⟨o,(x.2.1 b hf).trans e,.inl rfl⟩,fun b o _ e=>x.2.2 b o e⟩
structure Fly (g:Heap) (cls:Value) (e:Addr) (fl:Option Value) (h:Heap):Prop where
 new:g.get? e=none
 obj:∃ oe vs a0,h.get? e=some oe/\IsX cls oe/\oe.data=.fields vs/\vs[0]?=some a0/\match fl with
  | none=>vs[1]?=some Value.none
  | some v=>∃ T oT ts,vs[1]?=some (.ref T)/\g.get? T=none/\T≠e/\h.get? T=some oT/\oT.data=.fields ts/\ts[3]?=some v
theorem Fly.le {g g':Heap}{cls:Value}{e:Addr}{fl:Option Value}{h:Heap} (x:Fly g cls e fl h) (l:∀ b,g.get? b=none->g'.get? b=none):Fly g' cls e fl h:=by
 obtain ⟨a,oe,vs,a0,h1,h2,h3,h4,h5⟩:=x
 refine ⟨l _ a,oe,vs,a0,h1,h2,h3,h4,?_⟩
 cases fl with
 | none=>exact h5
 | some v =>
  refine ex3 (h5) fun T oT ts q_h=>?_;refine an3 q_h fun k1 k2 r=>?_
  exact ⟨T,oT,ts,k1,l _ k2,r⟩
section
variable {M:Model}{A:Around}{E:Value->Shared->Prop}{s:Shared}{base:Heap}{env:zt}{outer:List zt}{L e:Addr}{g:Heap}{cls:Value}{Q:Unit->Shared->Prop}
theorem FunFrames.off {h:Heap}{l:List zt} (hl:h.FunFrames base l) {a:Addr}{o:Obj}{vs:Array Value} (ha:h.get? a=some o) (hd:o.data=.fields vs):a∉l.filterMap (·.frame):=fun hm=>by
 obtain ⟨_,o',ho,hnf⟩:=hl.mem hm
 replace ho:=ha▸ho;cases ho;exact hnf vs hd
theorem fly_entry {oe:Obj}{vs:Array Value}{head a0:Value}{hadNext:Bool} (hfr:A.frames=some (env::outer)) (hl:s.heap.FunFrames base (env::outer)) (hf:env.frame=some L)
  (he:s.heap.get? e=some oe) (hn:g.get? e=none) (hns:g.objs.size<=s.heap.objs.size) (hc:IsX cls oe) (hd:oe.data=.fields vs) (hsz:1 < vs.size) (h0:vs[0]?=some a0)
  (h:∀ h',Eff g ((env::outer).filterMap (·.frame)) s.heap h'->Fly g cls e (some (rawInt L)) h'->Q () { s with heap:=h' }) :
  wpAny M A (do let a ← frameOf env;let pl ← entryPlaceOf L hadNext;let b ← EntryCells.newEntry head a .none (rawInt L) .none pl;setField (.ref e) 1 b) Q E s:=by
 have hene:=FunFrames.off hl he hd
 refine wpAny_bind (wpAny_frameOf_fun hfr hl hf fun h₁ hs₁=>?_)
 refine wpAny_bind (wpAny_entryPlaceOf fun pl hpl=>?_)
 unfold EntryCells.newEntry newFields
 refine wpAny_bind (wpAny_newObj_type ?_ (hpl.sizeOk5 _ _ _ _ _))
 have he₁:h₁.get? e=some oe:=(hs₁.2.1 e hene).trans he
 generalize hob:({ cls:=.type "traceback",dict:=none,data:=.fields ([head,.ref L,.none,rawInt L,.none]++(if pl.isEmpty then v9 6 Value.none else pl)).toArray }:Obj)=tb
 have he₂:=zz (h:=h₁) tb he₁
 refine wpAny_setField he₂ hd hsz (h _ ?_ ?_)
 ·exact ((Eff.slots hs₁).trans (Eff.push tb)).trans (Eff.field he₂ hd hn hene _)
 ·have hTe:h₁.objs.size≠e:=xt (yb he₁)
  have hd₃:=Obj.data_mapFields hd (·.setIfInBounds 1 (Value.ref h₁.objs.size))
  have hfb:tb.isFreed=false:=by refine bw hob ?_;rfl
  refine ⟨hn,_,_,a0,wu _ he₂ (Obj.isFreed_of_fields hd₃),hc.map _,hd₃,by refine gw (Array.getElem?_setIfInBounds_ne (by decide) ..) ?_;exact h0,
   h₁.objs.size,tb,_,by simp [hsz],j5 (by refine gw (hs₁.1 ..) ?_;exact hns),hTe,?_,(by exact bw hob rfl),?_⟩
  ·refine gw (xa _ _ (Ne.symm hTe) ..) ?_
   exact ym h₁ hfb
  ·first | (simp;done) | (rcases hpl with rfl | ⟨_,_,_,_,_,_,_,rfl⟩ <;> simp)
theorem fly_note {fl:Option Value} (hfr:A.frames=some (env::outer)) (hl:s.heap.FunFrames base (env::outer)) (hf:env.frame=some L) (hns:g.objs.size<=s.heap.objs.size) (x:Fly g cls e fl s.heap)
  (hfl:fl=none∨fl=some .none∨fl=some (rawInt L))
  (h:∀ h',Eff g ((env::outer).filterMap (·.frame)) s.heap h'->Fly g cls e (some (rawInt L)) h'->Q () { s with heap:=h' }):wpAny M A (noteFrame (.ref e) env) Q E s:=by
 obtain ⟨hn,oe,vs,a0,he,hc,hd,h0,hx⟩:=x
 unfold noteFrame
 simp only [hf]
 rcases hfl with rfl | rfl | rfl
 ·refine wpAny_bind (wpAny_field he hd hx ?_)
  rw [if_neg (by decide)]
  exact fly_entry hfr hl hf he hn hns hc hd (v6.mp hx).1 h0 h
 ·refine ex3 (hx) fun T oT ts q_h=>?_;refine an6 q_h fun h1 hT hTe eT dT h3=>?_
  refine wpAny_bind (wpAny_field he hd h1 ?_)
  refine gw (if_pos (show (Value.ref T != Value.none)=true from by simp)) ?_
  refine wpAny_bind (wpAny_field eT dT h3 ?_)
  refine gw (if_neg (show ¬ ((Value.none == rawInt L)=true) from by simp [rawInt])) ?_
  have hTf:=FunFrames.off hl eT dT
  have ef:=Eff.field (g:=g) (fr:=(env::outer).filterMap (·.frame)) eT dT hT hTf (·.setIfInBounds 3 Value.none)
  refine wpAny_bind (wpAny_setField eT dT (v6.mp h3).1 ?_)
  have he':(s.heap.update T (Obj.mapFields (·.setIfInBounds 3 Value.none))).get? e=some oe:=by refine gw (xa _ _ hTe ..) ?_;exact he
  refine fly_entry (s:={ s with heap:=s.heap.update T (Obj.mapFields (·.setIfInBounds 3 Value.none)) }) hfr (hl.of_keeps fun b o hb hnf=>?_) hf he' hn (za hns ef.size) hc hd (v6.mp h1).1 h0 fun h' e' f'=>h h' (ef.trans e') f'
  refine ⟨o,?_,rfl⟩
  refine gw (xa _ _ (fun q=>by subst q;rw [eT] at hb;cases hb;exact hnf ts dT)) ?_;exact hb
 ·refine ex3 (hx) fun T oT ts q_h=>?_;refine an6 q_h fun h1 hT hTe eT dT h3=>?_
  refine wpAny_bind (wpAny_field he hd h1 ?_)
  refine gw (if_pos (show (Value.ref T != Value.none)=true from by simp)) ?_
  refine wpAny_bind (wpAny_field eT dT h3 ?_)
  refine gw (if_pos (show (rawInt L == rawInt L)=true from by simp)) ?_
  exact wpAny_pure (h s.heap (Eff.refl ..) ⟨hn,oe,vs,a0,he,hc,hd,h0,T,oT,ts,h1,hT,hTe,eT,dT,h3⟩)
theorem fly_set {v:Value} (x:Fly g cls e (some v) s.heap) (f:Option Addr) (hl:s.heap.FunFrames base (env::outer))
  (h:∀ h',Eff g ((env::outer).filterMap (·.frame)) s.heap h'->Fly g cls e (some (f.elim Value.none fun a=>rawInt a)) h'->Q () { s with heap:=h' }):wpAny M A (setFlight (.ref e) f) Q E s:=by
 obtain ⟨hn,oe,vs,a0,he,hc,hd,h0,T,oT,ts,h1,hT,hTe,eT,dT,h3⟩:=x
 have hsz:=(v6.mp h3).1
 unfold setFlight
 refine wpAny_bind (wpAny_field he hd h1 ?_)
 refine gw (if_pos (show (Value.ref T != Value.none)=true from by simp)) ?_
 refine wpAny_setField eT dT hsz (h _ (Eff.field eT dT hT (FunFrames.off hl eT dT) _) ⟨hn,oe,vs,a0,?_,hc,hd,h0,T,_,_,h1,hT,hTe,wu _ eT (Obj.isFreed_of_fields (Obj.data_mapFields dT _)),Obj.data_mapFields dT _,by simp [hsz]⟩)
 refine gw (xa _ _ hTe ..) ?_;exact he
end
end Mine
namespace Mine
open PySem PyProof.Rows
noncomputable abbrev Mo (X:W):Model:=model X.prog X.w
structure Rm (A:Around) (d:Nat) (hn:Bool):Prop where
 depth:A.depth + 4 * d + 4 < recursionLimit
 units:A.units + 40 * d + 40 < cLine
 handled:hn=true->A.handled=none
 nb:A.handled≠some byPass
structure Cn (X:W) (A:Around) (d:Nat) (hn:Bool) (s:Shared) (μ:List Addr) (σ:H):Prop where
 rm:Rm A d hn
 hr:HR X μ σ s.heap
 base:Base X s.heap
 fs:∃ fs,A.frames=some fs/\FF X s.heap μ fs
 scr:∃ vs:List Value,X.h₀.IsList X.scr vs.toArray/\IntsAre vs X.ns/\vs.length<=lim
 bad:∀ a,X.bad a->a < s.heap.objs.size
structure FR (X:W) (env:zt) (cx:Cx) (ρ:Env) (h:Heap) (μ:List Addr):Prop where
 kind:env.scope.kind=.function
 globals:env.globals=mainGlobals
 builtins:env.builtins=builtinsNs
 names:env.scope.names=cx.kinds
 ns:∃ m,h.Ns env.locals m/\∀ (x:Str) (k:Nat) (v:V),cx.kinds.lookup x=some .local->cx.slots.lookup x=some k->ρ[k]?=some (some v)->∃ u,m x=some u/\VR X h μ v u
 cell:∀ (x:Str) (k:Nat),cx.kinds.lookup x=some .cell->cx.slots.lookup x=some k->∃ c u,env.cells.lookup x=some c/\h.IsCell c u/\∀ v,ρ[k]?=some (some v)->∃ y,u=some y/\VR X h μ v y
 cells:∀ (x:Str),cx.kinds.lookup x=some .cell->(env.cells.lookup x).isSome=true
 apart:∀ x y c,env.cells.lookup x=some c->env.cells.lookup y=some c->x=y
 offL:env.locals∉μ
 offC:∀ x c,env.cells.lookup x=some c->c∉μ/\c≠env.locals/\c < h.objs.size
 slots:∀ (x y:Str) (k:Nat),cx.slots.lookup x=some k->cx.slots.lookup y=some k->x=y
 bound:∀ (x:Str) (k:Nat),cx.slots.lookup x=some k->k < cx.n
 len:ρ.length=cx.n
section
variable {X:W}
theorem Cn.step {A:Around}{d:Nat}{hn:Bool}{s s':Shared}{μ μ':List Addr}{σ σ':H} (c:Cn X A d hn s μ σ) (S:Step X s μ s' μ' σ'):Cn X A d hn s' μ' σ' :=
 ⟨c.rm,S.hr,S.base,(let ⟨fs,e,f⟩:=c.fs;⟨fs,e,S.ff f⟩),c.scr,fun a h=>zm (c.bad a h) S.size⟩
theorem Cn.good {A:Around}{d:Nat}{hn:Bool}{s:Shared}{μ:List Addr}{σ:H} (c:Cn X A d hn s μ σ) {a:Addr} (h:s.heap.objs.size<=a):¬ X.bad a:=fun q=>absurd (c.bad a q) (yc.mpr h)
theorem FR.step {env:zt}{cx:Cx}{ρ:Env}{s s':Shared}{μ μ':List Addr}{σ σ':H} (F:FR X env cx ρ s.heap μ) (R:HR X μ σ s.heap) (S:Step X s μ s' μ' σ'):FR X env cx ρ s'.heap μ' where
 kind:=F.kind
 globals:=F.globals
 builtins:=F.builtins
 names:=F.names
 ns:=by
  obtain ⟨m,n,h⟩:=F.ns
  exact ⟨m,S.keep.ns F.offL n,fun x k v h1 h2 h3=>let ⟨u,a,b⟩:=h x k v h1 h2 h3;⟨u,a,S.vr R b⟩⟩
 cell:=fun x k h1 h2=>by
  refine ex2 (F.cell x k h1 h2) fun c u q_h=>?_;refine an3 q_h fun a b d=>?_
  exact ⟨c,u,a,S.keep.cell (F.offC x c a).1 b,fun v hv=>let ⟨y,p,q⟩:=d v hv;⟨y,p,S.vr R q⟩⟩
 cells:=F.cells
 apart:=F.apart
 offL:=by
  obtain ⟨m,n,_⟩:=F.ns
  exact S.notIn F.offL n.lt
 offC:=fun x c h=>⟨S.notIn (F.offC x c h).1 (F.offC x c h).2.2,(F.offC x c h).2.1,zm (F.offC x c h).2.2 S.size⟩
 slots:=F.slots
 bound:=F.bound
 len:=F.len
noncomputable def XR (X:W) (g:Heap) (c:Nat) (e:Value) (h:Heap):Prop:=∃ a,e=.ref a/\Fly g (.ref (X.ca c)) a (some .none) h
theorem XR.le {g g':Heap}{c:Nat}{e:Value}{h:Heap} (x:XR X g c e h) (l:∀ b,g.get? b=none->g'.get? b=none):XR X g' c e h:=let ⟨a,h1,h2⟩:=x;⟨a,h1,h2.le l⟩
noncomputable abbrev PT (β:Type):=(β->Shared->Prop)->(Value->Shared->Prop)->Shared->Prop
noncomputable def Sm (X:W) {α β:Type} (P:PT β) (r:R α) (rel:Heap->List Addr->α->β->Prop) (s:Shared) (μ:List Addr):Prop :=
 r≠.stuck->∀ Q E,(∀ a σ' b s' μ',r=.ok a σ'->Step X s μ s' μ' σ'->rel s'.heap μ' a b->Q b s') ->
  (∀ c σ' e s' μ',r=.exc c σ'->Step X s μ s' μ' σ'->XR X s.heap c e s'.heap->E e s')->P Q E s
theorem Sm.imp {α β:Type}{P P':PT β}{r:R α}{rel:Heap->List Addr->α->β->Prop}{s:Shared}{μ:List Addr} (h:Sm X P r rel s μ) (hp:∀ Q E,P Q E s->P' Q E s):Sm X P' r rel s μ :=
 fun hne Q E hQ hE=>hp Q E (h hne Q E hQ hE)
theorem bnd_ok {α β:Type}{m:M α}{k:α->M β}{σ σ':H}{a:α} (e:m σ=.ok a σ'):m.bnd k σ=k a σ':=by unfold M.bnd;exact gw e rfl
theorem bnd_exc {α β:Type}{m:M α}{k:α->M β}{σ σ':H}{c:Nat} (e:m σ=.exc c σ'):m.bnd k σ=.exc c σ':=by unfold M.bnd;exact gw e rfl
theorem bnd_stuck {α β:Type}{m:M α}{k:α->M β}{σ:H} (e:m σ=.stuck):m.bnd k σ=.stuck:=by unfold M.bnd;exact gw e rfl
theorem Sm.bind {α β γ δ:Type}{P:PT β}{P2:β->PT δ}{m:M α}{k:α->M γ}{σ:H}{rel:Heap->List Addr->α->β->Prop}{rel2:Heap->List Addr->γ->δ->Prop}{s:Shared}{μ:List Addr}
  (h1:Sm X P (m σ) rel s μ) (h2:∀ a σ₁ b s₁ μ₁,m σ=.ok a σ₁->Step X s μ s₁ μ₁ σ₁->rel s₁.heap μ₁ a b->Sm X (P2 b) (k a σ₁) rel2 s₁ μ₁) :
  Sm X (fun Q E s=>P (fun b s₁=>P2 b Q E s₁) E s) (m.bnd k σ) rel2 s μ:=by
 intro hne Q E hQ hE
 refine h1 (fun e=>hne (bnd_stuck e)) _ _ (fun a σ₁ b s₁ μ₁ e1 S1 r1=>?_) fun c σ₁ e s₁ μ₁ e1 S1 x1=>hE c σ₁ e s₁ μ₁ (bnd_exc e1) S1 x1
 have e:m.bnd k σ=k a σ₁:=bnd_ok e1
 exact h2 a σ₁ b s₁ μ₁ e1 S1 r1 (e▸hne) Q E (fun c σ₂ d s₂ μ₂ e2 S2 r2=>hQ c σ₂ d s₂ μ₂ (e.trans e2) (S1.trans S2) r2)
  fun c σ₂ x s₂ μ₂ e2 S2 x2=>hE c σ₂ x s₂ μ₂ (e.trans e2) (S1.trans S2) (x2.le S1.pers)
noncomputable abbrev Rl (X:W):Heap->List Addr->V->Value->Prop:=fun h μ v u=>VR X h μ v u
noncomputable abbrev Rls (X:W):Heap->List Addr->List V->List Value->Prop:=fun h μ v u=>VRs X h μ v u
noncomputable abbrev Wp (X:W) (A:Around) {β:Type} (t:Sem β):PT β:=fun Q E s=>wpAny (Mo X) A t Q E s
theorem Sm.ok {α β:Type}{P:PT β}{a:α}{σ:H}{rel:Heap->List Addr->α->β->Prop}{s:Shared}{μ:List Addr}
  (h:∀ Q E,(∀ b s' μ',Step X s μ s' μ' σ->rel s'.heap μ' a b->Q b s')->P Q E s):Sm X P (.ok a σ) rel s μ :=
 fun _ Q E hQ _=>h Q E fun b s' μ' S r=>hQ a σ b s' μ' rfl S r
theorem Sm.after {α β:Type}{P P':PT β}{r:R α}{rel:Heap->List Addr->α->β->Prop}{s s₁:Shared}{μ μ₁:List Addr}{σ₁:H} (S1:Step X s μ s₁ μ₁ σ₁) (h:Sm X P' r rel s₁ μ₁) (hp:∀ Q E,P' Q E s₁->P Q E s):Sm X P r rel s μ :=
 fun hne Q E hQ hE=>hp Q E (h hne Q E (fun a σ' b s' μ' e S r=>hQ a σ' b s' μ' e (S1.trans S) r) fun c σ' e s' μ' q S x=>hE c σ' e s' μ' q (S1.trans S) (x.le S1.pers))
theorem Sm.stuck {α β:Type}{P:PT β}{rel:Heap->List Addr->α->β->Prop}{s:Shared}{μ:List Addr}:Sm X P (.stuck:R α) rel s μ:=fun h=>absurd rfl h
end
end Mine
namespace Mine
open PySem PyProof.Rows
section
variable {X:W}{A:Around}{d:Nat}{hn:Bool}{s:Shared}{μ:List Addr}{σ:H}
theorem Cn.same (c:Cn X A d hn s μ σ) (t:Nat):Step X s μ { s with toks:=t } μ σ:=(Step.refl c.hr c.base).toks t
theorem lim_eq:lim=sizeLine:=rfl
theorem Base.push {h:Heap} (B:Base X h) (o:Obj):Base X (h.push o):=⟨fun b x e=>zz _ (B.keep b x e),by refine gw (wf ..) ?_;exact zr B.size,B.low⟩
theorem Step.push (c:Cn X A d hn s μ σ) (o:Obj) (t:Nat):Step X s μ { s with heap:=s.heap.push o,toks:=t } μ σ :=
 ⟨c.hr.push o,.of_all fun _ _ _ e=>zz _ e,c.base.push o,by show _<=(s.heap.push o).objs.size;refine gw (wf ..) ?_;exact yh _,
  ⟨[],by simp,fun _ h=>nomatch h⟩,rfl,rfl⟩
theorem Step.grow (c:Cn X A d hn s μ σ) {s':Shared} (k:∀ b o,s.heap.get? b=some o->s'.heap.get? b=some o) (z:s.heap.objs.size<=s'.heap.objs.size) (hg:s'.gens=s.gens) (ho:s'.os=s.os):Step X s μ s' μ σ :=
 ⟨c.hr.keeps k,.of_all fun b o _ e=>k b o e,⟨fun b o e=>k _ _ (c.base.keep b o e),za c.base.size z,c.base.low⟩,z,⟨[],by simp,fun _ h=>nomatch h⟩,hg,ho⟩
theorem Step.alloc (c:Cn X A d hn s μ σ) {o:Obj}{x:O} (t:Nat)
  (r:OR X (s.heap.push o) (μ++[s.heap.objs.size]) s.heap.objs.size x):Step X s μ { s with heap:=s.heap.push o,toks:=t } (μ++[s.heap.objs.size]) (σ++[x]):=by
 have hno:s.heap.objs.size∉μ:=fun hm=>xj _ (c.hr.lt hm)
 refine ⟨(c.hr.push o).alloc hno c.base.size r,.of_all fun _ _ _ e=>zz _ e,c.base.push o,?_,⟨[s.heap.objs.size],rfl,fun a ha=>?_⟩,rfl,rfl⟩
 ·show _<=(s.heap.push o).objs.size;refine gw (wf ..) ?_;exact yh _
 ·refine gw (zg.mp ha ..) ?_;exact ze _
theorem Step.put (c:Cn X A d hn s μ σ) {i:Nat}{a:Addr}{o:O}{s':Shared} (hi:μ[i]?=some a) (hs:Heap.SameBut a s.heap s'.heap) (hg:s'.gens=s.gens) (ho:s'.os=s.os)
  (r:OR X s'.heap μ a o):Step X s μ s' μ (σ.set i o):=by
 have hm:=yr hi
 refine ⟨c.hr.put hi hs r,.of_all fun b x hb e=>(hs.2 b fun q=>hb (q▸hm)).trans e,⟨fun b x e=>(hs.2 b fun q=>?_).trans (c.base.keep b x e),hs.1▸c.base.size,c.base.low⟩,ya hs.1.symm,⟨[],by simp,fun _ h=>nomatch h⟩,hg,ho⟩
 subst q
 exact absurd (yb e) (yc.mpr (c.hr.fresh _ hm))
theorem codes_append (x y:Str):codes (x++y)=codes x++codes y:=by
 show (x++y).cps.toList=_
 refine gw (Str.cps_append ..) ?_;simp [codes]
theorem codes_length (x:Str):(codes x).length=x.length:=by simp [codes,Str.length]
theorem codes_inj {x y:Str} (h:codes x=codes y):x=y:=by
 obtain ⟨a⟩:=x;obtain ⟨b⟩:=y
 simp only [codes] at h
 exact congrArg Str.mk (Array.ext' h)
theorem codes_mk (l:List Nat):codes ⟨l.toArray⟩=l:=by simp [codes]
theorem Cn.list (c:Cn X A d hn s μ σ) {i:Nat}{a:Addr}{xs:List V} (h:σ[i]?=some (.list xs)) (hi:μ[i]?=some a) :
  ∃ l n,IsL s.heap a (jd l) n/\VRs X s.heap μ xs l/\l.length<=lim:=by
 cases c.hr.obj i _ a h hi with
 | list e z r=>exact ⟨_,_,e,r,z⟩
theorem listAt_eq {i:Nat}{xs:List V} (h:listAt σ i=some xs):σ[i]?=some (.list xs):=by
 unfold listAt at h
 split at h
 ·cases h;assumption
 ·cases h
theorem dictAt_eq {i:Nat}{kvs:List (List Nat×V)} (h:dictAt σ i=some kvs):σ[i]?=some (.dict kvs):=by
 unfold dictAt at h
 split at h
 ·cases h;assumption
 ·cases h
theorem Cn.dict (c:Cn X A d hn s μ σ) {i:Nat}{a:Addr}{kvs:List (List Nat×V)} (h:σ[i]?=some (.dict kvs)) (hi:μ[i]?=some a) :
  ∃ l,s.heap.DictOf (strKind X.prog X.w) a l/\ERs X s.heap μ kvs l/\l.length<=lim:=by
 cases c.hr.obj i _ a h hi with
 | dict e z r=>exact ⟨_,e,r,z⟩
theorem sm_onL {α β:Type} (c:Cn X A d hn s μ σ) {i:Nat}{a:Addr} (hi:μ[i]?=some a) {P:PT β}{f:List V->M α}{rel:Heap->List Addr->α->β->Prop}
  (h:∀ xs l n,σ[i]?=some (.list xs)->s.heap.get? a=some { cls:=.type "list",data:=.seq (jd l) n }->VRs X s.heap μ xs l->l.length<=lim->Sm X P (f xs σ) rel s μ):Sm X P (onL i f σ) rel s μ:=by
 unfold onL
 cases hl:listAt σ i with
 | none=>exact Sm.stuck
 | some xs =>
  refine ex2 (c.list (listAt_eq hl) hi) fun l n q_h=>?_;refine an3 q_h fun e r z=>?_
  exact h xs l n (listAt_eq hl) e r z
theorem sm_onD {α β:Type} (c:Cn X A d hn s μ σ) {i:Nat}{a:Addr} (hi:μ[i]?=some a) {P:PT β}{f:List (List Nat×V)->M α}{rel:Heap->List Addr->α->β->Prop}
  (h:∀ kvs l,σ[i]?=some (.dict kvs)->s.heap.DictOf (strKind X.prog X.w) a l->ERs X s.heap μ kvs l->l.length<=lim->Sm X P (f kvs σ) rel s μ):Sm X P (onD i f σ) rel s μ:=by
 unfold onD
 cases hl:dictAt σ i with
 | none=>exact Sm.stuck
 | some kvs =>
  obtain ⟨l,q_h⟩:=(c.dict (dictAt_eq hl) hi);refine an3 q_h fun e r z=>?_
  exact h kvs l (dictAt_eq hl) e r z
theorem sm_pick {α β:Type}{P:PT β}{rel:Heap->List Addr->α->β->Prop}{o:Option α} (h:∀ v,o=some v->Sm X P (.ok v σ) rel s μ):Sm X P (pick o σ) rel s μ:=by
 cases o with
 | none=>exact Sm.stuck
 | some v=>exact h v rfl
theorem Cn.noSys (c:Cn X A d hn s μ σ) {i:Nat}{a:Addr} (hi:μ[i]?=some a):(a == sysModules)=false:=by
 exact beq_eq_false_iff_ne.mpr (xt (zm c.base.low (c.hr.fresh a (yr hi))))
theorem VRs.length {h:Heap}{xs:List V}{l:List Value} (r:VRs X h μ xs l):xs.length=l.length:=by
 induction xs generalizing l with
 | nil=>cases r;rfl
 | cons x xs ih=>cases r with | cons _ b=>simp [ih b]
theorem VRs.append {h:Heap}{xs ys:List V}{l m:List Value} (r:VRs X h μ xs l) (q:VRs X h μ ys m):VRs X h μ (xs++ys) (l++m):=by
 induction xs generalizing l with
 | nil=>cases r;exact q
 | cons x xs ih=>cases r with | cons a b=>exact .cons a (ih b)
theorem VRs.get {h:Heap}{xs:List V}{l:List Value} (r:VRs X h μ xs l) {i:Nat}{x:V} (e:xs[i]?=some x):∃ u,l[i]?=some u/\VR X h μ x u:=by
 induction xs generalizing l i with
 | nil=>cases e
 | cons y ys ih =>
  cases r with
  | cons a b =>
   cases i with
   | zero=>simp at e;subst e;exact ⟨_,rfl,a⟩
   | succ j=>simp at e;obtain ⟨u,e1,e2⟩:=ih b e;exact ⟨u,by simpa using e1,e2⟩
theorem VRs.take {h:Heap}{xs:List V}{l:List Value} (r:VRs X h μ xs l) (n:Nat):VRs X h μ (xs.take n) (l.take n):=by
 induction xs generalizing l n with
 | nil=>cases r;simp;exact .nil
 | cons y ys ih =>
  cases r with
  | cons a b =>
   cases n with
   | zero=>exact .nil
   | succ j=>exact .cons a (ih b j)
theorem VRs.drop {h:Heap}{xs:List V}{l:List Value} (r:VRs X h μ xs l) (n:Nat):VRs X h μ (xs.drop n) (l.drop n):=by
 induction xs generalizing l n with
 | nil=>cases r;simp;exact .nil
 | cons y ys ih =>
  cases r with
  | cons a b =>
   cases n with
   | zero=>exact .cons a b
   | succ j=>exact ih b j
theorem ERs.length {h:Heap}{kvs:List (List Nat×V)}{l:List (Str×Value)} (r:ERs X h μ kvs l):kvs.length=l.length:=by
 have:=congrArg ki r.keys
 simpa using this
theorem sm_newL (c:Cn X A d hn s μ σ) {xs:List V}{l:List Value} (r:VRs X s.heap μ xs l):Sm X (Wp X A (newList l)) (newL xs σ) (Rl X) s μ:=by
 unfold newL
 split
 ·rename_i hz
  refine Sm.ok fun Q E hQ=>?_
  refine wpAny_newObj_type ?_ (by show l.toArray.size<=sizeLine;rw [yq,← r.length];exact hz)
  refine hQ _ _ _ (Step.alloc c s.toks ?_) (.ref (by rw [zw (by rw [c.hr.len];exact ze _),c.hr.len];simp))
  exact .list (ym _ rfl) (r.length▸hz) (r.mono (fun _ _ e _=>zz _ e) ext_get)
 ·exact Sm.stuck
theorem sm_pushed (c:Cn X A d hn s μ σ) {P:PT Value}{xs:List V}{l:List Value} (r:VRs X s.heap μ xs l)
  (h:l.length<=sizeLine->∀ Q E,Q (.ref s.heap.objs.size) { s with heap:=s.heap.push { cls:=.type "list",data:=.seq l.toArray } }->P Q E s):Sm X P (newL xs σ) (Rl X) s μ:=by
 unfold newL
 split
 ·rename_i hz
  refine Sm.ok fun Q E hQ=>h (r.length▸hz) Q E ?_
  refine hQ _ _ _ (Step.alloc c s.toks ?_) (.ref (by rw [zw (by rw [c.hr.len];exact ze _),c.hr.len];simp))
  exact .list (ym _ rfl) (r.length▸hz) (r.mono (fun _ _ e _=>zz _ e) ext_get)
 ·exact Sm.stuck
section
variable {β:Type}{P:PT β}{rel:Heap->List Addr->V->β->Prop}{v:V}{u:Value}{vs:List V}{us:List Value}
theorem sm_asR {f:Nat->M V} (r:VR X s.heap μ v u) (h:∀ i a,u=.ref a->μ[i]?=some a->Sm X P (f i σ) rel s μ):Sm X P (asR v f σ) rel s μ:=by
 cases r with
 | ref e=>exact h _ _ rfl e
 | _=>exact Sm.stuck
theorem sm_asS {f:List Nat->M V} (r:VR X s.heap μ v u) (h:∀ x t,u=.str x t->x.length<=lim->Sm X P (f (codes x) σ) rel s μ):Sm X P (asS v f σ) rel s μ:=by
 cases r with
 | str x t z=>exact h x t rfl z
 | _=>exact Sm.stuck
theorem sm_asI {f:Int->M V} (r:VR X s.heap μ v u) (h:∀ i t,u=.int i t->Sm X P (f i σ) rel s μ):Sm X P (asI v f σ) rel s μ:=by
 cases r with
 | int i t=>exact h i t rfl
 | _=>exact Sm.stuck
theorem sm_arg1 {f:V->M V} (r:VRs X s.heap μ vs us) (h:∀ v u,us=[u]->VR X s.heap μ v u->Sm X P (f v σ) rel s μ):Sm X P (arg1 vs f σ) rel s μ:=by
 cases r with
 | nil=>exact Sm.stuck
 | cons r rs =>
  cases rs with
  | nil=>exact h _ _ rfl r
  | cons=>exact Sm.stuck
theorem sm_arg2 {f:V->V->M V} (r:VRs X s.heap μ vs us) (h:∀ v w u z,us=[u,z]->VR X s.heap μ v u->VR X s.heap μ w z->Sm X P (f v w σ) rel s μ):Sm X P (arg2 vs f σ) rel s μ:=by
 cases r with
 | nil=>exact Sm.stuck
 | cons r rs =>
  cases rs with
  | nil=>exact Sm.stuck
  | cons r2 rs =>
   cases rs with
   | nil=>exact h _ _ _ _ rfl r r2
   | cons=>exact Sm.stuck
end
theorem smallBits {x:Int} (h:small x=true):Builtin.Int.intBits x<=64:=by
 have h':=of_decide_eq_true h
 exact intBits_le_64 (by (first | lia | omega)) (by (first | lia | omega))
theorem sm_i2 {P:PT Value}{f:Int->Int->M V}{x y:V}{u v:Value} (hx:VR X s.heap μ x u) (hy:VR X s.heap μ y v) (h:∀ i t j t',u=.int i t->v=.int j t'->Sm X P (f i j σ) (Rl X) s μ):Sm X P (i2 x y f σ) (Rl X) s μ:=by
 cases hx with
 | int i t =>
  cases hy with
  | int j t'=>exact h i t j t' rfl rfl
  | _=>exact Sm.stuck
 | _=>exact Sm.stuck
theorem sm_addV (c:Cn X A d hn s μ σ) {x y:V}{u v:Value} (hx:VR X s.heap μ x u) (hy:VR X s.heap μ y v):Sm X (Wp X A (binaryOp .Add u v)) (addV x y σ) (Rl X) s μ:=by
 cases hx with
 | int i t =>
  cases hy with
  | int j t'=>exact Sm.ok fun Q E hQ=>AutoIntOps.add_0 (hQ _ _ _ (c.same _) (.int _ _))
  | _=>exact Sm.stuck
 | str x t hx =>
  cases hy with
  | str y t' hy =>
   show Sm X _ ((if _ then M.ret _ else stuck) σ) _ _ _
   split
   ·rename_i hz
    refine Sm.ok fun Q E hQ=>PyProof.Rows.add_str (fun t' tk=>hQ _ _ _ (c.same _) (codes_append x y▸.str _ _ (by refine bw (codes_length ..) (gw (codes_append ..) ?_);exact hz))) ?_
    replace hz:=(codes_length ..)▸(codes_length ..)▸(zd ..)▸hz
    exact hz
   ·exact Sm.stuck
  | _=>exact Sm.stuck
 | @ref i a hi =>
  cases hy with
  | @ref j b hj =>
   refine sm_onL c hi fun xs l n ho e r _=>sm_onL c hj fun ys l' n' ho' e' r' _=>?_
   refine sm_pushed c (r.append r') fun hz Q E hQ=>P.add_list e e' ?_ (by simpa using hz)
   rw [List.append_toArray] at *
   exact hQ
  | _=>exact Sm.stuck
 | _=>exact Sm.stuck
theorem sm_bin (c:Cn X A d hn s μ σ) (o:Bin) {x y:V}{u v:Value} (hx:VR X s.heap μ x u) (hy:VR X s.heap μ y v) :
  Sm X (Wp X A (binaryOp (opOf o) u v)) (binV o x y σ) (Rl X) s μ:=by
 cases o
 ·exact sm_addV c hx hy
 ·refine sm_i2 hx hy fun x t y t' e1 e2=>?_
  subst e1 e2
  exact Sm.ok fun Q E hQ=>sub_int' (hQ _ _ _ (c.same _) (.int _ _))
 ·refine sm_i2 hx hy fun x t y t' e1 e2=>?_
  subst e1 e2
  split
  ·rename_i hz
   refine Sm.ok fun Q E hQ=>PyProof.Rows.mul_int (hQ _ _ _ (c.same _) (.int _ _)) ?_
   rcases Bool.or_eq_true_iff.mp hz with q | q
   ·exact IntMulOk.of_left (smallBits q)
   ·exact IntMulOk.of_right (smallBits q)
  ·exact Sm.stuck
 ·refine sm_i2 hx hy fun x t y t' e1 e2=>?_
  subst e1 e2
  split
  ·rename_i hz
   exact Sm.ok fun Q E hQ=>floordiv_int (by (first | lia | omega)) (hQ _ _ _ (c.same _) (.int _ _)) (.inl (PyProof.noPylong_small (by (first | lia | omega))))
  ·exact Sm.stuck
 ·refine sm_i2 hx hy fun x t y t' e1 e2=>?_
  subst e1 e2
  split
  ·exact Sm.stuck
  ·rename_i hz
   exact Sm.ok fun Q E hQ=>mod_int' hz (hQ _ _ _ (c.same _) (.int _ _))
 ·refine sm_i2 hx hy fun x t y t' e1 e2=>?_
  subst e1 e2
  split
  ·rename_i hz
   obtain ⟨rfl,rfl | rfl⟩:=hz
   ·exact Sm.ok fun Q E hQ=>AutoIntOps.pow_4 (by decide) (by decide) (by decide) (by decide) (by decide +kernel) (hQ _ _ _ (c.same _) (.int _ _))
   ·exact Sm.ok fun Q E hQ=>AutoIntOps.pow_4 (by decide) (by decide) (by decide) (by decide) (by decide +kernel) (hQ _ _ _ (c.same _) (.int _ _))
  ·exact Sm.stuck
end
end Mine
namespace Mine
open PySem PyProof.Rows PySem.SeqAt
section
variable {X:W}{A:Around}{d:Nat}{hn:Bool}{s:Shared}{μ:List Addr}{σ:H}
theorem beq_codes (x y:Str):(x == y)=decide (codes x=codes y):=by
 by_cases h:x=y
 ·subst h;simp
 ·have:codes x≠codes y:=fun q=>h (codes_inj q)
  simp [h,this]
theorem ERs.get {h:Heap}{kvs:List (List Nat×V)}{l:List (Str×Value)} (r:ERs X h μ kvs l) (x:Str) :
  (dget kvs (codes x)=none/\valueAt l x=none)∨∃ v u,dget kvs (codes x)=some v/\valueAt l x=some u/\VR X h μ v u:=by
 obtain ⟨hk,hlm,hv⟩:=r
 induction kvs generalizing l with
 | nil=>cases l with
  | nil=>exact .inl ⟨rfl,rfl⟩
  | cons _ _=>cases hk
 | cons p ps ih =>
  cases l with
  | nil=>cases hk
  | cons e es =>
   obtain ⟨k,v⟩:=p
   obtain ⟨y,u⟩:=e
   rw [xn,xn] at hk hv
   injection hk with hk hks
   cases hv with
   | cons hv hvs =>
    by_cases hxy:y=x
    ·subst hxy
     refine .inr ⟨v,u,?_,?_,hv⟩
     ·rw [dget];exact if_pos hk
     ·simp [valueAt]
    ·have hne:k≠codes x:=fun q=>hxy (codes_inj (hk.symm.trans q))
     have e1:dget ((k,v)::ps) (codes x)=dget ps (codes x):=by rw [dget];exact if_neg hne
     have e2:valueAt ((y,u)::es) x=valueAt es x:=by simp [valueAt,hxy]
     refine gw e1 (gw e2 ?_)
     exact ih hks (fun p hp=>hlm p (zj _ hp)) hvs
noncomputable def ceq:Value->Value->Bool
 | .bool x,.bool y=>x == y
 | .int x _,.int y _=>x == y
 | .str x _,.str y _=>x == y
 | _,_=>false
theorem VR.int_inv {h:Heap}{i:Int}{u:Value} (r:VR X h μ (.int i) u):∃ t,u=.int i t:=by cases r;exact ⟨_,rfl⟩
theorem VR.str_inv {h:Heap}{x:List Nat}{u:Value} (r:VR X h μ (.str x) u):∃ z t,x=codes z/\u=.str z t:=by cases r;exact ⟨_,_,rfl,rfl⟩
theorem feq_at {x y:V}{u v:Value}{b:Bool} (e:feq x y=some b) {h:Heap} (hx:VR X h μ x u) (hy:VR X h μ y v) (A:Around) (s:Shared):b=ceq u v/\EqAt A s u v (ceq u v)/\RcAt A s u v (ceq u v)/\RcNeAt A s u v (!ceq u v):=by
 cases x with
 | int i =>
  cases y with
  | int j =>
   obtain ⟨t,rfl⟩:=hx.int_inv
   obtain ⟨t',rfl⟩:=hy.int_inv
   cases e;exact ⟨(Bool.beq_eq_decide_eq _ _).symm,EqAt.int_int _ _ _ _,RcAt.int_int _ _ _ _,RcNeAt.int_int _ _ _ _⟩
  | _=>cases e
 | str x =>
  cases y with
  | str y =>
   obtain ⟨z,t,rfl,rfl⟩:=hx.str_inv
   obtain ⟨z',t',rfl,rfl⟩:=hy.str_inv
   cases e;exact ⟨(beq_codes _ _).symm,EqAt.str_str _ _ _ _,RcAt.str_str _ _ _ _,RcNeAt.str_str _ _ _ _⟩
  | _=>cases e
 | _=>cases e
theorem anyEq_cons {a x:V}{xs:List V}{b:Bool} (e:anyEq a (x::xs)=some b):∃ p q,feq x a=some p/\anyEq a xs=some q/\b=(p || q):=by
 unfold anyEq at e
 split at e
 ·rename_i p q h1 h2;cases e;exact ⟨p,q,h1,h2,rfl⟩
 ·cases e
theorem anyEq_at {h:Heap}{a:V}{u:Value} (ha:VR X h μ a u):∀ {xs:List V}{l:List Value}{b:Bool},anyEq a xs=some b->VRs X h μ xs l ->
  (∀ y∈l,∀ A s,EqAt A s y u (ceq y u))/\l.any (fun y=>ceq y u)=b:=by
 intro xs
 induction xs with
 | nil =>
  intro l b e r
  cases r;cases e;exact ⟨fun _ h=>(nomatch h),rfl⟩
 | cons x xs ih =>
  intro l b e r
  cases r with
  | cons hx r =>
    refine ex2 (anyEq_cons e) fun p q q_h=>?_;refine an3 q_h fun h1 h2 q_4=>?_;obtain rfl:=q_4
    obtain ⟨hf,hq⟩:=ih h2 r
    refine ⟨fun y hy A s=>?_,?_⟩
    ·rcases zy.mp hy with rfl | hy
     ·exact (feq_at h1 hx ha A s).2.1
     ·exact hf y hy A s
    ·exact gw (List.any_cons ..) (gw hq (gw ((feq_at (s:=⟨{},#[],{},0,default⟩) h1 hx ha {}).1 ..) rfl))
theorem VR.none_iff {h:Heap}{x:V}{u:Value} (r:VR X h μ x u):(u == Value.none)=isNoneV x:=by cases r <;> rfl
theorem sm_in (c:Cn X A d hn s μ σ) {x y:V}{u v:Value} (hx:VR X s.heap μ x u) (hy:VR X s.heap μ y v):Sm X (Wp X A (compareOp .In u v)) (inM x y σ) (Rl X) s μ:=by
 cases hy with
 | @ref i a hi =>
  show Sm X _ (match σ[i]? with | some (.list xs)=>pick ((anyEq x xs).map V.bool) σ | some (.dict kvs)=>onS x (fun x=>.ret (V.bool (dget kvs x).isSome)) σ | none=>.stuck) _ _ _
  rcases ho:σ[i]? with _ | ⟨xs⟩ | ⟨kvs⟩
  ·exact Sm.stuck
  ·refine sm_pick fun w he=>?_
   obtain ⟨r,hr,rfl⟩:=zn.mp he
   refine ex2 (c.list ho hi) fun l n q_h=>?_;refine an3 q_h fun e rr _=>?_
   obtain ⟨h1,h2⟩:=anyEq_at hx hr rr
   exact Sm.ok fun Q E hQ=>in_listAt (fun y=>ceq y u) ⟨_,e,rfl,_,rfl⟩ (fun y hy=>h1 y (List.mem_toArray.mp hy) _ _) (by refine gw (List.any_toArray ..) (gw h2 ?_);exact hQ _ _ _ (Step.refl c.hr c.base) (.bool _))
  ·cases hx <;> first | exact Sm.stuck | skip
   rename_i z t hz
   obtain ⟨l,q_h⟩:=(c.dict ho hi);refine an3 q_h fun hd rr _=>?_
   have hk:(dget kvs (codes z)).isSome=(valueAt l z).isSome:=by
    rcases rr.get z with ⟨e1,e2⟩ | ⟨v,w,e1,e2,_⟩ <;> rw [e1,e2] <;> rfl
   exact Sm.ok fun Q E hQ=>wpAny_in_of (strKind_is X.prog X.w z t) (c.noSys hi) hd.mapOf (hQ _ _ _ (c.same (s.toks + 1)) (by refine bw hk ?_;exact .bool _))
 | str w t hw =>
  cases hx <;> first | exact Sm.stuck | skip
  rename_i z t' hz'
  show Sm X _ (one (codes z) (fun k=>M.ret (V.bool ((codes w).contains k))) σ) _ _ _
  rcases hz:codes z with _ | ⟨k,_ | ⟨_,_⟩⟩
  ·exact Sm.stuck
  ·have hzz:z=⟨#[k]⟩:=codes_inj (by refine gw hz ?_;rfl)
   subst hzz
   have key:(!(Builtin.Str.occurrences w ⟨#[k]⟩ 0 w.length 1).isEmpty)=(codes w).contains k:=by
    refine gw (StrLaws.found_one ..) ?_;show decide (k∈codes w)=_
    rw [jz,decide_eq_true_eq,zad]
   exact Sm.ok fun Q E hQ=>in_str (by refine gw key ?_;exact hQ _ _ _ (Step.refl c.hr c.base) (.bool _))
  ·exact Sm.stuck
 | _=>exact Sm.stuck
theorem sm_eq (c:Cn X A d hn s μ σ) (neg:Bool) {x y:V}{u v:Value} (hx:VR X s.heap μ x u) (hy:VR X s.heap μ y v):Sm X (Wp X A (compareOp (if neg then .NotEq else .Eq) u v)) (eqM x y neg σ) (Rl X) s μ:=by
 refine sm_pick fun w he=>?_
 obtain ⟨r,hr,rfl⟩:=zn.mp he
 obtain ⟨rfl,-,h⟩:=feq_at hr hx hy A s
 refine Sm.ok fun Q E hQ=>?_
 cases neg with
 | false=>exact h.1 X.prog X.w E Q (hQ _ s μ (Step.refl c.hr c.base) (by unfold yes;refine gw (zac ..) ?_;exact .bool _))
 | true=>exact h.2 X.prog X.w E Q (hQ _ s μ (Step.refl c.hr c.base) (by unfold yes;refine gw (zas ..) ?_;exact .bool _))
theorem sm_cmp (c:Cn X A d hn s μ σ) (op:Cmp) {x y:V}{u v:Value} (hx:VR X s.heap μ x u) (hy:VR X s.heap μ y v) :
  Sm X (Wp X A (compareOp (cmOf op) u v)) (cmpV op x y σ) (Rl X) s μ:=by
 cases op with
 | eq=>exact sm_eq c false hx hy
 | ne=>exact sm_eq c true hx hy
 | lt =>
  refine sm_i2 hx hy fun i t j t' e1 e2=>?_
  subst e1 e2
  exact Sm.ok fun Q E hQ=>lt_int (hQ _ _ _ (Step.refl c.hr c.base) (.bool _))
 | le =>
  refine sm_i2 hx hy fun i t j t' e1 e2=>?_
  subst e1 e2
  exact Sm.ok fun Q E hQ=>le_int (hQ _ _ _ (Step.refl c.hr c.base) (.bool _))
 | gt =>
  refine sm_i2 hx hy fun i t j t' e1 e2=>?_
  subst e1 e2
  exact Sm.ok fun Q E hQ=>gt_int (hQ _ _ _ (Step.refl c.hr c.base) (.bool _))
 | ge =>
  refine sm_i2 hx hy fun i t j t' e1 e2=>?_
  subst e1 e2
  exact Sm.ok fun Q E hQ=>ge_int (hQ _ _ _ (Step.refl c.hr c.base) (.bool _))
 | is =>
  cases hy with
  | none=>exact Sm.ok fun Q E hQ=>is_none_gen (by refine gw (hx.none_iff ..) ?_;exact hQ _ _ _ (Step.refl c.hr c.base) (.bool _))
  | _=>exact Sm.stuck
 | isnt =>
  cases hy with
  | none=>exact Sm.ok fun Q E hQ=>isnot_none_gen (by refine gw (hx.none_iff ..) ?_;exact hQ _ _ _ (Step.refl c.hr c.base) (.bool _))
  | _=>exact Sm.stuck
 | isin=>exact sm_in c hx hy
end
end Mine
namespace Mine
open PySem PyProof.Rows PySem.SeqAt
section
variable {X:W}{A:Around}{d:Nat}{hn:Bool}{s:Shared}{μ:List Addr}{σ:H}
theorem idxN_seq {k:Int}{n j:Nat} (e:idxN k n=some j):seqIndex? k n=some j/\j < n:=by
 unfold idxN at e
 unfold seqIndex?
 split at e
 ·rename_i h
  split at e
  ·rename_i h2
   cases e
   have h1:¬ k < 0:=u9.mpr h
   simp only [h1,if_false]
   refine ⟨?_,h2⟩
   exact gw (if_pos (yt.mpr ⟨decide_eq_true h,decide_eq_true ((ud h).mp h2)⟩) ..) rfl
  ·cases e
 ·rename_i h
  split at e
  ·rename_i h2
   cases e
   have h1:k < 0:=j4.mp h
   have h3:k + n < n:=vu (Int.add_lt_add_right h1 n) (Int.le_of_eq (Int.zero_add _))
   simp only [h1,if_true]
   refine ⟨?_,(ud h2).mpr h3⟩
   exact gw (if_pos (yt.mpr ⟨decide_eq_true h2,decide_eq_true h3⟩) ..) rfl
  ·cases e
theorem idxN_fits {k:Int}{n j:Nat} (e:idxN k n=some j) (hz:n<=lim):-(2 ^ 63)<=k/\k < 2 ^ 63:=by
 have hn:(n:Int)<=lim:=yw.mpr hz
 unfold idxN at e
 split at e
 ·rename_i h
  split at e
  ·rename_i h2
   exact ⟨ue (by decide) h,jx ((ud h).mp h2) (wv hn (by decide))⟩
  ·cases e
 ·rename_i h
  split at e
  ·rename_i h2
   exact ⟨ue (ue (by decide) (Int.neg_le_neg hn)) (zao ((Int.sub_neg _ _).symm▸h2)),jx (j4.mp h) (by decide)⟩
  ·cases e
theorem rule_item {a:Addr}{l:List Value} (L:s.heap.IsList a l.toArray) (hz:l.length<=lim) {k:Int}{t:Tok}{j:Nat} (e:idxN k l.length=some j) {u:Value} (hu:l[j]?=some u) {Q:Value->Shared->Prop}{E:Value->Shared->Prop}
  (h:Q u s):wpAny (Mo X) A (getItem (.ref a) (.int k t)) Q E s:=by
 obtain ⟨f1,f2⟩:=idxN_fits e hz
 unfold idxN at e
 split at e
 ·rename_i h0
  split at e
  ·cases e
   exact wpAny_getItem_list L h0 f2 (by simpa using hu) h
  ·cases e
 ·rename_i h0
  split at e
  ·rename_i h1
   cases e
   exact wpAny_getItem_list_neg L (j4.mp h0) (zao ((Int.sub_neg _ _).symm▸h1)) f1 (by simpa using hu) h
  ·cases e
theorem sm_idx (c:Cn X A d hn s μ σ) {value slice:Expr}{x y:V}{u v:Value} (hx:VR X s.heap μ x u) (hy:VR X s.heap μ y v)
  (hs:subscripted slice false u v=operate [u,v] (getItem u v)):Sm X (Wp X A (subscriptTail value slice u v)) (idxV X.ns x y σ) (Rl X) s μ:=by
 cases hy with
 | int k t =>
  cases hx with
  | @ref i a hi =>
   refine sm_onL c hi fun xs l n ho e r hz=>sm_pick fun w he=>?_
   obtain ⟨j,e1,e2⟩:=y6.mp he
   obtain ⟨z,hz1,hz2⟩:=r.get e2
   have L:s.heap.IsList a l.toArray:=⟨_,e,rfl,_,rfl⟩
   replace e1:=(r.length ..)▸e1
   exact Sm.ok fun Q E hQ=>tail_any L.typeIs slot_list_getitem.lookup (rule_item L hz e1 hz1 (hQ _ _ _ (Step.refl c.hr c.base) hz2)) hs
  | @tup xs a l n e hb hz r =>
   refine sm_pick fun w he=>?_
   obtain ⟨j,e1,e2⟩:=y6.mp he
   obtain ⟨z,hz1,hz2⟩:=r.get e2
   replace e1:=(r.length ..)▸e1
   obtain ⟨f1,f2⟩:=idxN_fits e1 hz
   have T:IsTup s.heap a l.toArray:=⟨_,e,rfl,_,rfl⟩
   exact Sm.ok fun Q E hQ=>item_tupleT T f1 f2 (by simpa using (idxN_seq e1).1) (by simpa using hz1) (hQ _ _ _ (Step.refl c.hr c.base) hz2) hs
  | str w t' hw =>
   refine sm_pick fun v he=>?_
   obtain ⟨q,he',rfl⟩:=zn.mp he
   obtain ⟨j,e1,e2⟩:=y6.mp he'
   replace e1:=(codes_length ..)▸e1
   obtain ⟨f1,f2⟩:=idxN_fits e1 hw
   refine Sm.ok fun Q E hQ=>tail_any (typeIs_str s w t') slot_str_getitem.lookup (getItem_str (c:=q) (Bool.or_eq_false_iff.mpr ⟨decide_eq_false (u9.mpr f1),decide_eq_false (j4.mpr f2)⟩) ?_ (hQ _ _ _ (c.same _) (.str ⟨#[q]⟩ _ (xu rfl)))) hs
   refine gw ((idxN_seq e1).1 ..) ?_
   simpa [codes] using e2
  | scr =>
   refine sm_pick fun v he=>?_
   obtain ⟨w,he',rfl⟩:=zn.mp he
   obtain ⟨j,e1,e2⟩:=y6.mp he'
   obtain ⟨vs,q_h⟩:=(c.scr);refine an3 q_h fun L₀ hi hz=>?_
   have L:s.heap.IsList X.scr vs.toArray:=let ⟨o,a,b⟩:=L₀;⟨o,c.base.keep _ _ a,b⟩
   replace e1:=(hi.length ..)▸e1
   obtain ⟨t',e3⟩:=hi.get j w e2
   exact Sm.ok fun Q E hQ=>tail_any L.typeIs slot_list_getitem.lookup (rule_item L hz e1 e3 (hQ _ _ _ (Step.refl c.hr c.base) (.int _ _))) hs
  | _=>exact Sm.stuck
 | str z t hzl =>
  cases hx with
  | @ref i a hi =>
   refine sm_onD c hi fun kvs l ho hd r _=>sm_pick fun w he=>?_
   rcases r.get z with ⟨e1,_⟩ | ⟨w',q,e1,e2,hr⟩
   ·replace e1:=he▸e1;cases e1
   ·replace e1:=he▸e1;cases e1
    exact Sm.ok fun Q E hQ=>tail_any hd.typeIs slot_dict_getitem.lookup (wpAny_getItem_of (strKind_is X.prog X.w z t) hd.mapOf e2 (hQ _ _ _ (c.same _) hr)) hs
  | _=>exact Sm.stuck
 | _=>exact Sm.stuck
theorem clamp_clip (k:Int) (n:Nat):clampN k n=clipAt n k:=by
 cases k with
 | ofNat a=>exact (if_pos (z8 a)).trans (clipAt_nat n a).symm
 | negSucc m=>exact (if_neg (j4.mpr (Int.negSucc_lt_zero m))).trans ((congrArg Int.toNat (Int.add_comm _ _)).trans ((Int.toNat_sub n (m + 1)).trans (clipAt_neg n (m + 1) (zq (z7 m))).symm))
theorem cut_pick {l:List Value} (lo hi:Option Int):slicePick l.toArray lo hi none=(cut l lo hi).toArray:=by
 refine gw (slicePick_plain ..) ?_
 unfold cut
 cases lo <;> cases hi <;> simp [clamp_clip]
theorem VRs.cut {h:Heap}{xs:List V}{l:List Value} (r:VRs X h μ xs l) (lo hi:Option Int):VRs X h μ (cut xs lo hi) (cut l lo hi):=by
 unfold Mine.cut
 refine gw (r.length ..) ?_
 exact (r.drop _).take _
theorem cut_le {α:Type} (xs:List α) (lo hi:Option Int):(cut xs lo hi).length<=xs.length:=((jh _ _).trans (vg _ _)).length_le
theorem cut_map {α β:Type} (f:α->β) (xs:List α) (lo hi:Option Int):(cut xs lo hi).map f=cut (xs.map f) lo hi:=by
 unfold cut
 rw [zb,zat,zau]
theorem indices_cut (x:Str) (lo hi:Option Int):(Builtin.Str.strSliceIndices lo hi 1 x.length).filterMap (x.cps[·]?)=cut (codes x) lo hi/\(Builtin.Str.strSliceIndices lo hi 1 x.length).length=(cut (codes x) lo hi).length:=by
 have hb:∀ n:Nat,Builtin.Str.strSliceIndices lo hi 1 n=sliceRange ((lo.elim 0 (clipAt n):Nat):Int) ((hi.elim n (clipAt n):Nat):Int) 1:=by
  intro n
  unfold Builtin.Str.strSliceIndices
  cases lo <;> cases hi <;> simp [clipAt_cast]
 rw [hb,sliceRange_one,pick_run]
 have e:cut (codes x) lo hi=(x.cps.toList.drop (lo.elim 0 (clipAt x.length))).take (hi.elim x.length (clipAt x.length) - lo.elim 0 (clipAt x.length)):=by
  unfold cut
  refine gw (codes_length ..) ?_
  cases lo <;> cases hi <;> simp [clamp_clip,codes]
 refine ⟨e.symm,?_⟩
 refine gw e ?_
 simp only [zb,vj,yu,w5]
 have h1:x.cps.toList.length=x.length:=by simp [Str.length]
 refine gw h1 ?_
 cases hi with
 | none=>exact (Nat.min_self _).symm
 | some i=>exact (yf (Nat.sub_le_sub_right (fe.mpr (Int.max_le.mpr ⟨z8 _,Int.min_le_right _ _⟩)) _)).symm
theorem cut_full {α:Type}{xs:List α}{lo hi:Option Int} (h:(cut xs lo hi).length=xs.length):cut xs lo hi=xs:=((jh _ _).trans (vg _ _)).eq_of_length h
theorem vrs_ints {h:Heap}{l:List Value}{ns:List Int} (r:IntsAre l ns):VRs X h μ (ns.map V.int) l:=by
 induction r with
 | nil=>exact .nil
 | cons n t _ ih=>exact .cons (.int n t) ih
theorem Cn.isScr (c:Cn X A d hn s μ σ) {xs:Array Value} (L:X.h₀.IsList X.scr xs):s.heap.IsList X.scr xs:=by
 obtain ⟨o,e,r⟩:=L
 exact ⟨o,c.base.keep _ _ e,r⟩
noncomputable def partOf:Value->Option (Int×Tok)
 | .int i t=>some (i,t)
 | _=>none
theorem opt_part {h:Heap}{x:V}{u:Value}{o:Option Int} (e:optInt x=some o) (r:VR X h μ x u):IsPart u o/\partValue (partOf u)=u/\(partOf u).map (·.1)=o:=by
 cases r <;> simp only [optInt] at e <;> cases e
 ·exact ⟨.none,rfl,rfl⟩
 ·exact ⟨.int _ _,rfl,rfl⟩
theorem sm_slice (c:Cn X A d hn s μ σ) {value:Expr}{lower upper:Option Expr}{p:Pos}{x y z:V}{u vl vh:Value} (hx:VR X s.heap μ x u) (hl:VR X s.heap μ y vl) (hh:VR X s.heap μ z vh) :
  Sm X (fun Q E s=>wpAny (Mo X) A (newFields "slice" [vl,vh,.none]) (fun i s₂=>wpAny (Mo X) A (subscriptTail value (.Slice lower upper none p) u i) Q E s₂) E s) (sliceV X.ns x y z σ) (Rl X) s μ:=by
 unfold sliceV
 cases e1:optInt y with
 | none=>exact Sm.stuck
 | some lo =>
  cases e2:optInt z with
  | none=>exact Sm.stuck
  | some hi =>
   obtain ⟨pl,pl1,pl2⟩:=opt_part e1 hl
   obtain ⟨ph,ph1,ph2⟩:=opt_part e2 hh
   have S1:Step X s μ { s with heap:=s.heap.push { cls:=.type "slice",data:=.fields #[vl,vh,.none] } } μ σ:=Step.push c _ s.toks
   have c1:=c.step S1
   have go:∀ {r:R V},Sm X (Wp X A (subscriptTail value (.Slice lower upper none p) u (.ref s.heap.objs.size))) r (Rl X) { s with heap:=s.heap.push { cls:=.type "slice",data:=.fields #[vl,vh,.none] } } μ ->
     Sm X (fun Q E s=>wpAny (Mo X) A (newFields "slice" [vl,vh,.none]) (fun i s₂=>wpAny (Mo X) A (subscriptTail value (.Slice lower upper none p) u i) Q E s₂) E s) r (Rl X) s μ:=by
    intro r h hne Q E hQ hE
    refine wpAny_newObj_type ?_ (by show 3<=sizeLine + 2;decide)
    exact h hne Q E (fun a σ' b s' μ' e S r=>hQ a σ' b s' μ' e (S1.trans S) r) fun cc σ' e s' μ' q S r=>hE cc σ' e s' μ' q (S1.trans S) (r.le S1.pers)
   dsimp only
   cases hx with
   | @ref i a hi' =>
    refine go (sm_onL c1 hi' fun xs l n ho e r hz=>?_)
    ·have L:(s.heap.push { cls:=.type "slice",data:=.fields #[vl,vh,.none] }).IsList a l.toArray:=⟨_,e,rfl,_,rfl⟩
     refine sm_pushed c1 (r.cut lo hi) fun _ Q E hQ=>tail_any L.typeIs list_getitem_lookup (ops:=[.ref s.heap.objs.size,.ref a])
      (wpAny_getItem_list_slice L (Heap.IsSliceOf.new ..) pl ph .none (by simp) ?_ (by refine gw (yq ..) ?_;exact hz)) (by with_unfolding_all rfl)
     refine gw (cut_pick ..) ?_
     exact hQ
   | str w t hw =>
    refine go ?_
    show Sm X _ (mkS (cut (codes w) lo hi) σ) _ _ _
    unfold mkS
    have hcl:(cut (codes w) lo hi).length<=lim:=za (cut_le _ _ _) (by refine gw (codes_length ..) ?_;exact hw)
    refine gw (if_pos hcl ..) ?_
    refine Sm.ok fun Q E hQ=>?_
    obtain ⟨k1,k2⟩:=indices_cut w lo hi
    refine tail_any (typeIs_str _ w t) slot_str_getitem.lookup (ops:=[.ref s.heap.objs.size,.str w t]) (getItem_slot (typeIs_str _ w t) (by decide) slot_str_getitem
     (call_meets slot_str_getitem (typeIs_str _ w t) entry_str_getitem (args_str_getitem _ _) (meets_str_getitem_slice w t s.heap.objs.size (partOf vl) (partOf vh) none rfl) ⟨?_,?_⟩)) (by with_unfolding_all rfl)
    ·refine ⟨_,ym _ rfl,rfl,?_⟩
     refine gw pl1 (gw ph1 ?_);rfl
    ·unfold sliceMade slicePicked
     refine gw pl2 (gw ph2 ?_)
     show Made.post (if ((1:Int) == 1 && (Builtin.Str.strSliceIndices lo hi 1 w.length).length == w.length)=true then _ else _) _ _
     split
     ·rename_i hq
      have hq':(cut (codes w) lo hi).length=(codes w).length:=by refine bw k2 (gw (codes_length ..) ?_);simpa using hq
      have:cut (codes w) lo hi=codes w:=by
       exact cut_full hq'
      exact hQ _ _ _ (Step.refl c1.hr c1.base) (by refine gw (this ..) ?_;exact .str _ _ hw)
     ·rename_i hq
      refine gw (show ((Option.map (fun x:Int×Tok=>x.fst) none).getD 1:Int)=1 from rfl) (gw k1 ?_)
      dsimp only [Made.post]
      have hl:(Str.mk (cut (codes w) lo hi).toArray).length<=lim:=by simp only [Str.length,yq];exact hcl
      refine ⟨hl,hQ _ _ _ ((Step.refl c1.hr c1.base).toks _) ?_⟩
      have:=VR.str (X:=X) (h:=s.heap.push { cls:=.type "slice",data:=.fields #[vl,vh,.none] }) (μ:=μ) ⟨(cut (codes w) lo hi).toArray⟩ s.toks hl
      replace this:=(codes_mk ..)▸this
      exact this
   | scr =>
    refine go ?_
    obtain ⟨vs,q_h⟩:=(c1.scr);refine an3 q_h fun L₀ hi' hz=>?_
    have L:(s.heap.push { cls:=.type "slice",data:=.fields #[vl,vh,.none] }).IsList X.scr vs.toArray:=c1.isScr L₀
    refine sm_pushed c1 (l:=cut vs lo hi) ?_ fun _ Q E hQ=>tail_any L.typeIs list_getitem_lookup (ops:=[.ref s.heap.objs.size,.ref X.scr])
       (wpAny_getItem_list_slice L (Heap.IsSliceOf.new ..) pl ph .none (by simp) ?_ (by refine gw (yq ..) ?_;exact hz)) (by with_unfolding_all rfl)
    ·refine gw (cut_map ..) ?_
     exact (vrs_ints hi').cut lo hi
    ·refine gw (cut_pick ..) ?_
     exact hQ
   | _=>exact Sm.stuck
end
end Mine
namespace Mine
open PySem PyProof.Rows PySem.Calls
noncomputable def asB:V->M Bool
 | .bool b=>.ret b
 | _=>stuck
noncomputable abbrev RlB:Heap->List Addr->Bool->Bool->Prop:=fun _ _ a b=>a=b
noncomputable def isSlice (e:Expr):Bool:=g8 e.ctorIdx 26
noncomputable def isTest (t:E):Bool:=g8 t.ctorIdx 4 || fc 6 t.ctorIdx && fc t.ctorIdx 9
section
variable {X:W}{A:Around}{d:Nat}{s:Shared}{μ:List Addr}{σ:H}{env:zt}{cx:Cx}{ρ:Env}
structure Facts (t:E) (e:Expr):Prop where
 marks:∀ op,behindInMarks op e=false
 star:∀ rest env,starEach (e::rest) env=(false,eval e env)::starEach rest env
 fold:∀ env x,foldedSetIterable e env x=pure x
 slice:isSlice e=false
 swap:isComp t=false->∀ tg l env,swapsWith e tg l env=pure false
 test:isTest t=false->∀ env whole,isTrue e env whole=(do let v ← whole;standAt e.pos;holding [v] (truthy v))
theorem Facts.call {t:E}{e:Expr}{f:Expr}{xs:List Expr}{ks:List Keyword}{p:Pos} (h:e=.Call f xs ks p):Facts t e:=by subst h;exact ⟨fun _=>rfl,fun _ _=>rfl,fun _ _=>rfl,rfl,fun _ _ _ _=>rfl,fun _ _ _=>rfl⟩
theorem Facts.name {t:E}{e:Expr}{x:Str}{p:Pos} (h:e=.Name x p):Facts t e:=by subst h;exact ⟨fun _=>rfl,fun _ _=>rfl,fun _ _=>rfl,rfl,fun _ _ _ _=>rfl,fun _ _ _=>rfl⟩
theorem Facts.cmp {t:E}{e:Expr}{l:Expr}{os:List CmpOp}{rs:List Expr}{p:Pos} (ht:isTest t=true) (h:e=.Compare l os rs p):Facts t e:=by subst h;exact ⟨fun _=>rfl,fun _ _=>rfl,fun _ _=>rfl,rfl,fun _ _ _ _=>rfl,(fun q=>nomatch ht.symm.trans q)⟩
theorem Facts.bool {t:E}{e:Expr}{op:BoolOp}{xs:List Expr}{p:Pos} (ht:isTest t=true) (h:e=.BoolOp op xs p):Facts t e:=by subst h;exact ⟨fun _=>rfl,fun _ _=>rfl,fun _ _=>rfl,rfl,fun _ _ _ _=>rfl,(fun q=>nomatch ht.symm.trans q)⟩
theorem Facts.sub {t:E}{e:Expr}{v i:Expr}{p:Pos} (h:e=.Subscript v i p):Facts t e:=by subst h;exact ⟨fun _=>rfl,fun _ _=>rfl,fun _ _=>rfl,rfl,fun _ _ _ _=>rfl,fun _ _ _=>rfl⟩
theorem Facts.comp {t:E}{e:Expr}{el:Expr}{gs:List Comprehension}{sc:Scope}{p:Pos} (ht:isComp t=true) (h:e=.ListComp el gs sc p):Facts t e:=by subst h;exact ⟨fun _=>rfl,fun _ _=>rfl,fun _ _=>rfl,rfl,(fun q=>nomatch ht.symm.trans q),fun _ _ _=>rfl⟩
theorem T.facts {G:GT}{t:E}{e:Expr} (h:T G t cx e):Facts t e:=by
 cases t
 case lit=>obtain ⟨_,_,_,rfl,_⟩:=h;exact ⟨fun _=>rfl,fun _ _=>rfl,fun _ _=>rfl,rfl,fun _ _ _ _=>rfl,fun _ _ _=>rfl⟩
 case var=>exact ex2 h fun _ _ q=>.name q.1
 case con=>exact ex2 h fun _ _ q=>.name q.1
 case cmp2=>exact ex4 h fun _ _ _ _ q=>.cmp rfl q.1
 case new=>exact ex4 h fun _ _ _ _ q=>.call q.1
 case mcall=>exact ex5 h fun _ _ _ _ _ q=>.call q.1
 case attr=>obtain ⟨_,_,_,rfl,_⟩:=h;exact ⟨fun _=>rfl,fun _ _=>rfl,fun _ _=>rfl,rfl,fun _ _ _ _=>rfl,fun _ _ _=>rfl⟩
 case mm k _ _=>exact ex5 h fun _ _ _ _ _ q=>by cases k <;> exact .call q.1
 case bin=>obtain ⟨_,_,_,rfl,_⟩:=h;exact ⟨fun _=>rfl,fun _ _=>rfl,fun _ _=>rfl,rfl,fun _ _ _ _=>rfl,fun _ _ _=>rfl⟩
 case not=>obtain ⟨_,_,rfl,_⟩:=h;exact ⟨fun _=>rfl,fun _ _=>rfl,fun _ _=>rfl,rfl,fun _ _ _ _=>rfl,fun h=>nomatch h⟩
 case neg=>obtain ⟨_,_,rfl,_⟩:=h;exact ⟨fun _=>rfl,fun _ _=>rfl,fun _ _=>rfl,rfl,fun _ _ _ _=>rfl,fun _ _ _=>rfl⟩
 case and=>exact ex2 h fun _ _ q=>.bool rfl q.1
 case or=>exact ex2 h fun _ _ q=>.bool rfl q.1
 case cmp=>exact ex3 h fun _ _ _ q=>.cmp rfl q.1
 case call=>exact ex4 h fun _ _ _ _ q=>.call q.1
 case bi=>exact ex3 h fun _ _ _ q=>.call q.1
 case isi=>exact ex4 h fun _ _ _ _ q=>.call q.1
 case me=>exact ex4 h fun _ _ _ _ q=>.call q.1
 case idx=>exact ex3 h fun _ _ _ q=>.sub q.1
 case slice=>exact ex5 h fun _ _ _ _ _ q=>.sub q.1
 case nil=>exact h.elim
 case list=>obtain ⟨_,_,rfl,_⟩:=h;exact ⟨fun _=>rfl,fun _ _=>rfl,fun _ _=>rfl,rfl,fun _ _ _ _=>rfl,fun _ _ _=>rfl⟩
 case tup=>obtain ⟨_,_,_,rfl,_⟩:=h;exact ⟨fun _=>rfl,fun _ _=>rfl,fun _ _=>rfl,rfl,fun _ _ _ _=>rfl,fun _ _ _=>rfl⟩
 case dict0=>obtain ⟨_,rfl⟩:=h;exact ⟨fun _=>rfl,fun _ _=>rfl,fun _ _=>rfl,rfl,fun _ _ _ _=>rfl,fun _ _ _=>rfl⟩
 case comp=>exact ex7 h fun _ _ _ _ _ _ _ q=>.comp rfl q.1
 case compIf=>exact ex8 h fun _ _ _ _ _ _ _ _ q=>.comp rfl q.1
theorem Sm.go {α β γ δ:Type}{P:PT β}{P2:β->PT δ}{m:M α}{k:α->M γ}{rel:Heap->List Addr->α->β->Prop}{rel2:Heap->List Addr->γ->δ->Prop}
  (c:Cn X A d true s μ σ) (F:FR X env cx ρ s.heap μ)
  (h1:Sm X P (m σ) rel s μ) (h2:∀ a σ₁ b s₁ μ₁,Cn X A d true s₁ μ₁ σ₁->FR X env cx ρ s₁.heap μ₁->Step X s μ s₁ μ₁ σ₁->rel s₁.heap μ₁ a b->Sm X (P2 b) (k a σ₁) rel2 s₁ μ₁) :
  Sm X (fun Q E s=>P (fun b s₁=>P2 b Q E s₁) E s) (m.bnd k σ) rel2 s μ :=
 h1.bind fun a σ₁ b s₁ μ₁ _ S r=>h2 a σ₁ b s₁ μ₁ (c.step S) (F.step c.hr S) S r
theorem sm_truthy (c:Cn X A d true s μ σ) {v:V}{u:Value} (r:VR X s.heap μ v u):Sm X (Wp X A (truthy u)) (asB v σ) RlB s μ:=by
 cases r <;> first | exact Sm.stuck | skip
 exact Sm.ok fun Q E hQ=>wpAny_truthy_bool (hQ _ _ _ (Step.refl c.hr c.base) rfl)
theorem Cn.ret (c:Cn X A d true s μ σ) {v:V}{u:Value} (r:VR X s.heap μ v u) {P:PT Value} (h:∀ Q E,Q u s->P Q E s):Sm X P (.ok v σ) (Rl X) s μ:=Sm.ok fun Q E hQ=>h Q E (hQ _ _ _ (Step.refl c.hr c.base) r)
noncomputable def SimE (X:W) (C:Calls) (G:GT) (d:Nat) (t:E):Prop :=
 ∀ (cx:Cx) (e:Expr),T G t cx e->∀ (A:Around) (env:zt) (ρ:Env) (s:Shared) (μ:List Addr) (σ:H),Cn X A d true s μ σ->FR X env cx ρ s.heap μ ->
  Sm X (Wp X A (eval e env)) (evE X.ns C ρ t σ) (Rl X) s μ
noncomputable def SimT (X:W) (C:Calls) (G:GT) (d:Nat) (t:E):Prop :=
 ∀ (cx:Cx) (e:Expr),T G t cx e->∀ (A:Around) (env:zt) (ρ:Env) (s:Shared) (μ:List Addr) (σ:H),Cn X A d true s μ σ->FR X env cx ρ s.heap μ ->
  Sm X (Wp X A (isTrue e env (eval e env))) ((evE X.ns C ρ t).bnd asB σ) RlB s μ
structure Sim (X:W) (C:Calls) (G:GT) (d:Nat) (t:E):Prop where
 ev:SimE X C G d t
 tr:SimT X C G d t
noncomputable def Sims (X:W) (C:Calls) (G:GT) (d:Nat):List E->Prop
 | []=>True
 | t::ts=>Sim X C G d t/\Sims X C G d ts
variable {C:Calls}{G:GT}
theorem Sim.plain {t:E} (h:SimE X C G d t) (ht:isTest t=false):Sim X C G d t :=
 ⟨h,fun cx e he A env ρ s μ σ c F=>(Sm.go c F (h cx e he A env ρ s μ σ c F) fun _ _ _ _ _ c1 _ _ r=>sm_truthy c1 r).imp fun Q E hq=>isTrue_plain hq (he.facts.test ht _ _)⟩
theorem lit_ok {hn:Bool}{v:V}{e:Expr} (c:Cn X A d hn s μ σ) (hT:T G (.lit v) cx e):Sm X (Wp X A (eval e env)) (.ok v σ) (Rl X) s μ:=by
 refine ex3 (hT) fun k i p q_h=>?_;obtain ⟨he,hk⟩:=q_h
 subst he
 show Sm X _ (.ok v σ) _ _ _
 cases k <;> first | (cases hk;done) | skip
 ·cases hk;exact Sm.ok fun Q E hQ=>Constant_none (hQ _ _ _ (Step.refl c.hr c.base) .none)
 ·cases hk;exact Sm.ok fun Q E hQ=>Constant_bool (hQ _ _ _ (Step.refl c.hr c.base) (.bool _))
 ·cases hk;exact Sm.ok fun Q E hQ=>wpAny_Constant_int (hQ _ _ _ ((Step.refl c.hr c.base).toks _) (.int _ _))
 ·unfold litOf at hk
  dsimp only at hk
  split at hk
  ·rename_i hl
   cases hk
   refine Sm.ok fun Q E hQ=>PySem.Calls.Constant_str (hQ _ _ _ ((Step.refl c.hr c.base).toks _) (.str _ _ ?_))
   refine bw (codes_length ..) ?_;exact za hl (by decide)
  ·cases hk
theorem sim_lit (v:V):SimE X C G d (.lit v):=fun cx e hT A env ρ s μ σ c F=>lit_ok c hT
theorem Base.ns {h:Heap} (B:Base X h) {a:Addr}{m:Str->Option Value} (n:X.h₀.Ns a m):h.Ns a m:=by
 refine ex3 (n) fun o es ep q_h=>?_;obtain ⟨e,r⟩:=q_h
 exact ⟨o,es,ep,B.keep _ _ e,r⟩
theorem FR.kindOf (F:FR X env cx ρ s.heap μ) {x:Str}:env.kindOf x=cx.kinds.lookup x:=by
 show env.scope.names.lookup x=_
 exact gw (F.names ..) rfl
theorem glob_eq {x:Str} (h:cx.glob x=true):cx.kinds.lookup x=some .globalImplicit/\(x == ("__debug__":Str))=false:=by
 obtain ⟨h1,h2⟩:=yt.mp h
 exact ⟨of_decide_eq_true h1,by simpa using of_decide_eq_true h2⟩
theorem sim_global {hn:Bool} (c:Cn X A d hn s μ σ) (F:FR X env cx ρ s.heap μ) {mg:Str->Option Value} (n:X.h₀.Ns mainGlobals mg) {x:Str}{p:Pos}{u:Value} (hx:cx.glob x=true) (hu:mg x=some u) {Q:Value->Shared->Prop}{E:Value->Shared->Prop}
  (h:Q u s):wpAny (Mo X) A (eval (.Name x p) env) Q E s:=by
 obtain ⟨h1,h2⟩:=glob_eq hx
 exact Name_function_global F.kind (by refine gw (F.kindOf ..) ?_;exact h1) (loadGlobal_global (mg:=mg) (by refine gw (F.globals ..) ?_;exact c.base.ns n) hu h) h2
theorem sim_builtin (c:Cn X A d true s μ σ) (F:FR X env cx ρ s.heap μ) {mg mb:Str->Option Value} (n:X.h₀.Ns mainGlobals mg) (nb:X.h₀.Ns builtinsNs mb) {x:Str}{p:Pos}{u:Value} (hx:cx.glob x=true) (hg:mg x=none) (hu:mb x=some u) {Q:Value->Shared->Prop}{E:Value->Shared->Prop}
  (h:Q u s):wpAny (Mo X) A (eval (.Name x p) env) Q E s:=by
 obtain ⟨h1,h2⟩:=glob_eq hx
 exact Name_function_global F.kind (by refine gw (F.kindOf ..) ?_;exact h1) (loadGlobal_builtin (mg:=mg) (mb:=mb) (by refine gw (F.globals ..) ?_;exact c.base.ns n) hg (by refine gw (F.builtins ..) ?_;exact c.base.ns nb) hu h) h2
theorem slot_lk {x:Str}{k:Nat} (h:cx.slot x=some k):cx.slots.lookup x=some k/\(cx.kinds.lookup x=some .local∨cx.kinds.lookup x=some .cell):=by
 unfold Cx.slot at h
 split at h
 ·exact ⟨h,.inl ‹_›⟩
 ·exact ⟨h,.inr ‹_›⟩
 ·cases h
theorem nam_ok {hn:Bool}{k:Nat}{v:V}{e:Expr} (c:Cn X A d hn s μ σ) (F:FR X env cx ρ s.heap μ) (hT:T G (.var k) cx e) (hv:ρ[k]?=some (some v)):Sm X (Wp X A (eval e env)) (.ok v σ) (Rl X) s μ:=by
 refine ex2 (hT) fun x p q_h=>?_;refine an3 q_h fun he hk hdb=>?_
 subst he
 refine Sm.ok fun Q E hQ=>wpAny_Name ?_ hdb
 obtain ⟨h,hkd | hkd⟩:=slot_lk hk
 ·obtain ⟨m,n,hm⟩:=F.ns
  obtain ⟨u,e,r⟩:=hm x k v hkd h hv
  exact wpAny_loadName_local F.kind (by refine gw (F.kindOf ..) ?_;exact hkd) n e (hQ _ _ _ (Step.refl c.hr c.base) r)
 ·refine ex2 (F.cell x k hkd h) fun a u q_h=>?_;refine an3 q_h fun h1 h2 h3=>?_
  obtain ⟨y,rfl,r⟩:=h3 v hv
  exact wpAny_loadName_cell F.kind (by refine gw (F.kindOf ..) ?_;exact hkd) h1 h2 (hQ _ _ _ (Step.refl c.hr c.base) r)
theorem sim_var (k:Nat):SimE X C G d (.var k):=by
 intro cx e hT A env ρ s μ σ c F
 show Sm X _ ((match ρ[k]? with | some (some v)=>M.ret v | _=>stuck:M V) σ) _ _ _
 rcases hv:ρ[k]? with _ | _ | v
 ·exact Sm.stuck
 ·exact Sm.stuck
 ·exact nam_ok c F hT hv
theorem sim_bin {op:Bin}{a b:E} (ha:SimE X C G d a) (hb:SimE X C G d b):SimE X C G d (.bin op a b):=by
 intro cx e hT A env ρ s μ σ c F
 refine ex3 (hT) fun l r p q_h=>?_;refine an3 q_h fun he h1 h2=>?_
 subst he
 exact (Sm.go (k:=fun x=>(evE X.ns C ρ b).bnd fun y=>binV op x y) c F (ha cx l h1 A env ρ s μ σ c F) fun _ _ _ _ _ c1 F1 S1 r1=>Sm.go c1 F1 (hb cx r h2 A env ρ _ _ _ c1 F1) fun _ _ _ _ _ c2 F2 S2 r2=>sm_bin c2 op (S2.vr c1.hr r1) r2).imp fun Q E h=>wpAny_BinOp h
theorem sm_not (c:Cn X A d true s μ σ) {v:V}{u:Value} (r:VR X s.heap μ v u):Sm X (Wp X A (unaryOp .Not u)) (notV v σ) (Rl X) s μ:=by
 cases r <;> first | exact Sm.stuck | skip
 exact Sm.ok fun Q E hQ=>not_of (wpAny_truthy_bool (hQ _ _ _ (Step.refl c.hr c.base) (.bool _)))
theorem sm_neg (c:Cn X A d true s μ σ) {v:V}{u:Value} (r:VR X s.heap μ v u):Sm X (Wp X A (unaryOp .USub u)) (negV v σ) (Rl X) s μ:=by
 cases r <;> first | exact Sm.stuck | skip
 exact Sm.ok fun Q E hQ=>PyProof.Rows.neg_int (hQ _ _ _ ((Step.refl c.hr c.base).toks _) (.int _ _))
theorem sim_neg {a:E} (ha:SimE X C G d a):SimE X C G d (.neg a):=by
 intro cx e hT A env ρ s μ σ c F
 refine ex2 (hT) fun x p q_h=>?_;obtain ⟨he,h1⟩:=q_h
 subst he
 exact (Sm.go (k:=negV) c F (ha cx x h1 A env ρ s μ σ c F) fun _ _ _ _ _ c1 _ _ r=>sm_neg c1 r).imp fun Q E h=>UnaryOp_ h
theorem bnd_assoc {α β γ:Type} (m:M α) (f:α->M β) (g:β->M γ):(m.bnd f).bnd g=m.bnd fun a=>(f a).bnd g:=by
 funext σ
 unfold M.bnd
 cases m σ <;> rfl
theorem asB_not (v:V):(notV v).bnd asB=(asB v).bnd fun b=>M.ret (!b):=by cases v <;> rfl
theorem sim_not {a:E} (h:Sim X C G d a):Sim X C G d (.not a) where
 ev:=by
  intro cx e hT A env ρ s μ σ c F
  refine ex2 (hT) fun x p q_h=>?_;obtain ⟨he,h1⟩:=q_h
  subst he
  exact (Sm.go (k:=notV) c F (h.ev cx x h1 A env ρ s μ σ c F) fun _ _ _ _ _ c1 _ _ r=>sm_not c1 r).imp fun Q E h=>UnaryOp_ h
 tr:=by
  intro cx e hT A env ρ s μ σ c F
  refine ex2 (hT) fun x p q_h=>?_;obtain ⟨he,h1⟩:=q_h
  subst he
  have e:(evE X.ns C ρ (.not a)).bnd asB=((evE X.ns C ρ a).bnd asB).bnd fun b=>.ret (!b):=by
   show ((evE X.ns C ρ a).bnd notV).bnd asB=_
   refine gw (bnd_assoc ..) (gw (bnd_assoc ..) ?_)
   exact congrArg _ (funext asB_not)
  refine gw e ?_
  exact (Sm.go c F (h.tr cx x h1 A env ρ s μ σ c F) (P2:=fun b Q E s=>Q (!b) s) fun b σ₁ b' s₁ μ₁ c1 _ _ r=>by
   cases r
   exact Sm.ok fun Q E hQ=>hQ _ _ _ (Step.refl c1.hr c1.base) rfl).imp fun Q E h=>isTrue_not h
noncomputable def opE (op:BoolOp) (ts:List E):E:=match op with | .And=>.and ts | .Or=>.or ts
noncomputable def more (op:BoolOp) (rest:M V) (last:Bool) (v:V):M V:=match v with
 | .bool b=>if last then .ret (.bool b) else (if b == (match op with | .And=>true | .Or=>false) then rest else .ret (.bool b))
 | _=>stuck
theorem evE_one (op:BoolOp) (ρ:Env) (a:E):evE X.ns C ρ (opE op [a])=(evE X.ns C ρ a).bnd (more op stuck true):=by
 cases op <;> (show M.bnd _ _=_;exact congrArg _ (funext fun v=>by cases v <;> rfl))
theorem evE_more (op:BoolOp) (ρ:Env) (a b:E) (r:List E):evE X.ns C ρ (opE op (a::b::r))=(evE X.ns C ρ a).bnd (more op (evE X.ns C ρ (opE op (b::r))) false):=by
 cases op <;> (show M.bnd _ _=_;refine congrArg _ (funext fun v=>?_);rcases v with _ | b | _ | _ | _ | _ | _ | _ | _ <;> first | rfl | (cases b <;> rfl))
theorem more_asB (op:BoolOp) (rest:M V) (v:V):(more op rest false v).bnd asB=(asB v).bnd fun b=>if b == (match op with | .And=>true | .Or=>false) then rest.bnd asB else M.ret b:=by
 rcases v with _ | b | _ | _ | _ | _ | _ | _ | _ <;> first | rfl | (cases b <;> cases op <;> rfl)
theorem sim_bools {p:Pos} (op:BoolOp) {ts:List E}:Sims X C G d ts->∀ {cx:Cx}{es:List Expr},Ts G ts cx es->∀ {A:Around}{env:zt}{ρ:Env}{s:Shared}{μ:List Addr}{σ:H},Cn X A d true s μ σ->FR X env cx ρ s.heap μ ->
  Sm X (Wp X A (eval (.BoolOp op es p) env)) (evE X.ns C ρ (opE op ts) σ) (Rl X) s μ:=by
 induction ts with
 | nil=>intros;cases op <;> exact Sm.stuck
 | cons a ts ih =>
  intro hs cx es hT A env ρ s μ σ c F
  refine ex2 hT fun e es' q=>?_;obtain ⟨rfl,h1,h2⟩:=q
  replace ih:=fun {s:Shared}{μ:List Addr}{σ:H} (c1:Cn X A d true s μ σ) (F1:FR X env cx ρ s.heap μ)=>ih hs.2 h2 c1 F1
  cases ts with
  | nil =>
   cases h2
   refine gw (evE_one ..) ?_
   exact (Sm.go c F (hs.1.ev cx e h1 A env ρ s μ σ c F) (P2:=fun v Q E s=>Q v s) fun v σ₁ u s₁ μ₁ c1 _ _ r=>by
    cases r <;> first | exact Sm.stuck | exact c1.ret (.bool _) fun _ _ h=>h).imp fun Q E h=>BoolOp_one h
  | cons a' ts =>
   obtain ⟨e',es,rfl,-⟩:=h2
   refine gw (evE_more ..) ?_
   cases op with
   | And =>
    refine (Sm.go c F (hs.1.ev cx e h1 A env ρ s μ σ c F) (P2:=fun v Q E s₁=>wpAny (Mo X) A (truthy v) (fun c s₂=>if c then wpAny (Mo X) A (eval (.BoolOp .And (e'::es) p) env) Q E s₂ else Q v s₂) E s₁) fun v σ₁ u s₁ μ₁ c1 F1 S1 r=>?_).imp fun Q E h=>BoolOp_and h
    cases r <;> first | exact Sm.stuck | skip
    rename_i b
    cases b with
    | true=>exact (ih c1 F1).imp fun Q E h=>wpAny_truthy_bool h
    | false=>exact c1.ret (.bool _) fun Q E h=>wpAny_truthy_bool h
   | Or =>
    refine (Sm.go c F (hs.1.ev cx e h1 A env ρ s μ σ c F) (P2:=fun v Q E s₁=>wpAny (Mo X) A (truthy v) (fun c s₂=>if c then Q v s₂ else wpAny (Mo X) A (eval (.BoolOp .Or (e'::es) p) env) Q E s₂) E s₁) fun v σ₁ u s₁ μ₁ c1 F1 S1 r=>?_).imp fun Q E h=>BoolOp_or h
    cases r <;> first | exact Sm.stuck | skip
    rename_i b
    cases b with
    | false=>exact (ih c1 F1).imp fun Q E h=>wpAny_truthy_bool h
    | true=>exact c1.ret (.bool _) fun Q E h=>wpAny_truthy_bool h
theorem simT_bools {p:Pos} (op:BoolOp) {ts:List E}:Sims X C G d ts->∀ {cx:Cx}{es:List Expr},Ts G ts cx es->∀ {A:Around}{env:zt}{ρ:Env}{s:Shared}{μ:List Addr}{σ:H}{whole:Sem Value},Cn X A d true s μ σ->FR X env cx ρ s.heap μ ->
  Sm X (Wp X A (isTrue (.BoolOp op es p) env whole)) ((evE X.ns C ρ (opE op ts)).bnd asB σ) RlB s μ:=by
 induction ts with
 | nil=>intros;cases op <;> exact Sm.stuck
 | cons a ts ih =>
  intro hs cx es hT A env ρ s μ σ whole c F
  refine ex2 hT fun e es' q=>?_;obtain ⟨rfl,h1,h2⟩:=q
  replace ih:=fun {s:Shared}{μ:List Addr}{σ:H} (c1:Cn X A d true s μ σ) (F1:FR X env cx ρ s.heap μ)=>ih hs.2 h2 (whole:=whole) c1 F1
  cases ts with
  | nil =>
   cases h2
   have he:(evE X.ns C ρ (opE op [a])).bnd asB=((evE X.ns C ρ a).bnd asB).bnd fun b=>.ret b:=by
    refine gw (evE_one ..) (gw (bnd_assoc ..) (gw (bnd_assoc ..) ?_))
    exact congrArg _ (funext fun v=>by cases v <;> rfl)
   refine gw he ?_
   refine (Sm.go c F (hs.1.tr cx e h1 A env ρ s μ σ c F) (P2:=fun b Q E s=>Q b s) fun b σ₁ b' s₁ μ₁ c1 _ _ r=>by
    cases r
    exact Sm.ok fun Q E hQ=>hQ _ _ _ (Step.refl c1.hr c1.base) rfl).imp fun Q E h=>?_
   cases op with
   | And=>refine isTrue_and (wpAny_mono h (fun b s' hb=>?_) fun _ _ x=>x);cases b <;> first | exact hb | exact isTrue_and_nil hb
   | Or=>refine isTrue_or (wpAny_mono h (fun b s' hb=>?_) fun _ _ x=>x);cases b <;> first | exact hb | exact isTrue_or_nil hb
  | cons a' ts =>
   obtain ⟨e',es,rfl,-⟩:=h2
   have he:(evE X.ns C ρ (opE op (a::a'::ts))).bnd asB=((evE X.ns C ρ a).bnd asB).bnd fun b=>if b == (match (generalizing:=false) op with | .And=>true | .Or=>false) then (evE X.ns C ρ (opE op (a'::ts))).bnd asB else .ret b:=by
    refine gw (evE_more ..) (gw (bnd_assoc ..) (gw (bnd_assoc ..) ?_))
    exact congrArg _ (funext fun v=>more_asB op _ v)
   refine gw he ?_
   cases op with
   | And =>
    refine (Sm.go c F (hs.1.tr cx e h1 A env ρ s μ σ c F) (P2:=fun b Q E s₂=>if b then wpAny (Mo X) A (isTrue (.BoolOp .And (e'::es) p) env whole) Q E s₂ else Q false s₂) fun b σ₁ b' s₁ μ₁ c1 F1 S1 r=>?_).imp fun Q E h=>isTrue_and h
    cases r
    cases b with
    | true=>exact ih c1 F1
    | false=>exact Sm.ok fun Q E hQ=>hQ _ _ _ (Step.refl c1.hr c1.base) rfl
   | Or =>
    refine (Sm.go c F (hs.1.tr cx e h1 A env ρ s μ σ c F) (P2:=fun b Q E s₂=>if b then Q true s₂ else wpAny (Mo X) A (isTrue (.BoolOp .Or (e'::es) p) env whole) Q E s₂) fun b σ₁ b' s₁ μ₁ c1 F1 S1 r=>?_).imp fun Q E h=>isTrue_or h
    cases r
    cases b with
    | false=>exact ih c1 F1
    | true=>exact Sm.ok fun Q E hQ=>hQ _ _ _ (Step.refl c1.hr c1.base) rfl
theorem sim_and {ts:List E} (hs:Sims X C G d ts):Sim X C G d (.and ts) :=
 ⟨fun cx e ⟨_,_,he,h⟩ A env ρ s μ σ c F=>by subst he;exact sim_bools .And hs h c F,fun cx e ⟨_,_,he,h⟩ A env ρ s μ σ c F=>by subst he;exact simT_bools .And hs h c F⟩
theorem sim_or {ts:List E} (hs:Sims X C G d ts):Sim X C G d (.or ts) :=
 ⟨fun cx e ⟨_,_,he,h⟩ A env ρ s μ σ c F=>by subst he;exact sim_bools .Or hs h c F,fun cx e ⟨_,_,he,h⟩ A env ρ s μ σ c F=>by subst he;exact simT_bools .Or hs h c F⟩
theorem sim_cmp {op:Cmp}{a b:E} (ha:SimE X C G d a) (hb:SimE X C G d b):Sim X C G d (.cmp op a b) where
 ev:=by
  intro cx e hT A env ρ s μ σ c F
  refine ex3 (hT) fun l r p q_h=>?_;refine an3 q_h fun he h1 h2=>?_
  subst he
  exact (Sm.go (k:=fun x=>(evE X.ns C ρ b).bnd fun y=>cmpV op x y) c F (ha cx l h1 A env ρ s μ σ c F) fun _ _ _ _ _ c1 F1 S1 r1=>Sm.go c1 F1 (hb cx r h2 A env ρ _ _ _ c1 F1) fun _ _ _ _ _ c2 F2 S2 r2=>sm_cmp c2 op (S2.vr c1.hr r1) r2).imp fun Q E h=>wpAny_Compare1 h (h2.facts.marks _)
 tr:=by
  intro cx e hT A env ρ s μ σ c F
  refine ex3 (hT) fun l r p q_h=>?_;refine an3 q_h fun he h1 h2=>?_
  subst he
  show Sm X _ (((evE X.ns C ρ a).bnd fun x=>(evE X.ns C ρ b).bnd fun y=>cmpV op x y).bnd asB σ) _ _ _
  simp only [bnd_assoc]
  exact (Sm.go c F (ha cx l h1 A env ρ s μ σ c F) fun _ _ _ _ _ c1 F1 S1 r1=>Sm.go c1 F1 (hb cx r h2 A env ρ _ _ _ c1 F1) fun _ _ _ _ _ c2 F2 S2 r2 =>
   Sm.go c2 F2 (sm_cmp c2 op (S2.vr c1.hr r1) r2) fun _ _ _ _ _ c3 _ _ r3=>sm_truthy c3 r3).imp fun Q E h=>wpAny_isTrue_Compare1 h (h2.facts.marks _)
theorem sim_cmp2 {op op':Cmp}{a b b':E} (ha:SimE X C G d a) (hb:SimE X C G d b) (hb':SimE X C G d b'):Sim X C G d (.cmp2 op op' a b b') where
 ev:=by
  intro cx e hT A env ρ s μ σ c F
  refine ex4 (hT) fun l r r' p q_h=>?_;refine an4 q_h fun he h1 h2 h3=>?_
  subst he
  refine (Sm.go (k:=fun x=>(evE X.ns C ρ b).bnd fun y=>(cmpV op x y).bnd fun r=>match r with
    | .bool true=>(evE X.ns C ρ b').bnd fun z=>cmpV op' y z
    | .bool false=>.ret (.bool false)
    | _=>stuck) c F (ha cx l h1 A env ρ s μ σ c F) fun x _ u _ _ c1 F1 S1 r1=>Sm.go c1 F1 (hb cx r h2 A env ρ _ _ _ c1 F1) fun y _ v _ _ c2 F2 S2 r2 =>
   Sm.go c2 F2 (sm_cmp c2 op (S2.vr c1.hr r1) r2) (P2:=fun k Q E s₂=>wpAny (Mo X) A (truthy k) (fun t s₃=>if t then wpAny (Mo X) A (compareChain p v [cmOf op'] [eval r' env]) Q E s₃ else Q k s₃) E s₂) fun z _ k _ _ c3 F3 S3 r3=>?_).imp
   fun Q E h=>Compare_chain (rs:=[]) (wpAny_mono h (fun _ _ x=>chain_link x) fun _ _ x=>x) (by show behindInMarks _ _=false;exact h3.facts.marks _)
  cases r3 <;> first | exact Sm.stuck | skip
  rename_i b0
  cases b0 with
  | true=>exact (Sm.go c3 F3 (hb' cx r' h3 A env ρ _ _ _ c3 F3) fun _ _ _ _ _ c4 F4 S4 r4=>sm_cmp c4 op' (S4.vr c3.hr (S3.vr c2.hr r2)) r4).imp fun Q E h=>wpAny_truthy_bool (chain_last h)
  | false=>exact c3.ret (.bool _) fun Q E h=>wpAny_truthy_bool h
 tr:=by
  intro cx e hT A env ρ s μ σ c F
  refine ex4 (hT) fun l r r' p q_h=>?_;refine an4 q_h fun he h1 h2 h3=>?_
  subst he
  show Sm X _ (((evE X.ns C ρ a).bnd fun x=>(evE X.ns C ρ b).bnd fun y=>(cmpV op x y).bnd fun r=>match r with
    | .bool true=>(evE X.ns C ρ b').bnd fun z=>cmpV op' y z
    | .bool false=>.ret (.bool false)
    | _=>stuck).bnd asB σ) _ _ _
  simp only [bnd_assoc]
  refine (Sm.go c F (ha cx l h1 A env ρ s μ σ c F) fun x _ u _ _ c1 F1 S1 r1=>Sm.go c1 F1 (hb cx r h2 A env ρ _ _ _ c1 F1) fun y _ v _ _ c2 F2 S2 r2 =>
   Sm.go c2 F2 (sm_cmp c2 op (S2.vr c1.hr r1) r2) (P2:=fun k Q E s₂=>wpAny (Mo X) A (truthy k) (fun t s₃=>if t then wpAny (Mo X) A (testChain p v [cmOf op'] [eval r' env]) Q E s₃ else Q false s₃) E s₂) fun z _ k _ _ c3 F3 S3 r3=>?_).imp
   fun Q E h=>isTrue_chain (rs:=[]) (wpAny_mono h (fun _ _ x=>test_link x) fun _ _ x=>x) (by show behindInMarks _ _=false;exact h3.facts.marks _)
  cases r3 <;> first | exact Sm.stuck | skip
  rename_i b0
  cases b0 with
  | true =>
   show Sm X _ (((evE X.ns C ρ b').bnd fun z=>cmpV op' y z).bnd asB _) _ _ _
   refine gw (bnd_assoc ..) ?_
   exact (Sm.go c3 F3 (hb' cx r' h3 A env ρ _ _ _ c3 F3) fun _ _ _ _ _ c4 F4 S4 r4=>Sm.go c4 F4 (sm_cmp c4 op' (S4.vr c3.hr (S3.vr c2.hr r2)) r4) fun _ _ _ _ _ c5 _ _ r5=>sm_truthy c5 r5).imp fun Q E h=>wpAny_truthy_bool (test_last h)
  | false=>exact Sm.ok fun Q E hQ=>wpAny_truthy_bool (hQ _ _ _ (Step.refl c3.hr c3.base) rfl)
theorem sim_args {p:Pos}{ts:List E}:Sims X C G d ts->∀ {cx:Cx}{es:List Expr},Ts G ts cx es->∀ {A:Around}{env:zt}{ρ:Env}{s:Shared}{μ:List Addr}{σ:H},Cn X A d true s μ σ->FR X env cx ρ s.heap μ ->
  Sm X (Wp X A (spliced (backTo p (starEach es env)))) (evEs X.ns C ρ ts σ) (Rls X) s μ:=by
 induction ts with
 | nil=>intro _ cx es h A env ρ s μ σ c F;cases h;exact Sm.ok fun Q E hQ=>args_nil (hQ _ _ _ (Step.refl c.hr c.base) .nil)
 | cons a ts ih =>
  intro hs cx es h A env ρ s μ σ c F
  refine ex2 h fun e es' q=>?_;obtain ⟨rfl,h1,h2⟩:=q
  exact (Sm.go (k:=fun x=>(evEs X.ns C ρ ts).bnd fun xs=>.ret (x::xs)) c F (hs.1.ev cx e h1 A env ρ s μ σ c F) fun x _ u _ _ c1 F1 S1 r1=>Sm.go c1 F1 (ih hs.2 h2 c1 F1) (P2:=fun vs Q E s=>Q (u::vs) s) fun xs _ us _ _ c2 F2 S2 r2 =>
   Sm.ok fun Q E hQ=>hQ _ _ _ (Step.refl c2.hr c2.base) (.cons (S2.vr c1.hr r1) r2)).imp fun Q E h=>args_cons h (h1.facts.star _ _)
theorem sim_list {ts:List E} (hs:Sims X C G d ts):SimE X C G d (.list ts):=by
 intro cx e hT A env ρ s μ σ c F
 refine ex2 (hT) fun es p q_h=>?_;obtain ⟨he,h1⟩:=q_h
 subst he
 exact (Sm.go (k:=newL) c F (sim_args hs h1 c F) fun _ _ _ _ _ c1 _ _ r=>sm_newL c1 r).imp fun Q E h=>List_ h
theorem sm_mkT (c:Cn X A d true s μ σ) {xs:List V}{l:List Value} (r:VRs X s.heap μ xs l):Sm X (Wp X A (newTuple l)) (mkT xs σ) (Rl X) s μ:=by
 unfold mkT
 split
 ·rename_i hz
  refine Sm.ok fun Q E hQ=>wpAny_newObj_type ?_ (by show l.toArray.size<=sizeLine;refine gw (yq ..) (bw (r.length ..) ?_);exact hz)
  have S1:Step X s μ { s with heap:=s.heap.push { cls:=.type "tuple",data:=.seq l.toArray } } μ σ:=Step.push c _ s.toks
  exact hQ _ _ _ S1 (.tup (ym _ rfl) (c.good (ze _)) (by refine bw (r.length ..) ?_;exact hz) (S1.vrs c.hr r))
 ·exact Sm.stuck
theorem sim_tup {ts:List E} (hs:Sims X C G d ts):SimE X C G d (.tup ts):=by
 intro cx e hT A env ρ s μ σ c F
 refine ex3 (hT) fun es k p q_h=>?_;obtain ⟨he,h1⟩:=q_h
 subst he
 exact (Sm.go (k:=mkT) c F (sim_args hs h1 c F) fun _ _ _ _ _ c1 _ _ r=>sm_mkT c1 r).imp fun Q E h=>Tuple_ h
theorem Cn.newRef (c:Cn X A d true s μ σ) (a:Addr):(μ++[a])[σ.length]?=some a:=by
 refine bw (c.hr.len ..) (gw (zw (ze _) ..) ?_);simp
theorem dict_new {h:Heap}:OR X (h.push { cls:=.type "dict",data:=.dict #[] }) μ h.objs.size (.dict []) :=
 .dict (l:=[]) ⟨_,_,_,ym _ rfl,⟨rfl,rfl,rfl⟩,rfl,fun e he=>by simp at he,.nil,.nil⟩ (z7 _) ⟨rfl,(fun _ h=>nomatch h),.nil⟩
theorem sim_dict0:SimE X C G d .dict0:=by
 intro cx e hT A env ρ s μ σ c F
 obtain ⟨p,he⟩:=hT
 subst he
 exact Sm.ok (a:=V.ref σ.length) (σ:=σ++[O.dict []]) fun Q E hQ=>wpAny_Dict_empty (hQ _ _ (μ++[s.heap.objs.size]) (Step.alloc c s.toks dict_new) (.ref (c.newRef _)))
theorem sim_idx {a i:E} (ha:SimE X C G d a) (hi:SimE X C G d i):SimE X C G d (.idx a i):=by
 intro cx e hT A env ρ s μ σ c F
 refine ex3 (hT) fun v j p q_h=>?_;refine an3 q_h fun he h1 h2=>?_
 subst he
 refine (Sm.go (k:=fun x=>(evE X.ns C ρ i).bnd fun y=>idxV X.ns x y) c F (ha cx v h1 A env ρ s μ σ c F) fun _ _ u _ _ c1 F1 S1 r1=>Sm.go c1 F1 (hi cx j h2 A env ρ _ _ _ c1 F1) fun _ _ w _ _ c2 F2 S2 r2=>sm_idx c2 (value:=v) (slice:=j) (S2.vr c1.hr r1) r2 ?_).imp fun Q E h=>Subscript_ h
 have:=h2.facts.slice
 cases j <;> first | rfl | cases this
theorem sim_opt {a:E} (ha:SimE X C G d a) {cx:Cx}{o:Option Expr} (ho:(o=none/\isNil a=true)∨∃ x,o=some x/\T G a cx x) {A:Around}{env:zt}{ρ:Env}{s:Shared}{μ:List Addr}{σ:H} (c:Cn X A d true s μ σ) (F:FR X env cx ρ s.heap μ) :
  Sm X (Wp X A (valueOrNone (evalOpt o env))) (evE X.ns C ρ a σ) (Rl X) s μ:=by
 rcases ho with ⟨rfl,h⟩ | ⟨x,rfl,h⟩
 ·cases a <;> first | (cases h;done) | exact Sm.ok fun Q E hQ=>wpAny_pure (hQ _ _ _ (Step.refl c.hr c.base) .none)
 ·exact ha cx x h A env ρ s μ σ c F
theorem sim_slice {a lo hi:E} (ha:SimE X C G d a) (hlo:SimE X C G d lo) (hhi:SimE X C G d hi):SimE X C G d (.slice a lo hi):=by
 intro cx e hT A env ρ s μ σ c F
 refine ex5 (hT) fun v l h q p q_h=>?_;refine an4 q_h fun he h1 h2 h3=>?_
 subst he
 refine (Sm.go (k:=fun x=>(evE X.ns C ρ lo).bnd fun y=>(evE X.ns C ρ hi).bnd fun z=>sliceV X.ns x y z) c F (ha cx v h1 A env ρ s μ σ c F) fun _ _ u _ _ c1 F1 S1 r1=>Sm.go c1 F1 (sim_opt hlo h2 c1 F1) fun _ _ vl _ _ c2 F2 S2 r2=>Sm.go c2 F2 (sim_opt hhi h3 c2 F2) fun _ _ vh _ _ c3 F3 S3 r3 =>
  sm_slice c3 (value:=v) (lower:=l) (upper:=h) (p:=q) (S3.vr c2.hr (S2.vr c1.hr r1)) (S3.vr c2.hr r2) r3).imp fun Q E h=>Subscript_ (wpAny_mono h (fun u s₁ h₁=>?_) fun _ _ x=>x)
 show wpAny _ _ (do
  let l ← valueOrNone (evalOpt l env)
  let u ← holding [l] (valueOrNone (evalOpt ‹Option Expr› env))
  let s ← holding [l,u] (valueOrNone (evalOpt none env))
  newFields "slice" [l,u,s]) _ _ _
 exact wpAny_bind (wpAny_mono h₁ (fun l s₂ h₂=>wpAny_bind (wpAny_holding (wpAny_mono h₂ (fun u s₃ h₃=>wpAny_bind (wpAny_holding (wpAny_pure h₃))) fun _ _ x=>x))) fun _ _ x=>x)
end
end Mine
namespace Mine
open PySem PyProof.Rows PySem.Calls
noncomputable def biVal:Bi->Value
 | .len=>.builtin "len" | .list=>.type "list" | .sorted=>.builtin "sorted" | .dict=>.type "dict" | .str=>.type "str" | .any=>.builtin "any" | .all=>.builtin "all"
noncomputable def mmCall (dv:Bool) (u z:Value):Sem Value:=if dv then yd (.builtin "min") [u] [("default",z)] else yd (.builtin "min") [u,z]
noncomputable def tyVal:Ty->Value
 | .int=>.type "int" | .bool=>.type "bool" | .str=>.type "str" | .list=>.type "list" | .tuple=>.type "tuple"
noncomputable def biTab:List (Str×Value):=[("len",.builtin "len"),("list",.type "list"),("sorted",.builtin "sorted"),("dict",.type "dict"),("str",.type "str"),("int",.type "int"),("range",.type "range"),("enumerate",.type "enumerate"),("zip",.type "zip"),
 ("reversed",.type "reversed"),("any",.builtin "any"),("all",.builtin "all"),("min",.builtin "min"),("isinstance",.builtin "isinstance"),("bool",.type "bool"),("tuple",.type "tuple")]
structure Nm (X:W) (G:GT):Prop where
 kin:X.K.In X.h₀
 ns:∃ mg mb,X.h₀.Ns mainGlobals mg/\X.h₀.Ns builtinsNs mb/\(∀ x i,G.cls[i]?=some x->mg x=some (.ref (X.ca i))) /\
  (∀ x i,G.fns[i]?=some x->mg x=some (.ref (X.fa i))/\PySem.W.keepIn X.K (.ref (X.fa i))=true) /\
  (∀ x v,(x,v)∈biTab->mg x=none/\mb x=some v) /\
  (∀ x v,(x,v)∈G.con->∃ u,mg x=some u/\∀ h μ,VR X h μ v u) /\
  (∀ x i,G.own[i]?=some x->mg x=some (.ref (X.co i))/\PySem.W.keepIn X.K (.ref (X.co i))=true)
structure Leaf (X:W) (G:GT) (C:Calls) (d:Nat):Prop where
 nm:Nm X G
 call:∀ (f:Nat) (vs:List V) (us:List Value) (A:Around) (s:Shared) (μ:List Addr) (σ:H),Cn X A d true s μ σ->VRs X s.heap μ vs us->Sm X (Wp X A (yd (.ref (X.fa f)) us)) (C.call f vs σ) (Rl X) s μ
 bi:∀ (b:Bi) (v:V) (u:Value) (A:Around) (s:Shared) (μ:List Addr) (σ:H),Cn X A d true s μ σ->VR X s.heap μ v u->Sm X (Wp X A (yd (biVal b) [u])) (biV X.ns b v σ) (Rl X) s μ
 me:∀ (m:Me) (x:V) (u:Value) (ts:List E) (es:List Expr) (p:Pos) (cx:Cx) (A:Around) (env:zt) (ρ:Env) (s:Shared) (μ:List Addr) (σ:H),Cn X A d true s μ σ->FR X env cx ρ s.heap μ->VR X s.heap μ x u ->
  Ts G ts cx es->(∀ (s:Shared) (μ:List Addr) (σ:H),Cn X A d true s μ σ->FR X env cx ρ s.heap μ->Sm X (Wp X A (spliced (backTo p (starEach es env)))) (evEs X.ns C ρ ts σ) (Rls X) s μ) ->
  Sm X (fun Q E s=>MethodOnS X.prog X.w A E (meName m) u p (backTo p (starEach es env)) Q s) ((meK m x).bnd (fun _=>(evEs X.ns C ρ ts).bnd fun vs=>meV x m vs) σ) (Rl X) s μ
 mm:∀ (dv:Bool) (v w:V) (u u':Value) (A:Around) (s:Shared) (μ:List Addr) (σ:H),Cn X A d true s μ σ->VR X s.heap μ v u->VR X s.heap μ w u'->Sm X (Wp X A (mmCall dv u u')) (mmV dv v w σ) (Rl X) s μ
 new:∀ (k:Nat) (vs:List V) (us:List Value) (A:Around) (s:Shared) (μ:List Addr) (σ:H),Cn X A d true s μ σ->VRs X s.heap μ vs us->Sm X (Wp X A (yd (.ref (X.co k)) us)) (C.new k vs σ) (Rl X) s μ
 mlook:∀ (x:V) (u:Value) (nm:Str) (pl:Sem Bool) (A:Around) (s:Shared) (μ:List Addr) (σ:H),Cn X A d true s μ σ->VR X s.heap μ x u ->
  Sm X (Wp X A (getMethod u nm pl)) (C.mlook x (codes nm) σ) (fun _ _ i p=>p=(.ref (X.fa i),[u])/\PySem.W.keepIn X.K (.ref (X.fa i))=true) s μ
 attr:∀ (x:V) (u:Value) (nm:Str) (A:Around) (s:Shared) (μ:List Addr) (σ:H),nm∈G.att->Cn X A d true s μ σ->VR X s.heap μ x u->Sm X (Wp X A (getAttr u nm true)) (attrV x (codes nm) σ) (Rl X) s μ
 seta:∀ (x v:V) (u w:Value) (nm:Str) (A:Around) (s:Shared) (μ:List Addr) (σ:H),nm∈G.att->nm.length<=4096->Cn X A d true s μ σ->VR X s.heap μ x u->VR X s.heap μ v w->Sm X (Wp X A (setAttr u nm w)) (setaV x (codes nm) v σ) (fun _ _ _ _=>True) s μ
 isi:∀ (t:Ty) (v:V) (u:Value) (A:Around) (s:Shared) (μ:List Addr) (σ:H),Cn X A d true s μ σ->VR X s.heap μ v u->Sm X (Wp X A (yd (.builtin "isinstance") [u,tyVal t])) (isiV t v σ) (Rl X) s μ
section
variable {X:W}{A:Around}{d:Nat}{s:Shared}{μ:List Addr}{σ:H}{env:zt}{cx:Cx}{ρ:Env}{C:Calls}{G:GT}
theorem tr_plain {p:Pos}{env:zt}{ts:List E}:∀ {es:List Expr},Ts G ts cx es->(backTo p (starEach es env)).any (·.1)=false:=by
 induction ts with
 | nil=>intro es h;cases h;rfl
 | cons t ts ih =>
  intro es h
  refine ex2 h fun e es' q=>?_;obtain ⟨rfl,h1,h2⟩:=q
  refine gw (h1.facts.star ..) ?_
  show (false || (backTo p (starEach es' env)).any (·.1))=false
  refine gw (ih h2 ..) ?_;rfl
theorem args_of {f:Value}{p:Pos}{ts:List E}{es:List Expr} (ht:Ts G ts cx es) {Q:Args->Shared->Prop}{E:Value->Shared->Prop}
  (h:wpAny (Mo X) A (spliced (backTo p (starEach es env))) (fun vs s'=>Q ⟨vs,[]⟩ s') E s):wpAny (Mo X) A (evalArgs f true (backTo p (starEach es env)) []) Q E s:=by
 cases ts with
 | nil =>
  cases ht
  unfold evalArgs
  show wpAny (Mo X) A (spliced [] >>= _) Q E s
  refine wpAny_bind (wpAny_mono h (fun vs s' h'=>?_) fun _ _ x=>x)
  first
   | exact wpAny_holding (wpAny_bind (wpAny_pure (wpAny_bind (wpAny_pure (wpAny_pure h')))))
   | exact wpAny_bind (wpAny_pure (wpAny_holding (wpAny_bind (wpAny_pure (wpAny_bind (wpAny_pure (wpAny_pure h')))))))
 | cons t ts =>
  obtain ⟨e,es',rfl,h1,-⟩:=ht
  rw [h1.facts.star] at h ⊢
  exact evalArgs_plain h
theorem callWith_free {f:Value}{first:List Value}{p:Pos}{ts:List E}{es:List Expr} (ht:Ts G ts cx es) (hf:keeperOf f=pure .machine) {Q:Value->Shared->Prop}{E:Value->Shared->Prop}
  (h:wpAny (Mo X) A (spliced (backTo p (starEach es env))) (fun vs s'=>wpAny (Mo X) A (yd f (first++vs)) Q E s') E s):wpAny (Mo X) A (callWith p f first (backTo p (starEach es env)) []) Q E s :=
 PySem.W.callWith_of (P:=fun _=>True) (by refine gw (tr_plain ht ..) ?_;rfl) (fun _ _=>⟨_,.inr (.inl rfl),PySem.W.Looks.of_pure hf⟩) (args_of ht (wpAny_mono h (fun _ _ x=>⟨trivial,x⟩) fun _ _ x=>x))
theorem callWith_own {f:Value}{first:List Value}{p:Pos}{ts:List E}{es:List Expr} (ht:Ts G ts cx es) (hf:PySem.W.keepIn X.K f=true) {Q:Value->Shared->Prop}{E:Value->Shared->Prop}
  (h:wpAny (Mo X) A (spliced (backTo p (starEach es env))) (fun vs s'=>X.K.In s'.heap/\wpAny (Mo X) A (yd f (first++vs)) Q E s') E s):wpAny (Mo X) A (callWith p f first (backTo p (starEach es env)) []) Q E s :=
 PySem.W.callWith_of (P:=fun h=>X.K.In h) (by refine gw (tr_plain ht ..) ?_;rfl) (PySem.W.keeps_K hf) (args_of ht h)
theorem Cn.kin (c:Cn X A d true s μ σ) (g:Nm X G):X.K.In s.heap:=g.kin.keeps c.base.keep
theorem base_eq {o:Expr} (h:plainBase o=true) (m:Str) (env:zt) (whole:Sem Value):attributeBase o m env whole=whole:=by
 cases o with
 | Call f _ _ _=>cases f with
  | Name=>exact nomatch h
  | _=>rfl
 | _=>rfl
theorem sim_me (L:Leaf X G C d) {a:E}{m:Me}{ts:List E} (ha:SimE X C G d a) (hs:Sims X C G d ts):SimE X C G d (.me a m ts):=by
 intro cx e hT A env ρ s μ σ c F
 refine ex4 (hT) fun o ap es p q_h=>?_;refine an6 q_h fun he hb hl hlen h1 h2=>?_
 subst he
 refine (Sm.go (k:=fun x=>(meK m x).bnd fun _=>(evEs X.ns C ρ ts).bnd fun vs=>meV x m vs) c F (ha cx o h1 A env ρ s μ σ c F) fun x σ₁ u s₁ μ₁ c1 F1 _ r=>L.me m x u ts es p cx A env ρ s₁ μ₁ σ₁ c1 F1 r h2 fun s μ σ c F=>sim_args hs h2 c F).imp fun Q E h=>wpAny_Call_method_lateS (base_eq hb _ _ _) ?_ (by refine gw hl ?_;simp) h
 have hall:(backTo p (starEach es env)).all (fun x=>!x.1)=true:=by
  have:=tr_plain (p:=p) (env:=env) h2
  rw [jn]
  intro x hx
  rw [gx] at this
  simpa using this x hx
 refine gw (hall ..) ?_
 show (true && (true && decide (es.length + 0 + 0 < 30)))=true
 exact decide_eq_true (wa hlen)
theorem call_bi (L:Leaf X G C d) (c:Cn X A d true s μ σ) (F:FR X env cx ρ s.heap μ) {f:Str}{fv:Value}{q p:Pos}{ts:List E}{es:List Expr} (hg:cx.glob f=true) (hm:(f,fv)∈biTab) (hk:keeperOf fv=pure .machine) (ht:Ts G ts cx es) {Q:Value->Shared->Prop}{E:Value->Shared->Prop}
  (h:wpAny (Mo X) A (spliced (backTo p (starEach es env))) (fun vs s'=>wpAny (Mo X) A (yd fv vs) Q E s') E s) :
  wpAny (Mo X) A (eval (.Call (.Name f q) es [] p) env) Q E s:=by
 refine ex2 (L.nm.ns) fun mg mb q_h=>?_;refine an7 q_h fun n1 n2 _ _ hbi _ _=>?_
 obtain ⟨e1,e2⟩:=hbi f fv hm
 exact Call_ (sim_builtin c F n1 n2 hg e1 e2 (callWith_free ht hk h))
theorem call_bi1 (L:Leaf X G C d) (c:Cn X A d true s μ σ) (F:FR X env cx ρ s.heap μ) {f:Str}{fv:Value}{q p:Pos}{t:E}{e:Expr} (hg:cx.glob f=true) (hm:(f,fv)∈biTab) (hk:keeperOf fv=pure .machine) (ht:T G t cx e) {Q:Value->Shared->Prop}{E:Value->Shared->Prop}
  (h:wpAny (Mo X) A (eval e env) (fun u s'=>wpAny (Mo X) A (yd fv [u]) Q E s') E s) :
  wpAny (Mo X) A (eval (.Call (.Name f q) [e] [] p) env) Q E s :=
 call_bi L c F (ts:=[t]) hg hm hk ⟨e,[],rfl,ht,rfl⟩ (args_cons (wpAny_mono h (fun u s' h'=>args_nil h') fun _ _ x=>x) (ht.facts.star _ _))
theorem sim_bi (L:Leaf X G C d) {b:Bi}{a:E} (ha:SimE X C G d a):SimE X C G d (.bi b a):=by
 intro cx e hT A env ρ s μ σ c F
 refine ex3 (hT) fun q x p q_h=>?_;refine an3 q_h fun he hg h1=>?_
 subst he
 refine (Sm.go (k:=fun v=>biV X.ns b v) c F (ha cx x h1 A env ρ s μ σ c F) fun v σ₁ u s₁ μ₁ c1 F1 S1 r=>?_).imp fun Q E h=>call_bi1 (fv:=biVal b) L c F hg (by cases b <;> decide +kernel) (by cases b <;> rfl) h1 h
 exact L.bi b v u A s₁ μ₁ σ₁ c1 r
theorem sim_isi (L:Leaf X G C d) {a:E}{t:Ty} (ha:SimE X C G d a):SimE X C G d (.isi a t):=by
 intro cx e hT A env ρ s μ σ c F
 refine ex4 (hT) fun q x tp p q_h=>?_;refine an4 q_h fun he hg hgt h1=>?_
 subst he
 refine ex2 (L.nm.ns) fun mg mb q_h=>?_;refine an7 q_h fun n1 n2 _ _ hbi _ _=>?_
 refine (Sm.go (k:=fun v=>isiV t v) c F (ha cx x h1 A env ρ s μ σ c F) (P2:=fun u Q E s₁=>wpAny (Mo X) A (eval (.Name (tyName t) tp) env) (fun w s₂=>wpAny (Mo X) A (yd (.builtin "isinstance") [u,w]) Q E s₂) E s₁) fun v σ₁ u s₁ μ₁ c1 F1 S1 r=>?_).imp fun Q E h=>?_
 ·refine (L.isi t v u A s₁ μ₁ σ₁ c1 r).imp fun Q E h=>?_
  obtain ⟨e1,e2⟩:=hbi (tyName t) (tyVal t) (by cases t <;> decide +kernel)
  exact sim_builtin c1 F1 n1 n2 hgt e1 e2 h
 ·obtain ⟨e1,e2⟩:=hbi "isinstance" (.builtin "isinstance") (by decide +kernel)
  refine Call_ (sim_builtin c F n1 n2 hg e1 e2 (PySem.W.callWith_of (P:=fun _=>True) ?_ (fun _ _=>⟨_,.inr (.inl rfl),PySem.W.Looks.of_pure rfl⟩) ?_))
  ·refine gw (h1.facts.star ..) ?_;rfl
  ·refine gw (h1.facts.star ..) ?_
   refine evalArgs_plain (spliced_cons (wpAny_mono h (fun u s₁ h₁=>?_) fun _ _ x=>x))
   exact spliced_cons (wpAny_mono h₁ (fun w s₂ h₂=>spliced_nil ⟨trivial,h₂⟩) fun _ _ x=>x)
theorem sim_call (L:Leaf X G C d) {f:Nat}{ts:List E} (hs:Sims X C G d ts):SimE X C G d (.call f ts):=by
 intro cx e hT A env ρ s μ σ c F
 refine ex4 (hT) fun x q es p q_h=>?_;refine an4 q_h fun he hg hf h1=>?_
 subst he
 refine ex2 (L.nm.ns) fun mg mb q_h=>?_;refine an5 q_h fun n1 n2 _ hfns _=>?_
 obtain ⟨e1,e2⟩:=hfns x f hf
 exact (Sm.go (k:=fun vs=>C.call f vs) c F (sim_args (p:=p) hs h1 c F) (P2:=fun us Q E s₁=>X.K.In s₁.heap/\wpAny (Mo X) A (yd (.ref (X.fa f)) ([]++us)) Q E s₁) fun vs σ₁ us s₁ μ₁ c1 F1 S1 r=>(L.call f vs us A s₁ μ₁ σ₁ c1 r).imp fun Q E h=>⟨c1.kin L.nm,h⟩).imp fun Q E h =>
  Call_ (sim_global c F n1 hg e1 (callWith_own h1 e2 h))
theorem sim_con (L:Leaf X G C d) (v:V):SimE X C G d (.con v):=by
 intro cx e hT A env ρ s μ σ c F
 refine ex2 (hT) fun x p q_h=>?_;refine an3 q_h fun he hg hv=>?_
 subst he
 refine ex2 (L.nm.ns) fun mg mb q_h=>?_;refine an7 q_h fun n1 n2 _ _ _ hcon _=>?_
 obtain ⟨u,e1,r⟩:=hcon x v hv
 exact c.ret (r _ _) fun Q E h=>sim_global c F n1 hg e1 h
theorem sim_mm (L:Leaf X G C d) {k:Bool}{a b:E} (ha:SimE X C G d a) (hb:SimE X C G d b):SimE X C G d (.mm k a b):=by
 intro cx e hT A env ρ s μ σ c F
 refine ex5 (hT) fun q x y kp p q_h=>?_;refine an4 q_h fun he hg h1 h2=>?_
 subst he
 refine ex2 (L.nm.ns) fun mg mb q_h=>?_;refine an7 q_h fun n1 n2 _ _ hbi _ _=>?_
 refine (Sm.go (k:=fun v=>(evE X.ns C ρ b).bnd fun w=>mmV k v w) c F (ha cx x h1 A env ρ s μ σ c F) (P2:=fun u Q E s₁=>wpAny (Mo X) A (eval y env) (fun z s₂=>wpAny (Mo X) A (mmCall k u z) Q E s₂) E s₁) fun v σ₁ u s₁ μ₁ c1 F1 S1 r =>
  Sm.go (k:=fun w=>mmV k v w) c1 F1 (hb cx y h2 A env ρ s₁ μ₁ σ₁ c1 F1) fun w σ₂ z s₂ μ₂ c2 F2 S2 r2=>L.mm k v w u z A s₂ μ₂ σ₂ c2 (S2.vr c1.hr r) r2).imp fun Q E h=>?_
 obtain ⟨e1,e2⟩:=hbi "min" (.builtin "min") (by decide +kernel)
 cases k with
 | false=>exact Call_ (sim_builtin c F n1 n2 hg e1 e2 (callWith_free (ts:=[a,b]) ⟨x,[y],rfl,h1,y,[],rfl,h2,rfl⟩ rfl (args_cons (wpAny_mono h (fun u s₁ h₁=>args_cons (wpAny_mono h₁ (fun z s₂ h₂=>args_nil h₂) fun _ _ x=>x) (h2.facts.star _ _)) fun _ _ x=>x) (h1.facts.star _ _))))
 | true =>
  refine gw (show eval (mmTree true q x y kp p) env=(do callWith p (← eval (.Name "min" q) env) [] (backTo p (starEach [x] env)) (backToKw p (keywordEach [⟨some "default",y,kp⟩] env))) from rfl) ?_
  refine wpAny_bind (sim_builtin c F n1 n2 hg e1 e2 (PyProof.Rows.callWith_builtin_kwB ?_ rfl ?_))
  ·refine gw (h1.facts.star ..) ?_;rfl
  ·refine gw (h1.facts.star ..) ?_
   exact PyProof.Rows.evalArgs_kwB rfl (spliced_cons (wpAny_mono h (fun u s₁ h₁=>spliced_nil (PyProof.Rows.kws_cons (wpAny_mono h₁ (fun z s₂ h₂=>PyProof.Rows.kws_nil h₂) fun _ _ x=>x))) fun _ _ x=>x))
theorem sim_new (L:Leaf X G C d) {k:Nat}{ts:List E} (hs:Sims X C G d ts):SimE X C G d (.new k ts):=by
 intro cx e hT A env ρ s μ σ c F
 refine ex4 (hT) fun x q es p q_h=>?_;refine an4 q_h fun he hg hf h1=>?_
 subst he
 refine ex2 (L.nm.ns) fun mg mb q_h=>?_;refine an7 q_h fun n1 n2 _ _ _ _ hown=>?_
 obtain ⟨e1,e2⟩:=hown x k hf
 exact (Sm.go (k:=fun vs=>C.new k vs) c F (sim_args (p:=p) hs h1 c F) (P2:=fun us Q E s₁=>X.K.In s₁.heap/\wpAny (Mo X) A (yd (.ref (X.co k)) ([]++us)) Q E s₁) fun vs σ₁ us s₁ μ₁ c1 F1 S1 r=>(L.new k vs us A s₁ μ₁ σ₁ c1 r).imp fun Q E h=>⟨c1.kin L.nm,h⟩).imp fun Q E h =>
  Call_ (sim_global c F n1 hg e1 (callWith_own h1 e2 h))
theorem sim_attr (L:Leaf X G C d) {a:E}{x:List Nat} (ha:SimE X C G d a):SimE X C G d (.attr a x):=by
 intro cx e hT A env ρ s μ σ c F
 refine ex3 (hT) fun o nm p q_h=>?_;refine an5 q_h fun he hx hm hb h1=>?_
 subst he hx
 refine (Sm.go (k:=fun v=>attrV v (codes nm)) c F (ha cx o h1 A env ρ s μ σ c F) fun v _ u s₁ μ₁ c1 _ _ r=>L.attr v u nm A s₁ μ₁ _ hm c1 r).imp fun Q E h=>Attribute_any_ h ?_
 show (do let o ← attributeBase o nm env (eval o env);_)=_
 exact gw (base_eq hb ..) rfl
theorem call_own {o:Expr}{name:Str}{apos pos:Pos}{args:List Expr}{Q:Value->Shared->Prop}{E:Value->Shared->Prop} (hb:plainBase o=true) (hp:(backTo pos (starEach args env)).any (·.1)=false) (hl:apos.endLine=pos.line) (true':args.length < 29)
  (h:wpAny (Mo X) A (eval o env) (fun ov s₁=>wpAny (Mo X) A (getMethod ov name (do return (← importBound o env).getD true)) (fun r s₂=>wpAny (Mo X) A (callWith pos r.1 r.2 (backTo pos (starEach args env)) []) Q E s₂) E s₁) E s) :
  wpAny (Mo X) A (eval (.Call (.Attribute o name apos) args [] pos) env) Q E s:=by
 refine gw (arm_eval_Call ..) (gw (base_eq hb ..) ?_)
 refine wpAny_bind (wpAny_mono h (fun ov s₁ h₁=>wpAny_bind (wpAny_standAt ?_)) fun _ _ e=>e)
 have hall:(backTo pos (starEach args env)).all (fun x=>!x.1)=true:=by
  rw [jn]
  intro x hx
  rw [gx] at hp
  simpa using hp x hx
 have hform:methodCallForm (args.length + ([]:List Keyword).length) (backTo pos (starEach args env)) (backToKw pos (keywordEach [] env))=true:=by
  unfold methodCallForm
  refine gw (hall ..) ?_
  show (true && (true && decide (args.length + 0 + 0 < 30)))=true
  exact decide_eq_true (wa true')
 have hpos:methodCallPos true o env apos pos=pure pos:=by unfold methodCallPos;simp [hl]
 unfold methodCall
 refine gw (hform ..) ?_
 refine wpAny_bind (wpAny_holding (wpAny_mono h₁ (fun r s₂ h₂=>?_) fun _ _ e=>e))
 obtain ⟨f,first⟩:=r
 exact wpAny_bind (wpAny_of_eq hpos h₂)
theorem sim_mcall (L:Leaf X G C d) {a:E}{m:List Nat}{ts:List E} (ha:SimE X C G d a) (hs:Sims X C G d ts):SimE X C G d (.mcall a m ts):=by
 intro cx e hT A env ρ s μ σ c F
 refine ex5 (hT) fun o nm ap es p q_h=>?_;refine an7 q_h fun he hx hb hl hlen h1 h2=>?_
 subst he hx
 refine (Sm.go (k:=fun x=>(C.mlook x (codes nm)).bnd fun i=>(evEs X.ns C ρ ts).bnd fun vs=>C.call i (x::vs)) c F (ha cx o h1 A env ρ s μ σ c F)
  (P2:=fun u Q E s₁=>wpAny (Mo X) A (getMethod u nm (do return (← importBound o env).getD true)) (fun r s₂=>wpAny (Mo X) A (callWith p r.1 r.2 (backTo p (starEach es env)) []) Q E s₂) E s₁) fun x σ₁ u s₁ μ₁ c1 F1 S1 r1 =>
  Sm.go c1 F1 (L.mlook x u nm _ A s₁ μ₁ σ₁ c1 r1) (P2:=fun r Q E s₂=>wpAny (Mo X) A (callWith p r.1 r.2 (backTo p (starEach es env)) []) Q E s₂) fun i σ₂ r s₂ μ₂ c2 F2 S2 r2=>?_).imp fun Q E h=>call_own hb (tr_plain h2) hl hlen h
 obtain ⟨rfl,hk⟩:=r2
 exact (Sm.go (k:=fun vs=>C.call i (x::vs)) c2 F2 (sim_args (p:=p) hs h2 c2 F2) (P2:=fun us Q E s₃=>X.K.In s₃.heap/\wpAny (Mo X) A (yd (.ref (X.fa i)) ([u]++us)) Q E s₃) fun vs σ₃ us s₃ μ₃ c3 F3 S3 r3 =>
  (L.call i (x::vs) (u::us) A s₃ μ₃ σ₃ c3 (.cons (S3.vr c2.hr (S2.vr c1.hr r1)) r3)).imp fun Q E h=>⟨c3.kin L.nm,h⟩).imp fun Q E h=>callWith_own h2 hk h
end
end Mine
namespace Mine
open PySem PyProof.Rows PySem.Calls
structure Move (own:List Addr) (s s':Shared):Prop where
 keep:∀ b o,b∉own->s.heap.get? b=some o->s'.heap.get? b=some o
 size:s.heap.objs.size<=s'.heap.objs.size
 gens:s'.gens=s.gens
 os:s'.os=s.os
theorem Move.of_but {a:Addr}{s:Shared}{h':Heap}{t:Nat} (hs:Heap.SameBut a s.heap h'):Move [a] s { s with heap:=h',toks:=t } :=
 ⟨fun b o hb e=>(hs.2 b fun q=>hb (zg.mpr q)).trans e,ya hs.1.symm,rfl,rfl⟩
theorem m0 {a:Addr}{l:List Addr}:a∈a::l:=.head _
theorem n0 {b x:Addr}{l:List Addr} (h:b∉x::l):b≠x:=fun q=>h (q▸m0)
theorem nt {b x:Addr}{l:List Addr} (h:b∉x::l):b∉l:=fun q=>h (.tail _ q)
noncomputable def PrivAt (X:W) (h:Heap) (b:Addr):Prop:=∃ o,h.get? b=some o/\o.cls≠.type "list"/\o.cls≠.type "dict"/\(∀ es n,o.data≠.dict es n)/\(∀ u,o.data≠.cell u)/\¬ Solid X b o
section
variable {X:W}{A:Around}{d:Nat}{hn:Bool}{s s' s₀:Shared}{μ μ' μ₀:List Addr}{σ σ' σ₀:H}{env:zt}{cx:Cx}{ρ:Env}{own:List Addr}
theorem PrivAt.mk {h:Heap}{b:Addr}{o:Obj}{n:String}{fs:Array Value} (e:h.get? b=some o) (hc:o.cls=.type n) (hd:o.data=.fields fs) (hn:n≠"list"/\n≠"dict"/\n≠"tuple"):PrivAt X h b:=by
 obtain ⟨c,dct,dat,sl⟩:=o
 cases hc;cases hd
 exact ⟨_,e,fun q=>hn.1 (by cases q;rfl),fun q=>hn.2.1 (by cases q;rfl),(fun _ _ q=>nomatch q),(fun _ q=>nomatch q),fun hS=>hS.1.elim (fun q=>hn.2.2 (by cases q;rfl)) fun ⟨_,q⟩=>nomatch q⟩
theorem PrivAt.tup {h:Heap}{b:Addr}{a:Array Value}{n:Nat} (e:h.get? b=some { cls:=.type "tuple",data:=.seq a n }) (hb:X.bad b):PrivAt X h b :=
 ⟨_,e,(fun q=>absurd (Value.type.inj q) (by decide)),(fun q=>absurd (Value.type.inj q) (by decide)),(fun _ _ q=>nomatch q),(fun _ q=>nomatch q),fun hS=>hS.2.2.2 rfl hb⟩
noncomputable def Soft (X:W) (h:Heap) (μ:List Addr) (b:Addr):Prop:=b∉μ/\∀ o,h.get? b=some o->¬ Solid X b o
theorem PrivAt.off {h:Heap}{b:Addr} (p:PrivAt X h b) (R:HR X μ σ h):b∉μ:=by
 obtain ⟨o,q_h⟩:=(p);refine an4 q_h fun e h1 h2 _=>?_
 exact R.offC e h1 h2
theorem PrivAt.isSoft {h:Heap}{b:Addr} (p:PrivAt X h b) (R:HR X μ σ h):Soft X h μ b:=⟨p.off R,fun o' e' hS=>by
 obtain ⟨o,q_h⟩:=(p);refine an6 q_h fun e _ _ _ _ q=>?_
 replace e':=e▸e';cases e';exact q hS⟩
theorem PrivAt.lt {h:Heap}{b:Addr} (p:PrivAt X h b):b < h.objs.size:=let ⟨_,e,_⟩:=p;yb e
theorem Move.solid (m:Move own s s') (hp:∀ b∈own,Soft X s.heap μ b):∀ a o,s.heap.get? a=some o->Solid X a o->s'.heap.get? a=some o:=fun a o e hS=>m.keep a o (fun hm=>(hp a hm).2 o e hS) e
theorem Move.vrs (m:Move own s s') (hp:∀ b∈own,Soft X s.heap μ b) {v:List V}{u:List Value} (r:VRs X s.heap μ v u):VRs X s'.heap μ v u:=r.mono (m.solid hp) fun _ _ e=>e
theorem Move.vr (m:Move own s s') (hp:∀ b∈own,Soft X s.heap μ b) {v:V}{u:Value} (r:VR X s.heap μ v u):VR X s'.heap μ v u:=r.mono (m.solid hp) fun _ _ e=>e
theorem Move.hr (m:Move own s s') (hp:∀ b∈own,Soft X s.heap μ b) (R:HR X μ σ s.heap):HR X μ σ s'.heap where
 len:=R.len
 nodup:=R.nodup
 fresh:=R.fresh
 obj:=fun i o a e1 e2=>(R.obj i o a e1 e2).mono (m.solid hp) (fun _ _ e=>e) fun x e=>m.keep a x (fun hm=>(hp a hm).1 (yr e2)) e
theorem Step.move (S:Step X s₀ μ₀ s μ σ) (m:Move own s s') (hp:∀ b∈own,Soft X s.heap μ b) (hnew:∀ b∈own,s₀.heap.objs.size<=b) (hB:Base X s₀.heap):Step X s₀ μ₀ s' μ σ where
 hr:=m.hr hp S.hr
 keep:=fun b o hb e=>by
  obtain ⟨sl,e1,q⟩:=S.keep b o hb e
  refine ⟨sl,m.keep b _ (fun hm=>?_) e1,q⟩
  exact absurd (yb e) (yc.mpr (hnew b hm))
 base:=⟨fun b o e=>m.keep b o (fun hm=>absurd (yb (hB.keep b o e)) (yc.mpr (hnew b hm))) (S.base.keep b o e),za S.base.size m.size,S.base.low⟩
 size:=za S.size m.size
 ext:=S.ext
 gens:=m.gens.trans S.gens
 os:=m.os.trans S.os
theorem FR.move (F:FR X env cx ρ s.heap μ) (R:HR X μ σ s.heap) (m:Move own s s') (hp:∀ b∈own,PrivAt X s.heap b):FR X env cx ρ s'.heap μ:={ F with
 ns:=by
  obtain ⟨mm,n,h⟩:=F.ns
  refine ⟨mm,?_,fun x k v h1 h2 h3=>let ⟨u,a,b⟩:=h x k v h1 h2 h3;⟨u,a,m.vr (fun b hb=>(hp b hb).isSoft R) b⟩⟩
  refine ex3 (n) fun o es ep q_h=>?_;refine an3 q_h fun e hd r=>?_
  refine ⟨o,es,ep,m.keep _ _ (fun hm=>?_) e,hd,r⟩
  obtain ⟨o',q_h⟩:=(hp _ hm);refine an5 q_h fun e' _ _ q _=>?_
  replace e':=e▸e';cases e';exact q _ _ hd
 cell:=fun x k h1 h2=>by
  refine ex2 (F.cell x k h1 h2) fun c u q_h=>?_;refine an3 q_h fun a b dd=>?_
  obtain ⟨o,e,hd⟩:=b
  refine ⟨c,u,a,⟨o,m.keep _ _ (fun hm=>?_) e,hd⟩,fun v hv=>let ⟨y,p,q⟩:=dd v hv;⟨y,p,m.vr (fun b hb=>(hp b hb).isSoft R) q⟩⟩
  obtain ⟨o',q_h⟩:=(hp _ hm);refine an6 q_h fun e' _ _ _ q _=>?_
  replace e':=e▸e';cases e';exact q _ hd
 offC:=fun x c h=>⟨(F.offC x c h).1,(F.offC x c h).2.1,zm (F.offC x c h).2.2 m.size⟩ }
end
inductive JR (X:W) (h:Heap) (μ:List Addr):It->Addr->List Addr->Prop
 | list {l i:Nat}{a J:Addr}:μ[l]?=some a->h.IsListIter J a i->JR X h μ (.list l i) J [J]
 | range {i n:Nat}{J:Addr}:i<=n->IsRangeIter h J i ((n:Int) - i) 1->JR X h μ (.range i n) J [J]
 | enum {l i:Nat}{a J K:Addr}{old:Value}:μ[l]?=some a->J≠K->IsEnum h J K i old->h.IsListIter K a i->JR X h μ (.enum l i) J [J,K]
 | seq {x:Str}{t:Tok}{i:Nat}{J:Addr}{ty:String}:x.length<=lim->(ty="str_ascii_iterator"∨ty="str_iterator")->h.IsStrIter J ty x t i->JR X h μ (.seq (codes x) i) J [J]
 | rev {l i:Nat}{a J:Addr}:μ[l]?=some a->h.IsRevIter J a ((i:Int) - 1)->JR X h μ (.rev l i) J [J]
 | zip {l m i:Nat}{a b z TI TO i1 i2:Addr}{x y:Value}:μ[l]?=some a->μ[m]?=some b->ZipApart z TI TO i1 i2 a b->X.bad TI->X.bad TO->IsZip h z TI TO .none->IsPair h TI (.ref i1) (.ref i2)->IsPair h TO x y ->
   h.IsListIter i1 a i->h.IsListIter i2 b i->JR X h μ (.zip l m i) z [z,TI,TO,i1,i2]
section
variable {X:W}{A:Around}{d:Nat}{hn:Bool}{s s' s₀:Shared}{μ μ' μ₀:List Addr}{σ σ' σ₀:H}{env:zt}{cx:Cx}{ρ:Env}{own:List Addr}{it:It}{J:Addr}
theorem priv_iter {h:Heap}{J a:Addr}{i:Nat} (e:h.IsListIter J a i):PrivAt X h J:=let ⟨o,e,hc,hd⟩:=e;.mk e hc hd (by decide)
theorem priv_all {P:Addr->Prop}:∀ {l:List Addr},(l.foldr (fun a p=>P a/\p) True)->∀ b∈l,P b
 | [],_,_,h=>nomatch h
 | _::_,h,b,hb=>by
  rcases zy.mp hb with rfl | hb
  ·exact h.1
  ·exact priv_all h.2 b hb
theorem JR.priv {h:Heap} (j:JR X h μ it J own):∀ b∈own,PrivAt X h b:=by
 cases j with
 | list _ e=>exact priv_all ⟨priv_iter e,trivial⟩
 | range _ e=>exact priv_all ⟨.mk e rfl rfl (by decide),trivial⟩
 | enum _ _ e e'=>exact priv_all ⟨.mk e rfl rfl (by decide),priv_iter e',trivial⟩
 | seq _ ht e =>
  obtain ⟨o,q_h⟩:=(e);refine an3 q_h fun e hc hd=>?_
  exact priv_all ⟨.mk e hc hd (by rcases ht with rfl | rfl <;> decide),trivial⟩
 | rev _ e=>obtain ⟨o,e,hc,hd⟩:=e;exact priv_all ⟨.mk e hc hd (by decide),trivial⟩
 | zip _ _ _ b1 b2 e1 e2 e3 e4 e5=>exact priv_all ⟨.mk e1 rfl rfl (by decide),.tup e2 b1,.tup e3 b2,priv_iter e4,priv_iter e5,trivial⟩
theorem JR.keeps {h h':Heap} (j:JR X h μ it J own) (k:∀ b∈own,∀ o,h.get? b=some o->h'.get? b=some o) (hμ:∀ (i:Nat) (a:Addr),μ[i]?=some a->μ'[i]?=some a):JR X h' μ' it J own:=by
 have k0:∀ {b:Addr}{l:List Addr},own=b::l->∀ o,h.get? b=some o->h'.get? b=some o:=fun q=>k _ (q▸m0)
 have kt:∀ {b c:Addr}{l:List Addr},own=c::l->b∈l->∀ o,h.get? b=some o->h'.get? b=some o:=fun q m=>k _ (q▸.tail _ m)
 cases j with
 | list hl e=>exact .list (hμ _ _ hl) (e.at (k0 rfl))
 | range hi e=>exact .range hi (k0 rfl _ e)
 | enum hl hn e e'=>exact .enum (hμ _ _ hl) hn (k0 rfl _ e) (e'.at (kt rfl m0))
 | seq hz ht e=>obtain ⟨o,e,r⟩:=e;exact .seq hz ht ⟨o,k0 rfl _ e,r⟩
 | rev hl e=>exact .rev (hμ _ _ hl) (e.at (k0 rfl))
 | zip hl hm D b1 b2 e1 e2 e3 e4 e5=>exact .zip (hμ _ _ hl) (hμ _ _ hm) D b1 b2 (k0 rfl _ e1) (kt rfl m0 _ e2) (kt rfl (.tail _ m0) _ e3) (e4.at (kt rfl (.tail _ (.tail _ m0)))) (e5.at (kt rfl (.tail _ (.tail _ (.tail _ m0)))))
theorem JR.step (j:JR X s.heap μ it J own) (R:HR X μ σ s.heap) (S:Step X s μ s' μ' σ'):JR X s'.heap μ' it J own :=
 j.keeps (fun b hb o e=>S.keep.at ((j.priv b hb).off R) e (by
  obtain ⟨o',q_h⟩:=(j.priv b hb);refine an5 q_h fun e' _ _ q _=>?_
  replace e':=e▸e';cases e';exact q)) S.get
noncomputable def ItRel (X:W) (s:Shared) (μ:List Addr) (J:Addr) (own:List Addr) (r:Option (V×It)) (q:Option Value) (s':Shared):Prop:=Move own s s'/\match r,q with
 | none,none=>True
 | some (v,it'),some u=>VR X s'.heap μ v u/\JR X s'.heap μ it' J own
 | _,_=>False
theorem Move.of_ext {a:Addr}{s:Shared}{h':Heap} (he:Heap.ExtBut a s.heap h') (hs:s.heap.objs.size<=h'.objs.size):Move [a] s { s with heap:=h' } :=
 ⟨fun b o hb e=>he b o (fun q=>hb (zg.mpr q)) e,hs,rfl,rfl⟩
theorem none_at {h:Heap}{xs:List V}{vs:List Value}{i:Nat} (r:VRs X h μ xs vs) (hx:xs[i]?=none):vs.toArray[i]?=none:=(w7 ..).trans (w6 (r.length▸List.getElem?_eq_none_iff.mp hx))
theorem some_at {vs:List Value}{i:Nat}{u:Value} (h:vs[i]?=some u):vs.toArray[i]?=some u:=(w7 ..).trans h
theorem next_list (c:Cn X A d true s μ σ) {l i:Nat}{a:Addr} (hl:μ[l]?=some a) (e:s.heap.IsListIter J a i) {r:Option (V×It)} (hr:nextIt (.list l i) σ=some r) {Q:Option Value->Shared->Prop}{E:Value->Shared->Prop} (h:∀ q s',ItRel X s μ J [J] r q s'->(q≠none->s'.heap.IsListIter J a (i + 1))->Q q s') :
  wpAny (Mo X) A (pyNext (.ref J)) Q E s:=by
 refine sized ?_
 obtain ⟨xs,ho,hr⟩:=zn.mp hr
 refine ex2 (c.list (listAt_eq ho) hl) fun vs n q_h=>?_;refine an3 q_h fun e' r' hz=>?_
 have L:s.heap.IsList a vs.toArray:=⟨_,e',rfl,_,rfl⟩
 cases hx:xs[i]? with
 | none =>
  replace hr:=hx▸hr
  cases hr
  exact wpAny_pyNext_list_end (c.rm.handled rfl) e L (none_at r' hx) fun h' he hs=>h _ _ ⟨.of_ext he hs,trivial⟩ fun q=>(q rfl).elim
 | some v =>
  replace hr:=hx▸hr
  cases hr
  obtain ⟨u,hu,ru⟩:=r'.get hx
  refine wpAny_pyNext_list_item e L (x:=u) (some_at hu) fun h' hit hs hz'=>?_
  have M:Move [J] s { s with heap:=h' }:=.of_but (t:=s.toks) hs
  exact h _ _ ⟨M,M.vr (fun b hb=>(JR.priv (X:=X) (μ:=μ) (.list hl e) b hb).isSoft c.hr) ru,.list hl hit⟩ fun _=>hit
theorem next_seq (c:Cn X A d true s μ σ) {x:Str}{t:Tok}{i:Nat}{ty:String} (hz:x.length<=lim) (ht:ty="str_ascii_iterator"∨ty="str_iterator") (e:s.heap.IsStrIter J ty x t i) {r:Option (V×It)} (hr:nextIt (.seq (codes x) i) σ=some r) {Q:Option Value->Shared->Prop}{E:Value->Shared->Prop}
  (h:∀ q s',ItRel X s μ J [J] r q s'->Q q s'):wpAny (Mo X) A (pyNext (.ref J)) Q E s:=by
 refine sized ?_
 replace hr:((codes x)[i]?).map (fun c=>(V.str [c],It.seq (codes x) (i + 1)))=r:=Option.some.inj hr
 have hcx:(codes x)[i]?=x.cps[i]?:=by simp [codes]
 cases hx:x.cps[i]? with
 | none =>
  replace hr:=hx▸hcx▸hr
  cases hr
  rcases ht with rfl | rfl
  ·exact wpAny_pyNext_ascii_end (c.rm.handled rfl) e (by simpa using hx) fun h' he hs=>h _ _ ⟨.of_ext he hs,trivial⟩
  ·exact wpAny_pyNext_wide_end (c.rm.handled rfl) e (by simpa using hx) fun h' he hs=>h _ _ ⟨.of_ext he hs,trivial⟩
 | some k =>
  replace hr:=hx▸hcx▸hr
  cases hr
  have go:∀ h',h'.IsStrIter J ty x t (i + 1)->Heap.SameBut J s.heap h'->s.heap.objs.size<=h'.objs.size->Q (some (.str ⟨#[k]⟩ s.toks)) { s with heap:=h',toks:=s.toks + 1 }:=fun h' hit hs _ =>
   h _ _ ⟨.of_but hs,VR.str (X:=X) (h:=h') (μ:=μ) ⟨#[k]⟩ s.toks (xu rfl),.seq hz ht hit⟩
  rcases ht with rfl | rfl
  ·exact wpAny_pyNext_ascii_item e (c:=k) (by simpa using hx) fun h' hit hs hz'=>go h' hit hs hz'
  ·exact wpAny_pyNext_wide_item e (c:=k) (by simpa using hx) fun h' hit hs hz'=>go h' hit hs hz'
theorem next_rev (c:Cn X A d true s μ σ) {l i:Nat}{a:Addr} (hl:μ[l]?=some a) (e:s.heap.IsRevIter J a ((i:Int) - 1)) {r:Option (V×It)} (hr:nextIt (.rev l i) σ=some r) {Q:Option Value->Shared->Prop}{E:Value->Shared->Prop} (h:∀ q s',ItRel X s μ J [J] r q s'->(q≠none->∃ i,s'.heap.IsRevIter J a i)->Q q s') :
  wpAny (Mo X) A (pyNext (.ref J)) Q E s:=by
 refine sized ?_
 obtain ⟨xs,ho,hr⟩:=y6.mp hr
 refine ex2 (c.list (listAt_eq ho) hl) fun vs n q_h=>?_;refine an3 q_h fun e' r' hz=>?_
 cases i with
 | zero =>
  cases hr
  exact wpAny_pyNext_rev_end (c.rm.handled rfl) e fun h' he hs=>h _ _ ⟨.of_ext he hs,trivial⟩ fun q=>(q rfl).elim
 | succ j =>
  obtain ⟨v,hx,hr⟩:=zn.mp hr
  cases hr
  obtain ⟨u,hu,ru⟩:=r'.get hx
  have ej:((j + 1:Nat):Int) - 1=(j:Int):=v1 (j:Int) 1
  refine wpAny_pyNext_rev_item (i:=j) (ej▸e) (items:=vs.toArray) ⟨_,e',rfl,_,rfl⟩ (x:=u) (some_at hu) fun h' hit hs hz'=>?_
  have M:Move [J] s { s with heap:=h' }:=.of_but (t:=s.toks) hs
  exact h _ _ ⟨M,M.vr (fun b hb=>(JR.priv (X:=X) (μ:=μ) (.rev hl e) b hb).isSoft c.hr) ru,.rev hl hit⟩ fun _=>⟨_,hit⟩
theorem next_range (c:Cn X A d true s μ σ) {i n:Nat} (hi:i<=n) (e:IsRangeIter s.heap J i ((n:Int) - i) 1) {r:Option (V×It)} (hr:nextIt (.range i n) σ=some r) {Q:Option Value->Shared->Prop}{E:Value->Shared->Prop} (h:∀ q s',ItRel X s μ J [J] r q s'->Q q s'):wpAny (Mo X) A (pyNext (.ref J)) Q E s:=by
 refine sized ?_
 replace hr:(if i < n then some (V.int i,It.range (i + 1) n) else none)=r:=Option.some.inj hr
 split at hr
 ·rename_i hlt
  cases hr
  refine wpAny_pyNext_range_item e (Int.sub_pos_of_lt (vw.mpr hlt)) fun h' hit hs hz'=>?_
  refine h _ _ ⟨.of_but hs,.int _ _,.range hlt ?_⟩
  have e1:((i + 1:Nat):Int)=(i:Int) + 1:=rfl
  refine gw e1 (bw (Int.sub_sub ..) ?_);exact hit
 ·rename_i hge
  cases hr
  exact wpAny_pyNext_range_end (c.rm.handled rfl) e (Int.sub_nonpos_of_le (yw.mpr (yc.mp hge))) fun h' he hs=>h _ _ ⟨.of_ext he hs,trivial⟩
noncomputable def plainIt:It->Bool
 | .list _ _=>true
 | .range _ _=>true
 | .seq _ _=>true
 | .rev _ _=>true
 | _=>false
theorem next_plain {it':It}{v:V} (h:nextIt it σ=some (some (v,it'))) (hp:plainIt it=true):plainIt it'=true:=by
 cases it with
 | list l i =>
  obtain ⟨xs,ho,hr⟩:=zn.mp h
  obtain ⟨_,_,e⟩:=zn.mp hr
  cases e;rfl
 | range i n =>
  have h:(if i < n then some (V.int i,It.range (i + 1) n) else none)=some (v,it'):=Option.some.inj h
  split at h <;> cases h
  rfl
 | seq x i =>
  obtain ⟨_,_,e⟩:=zn.mp (Option.some.inj h)
  cases e;rfl
 | rev l i =>
  obtain ⟨xs,ho,hr⟩:=y6.mp h
  cases i with
  | zero=>cases hr
  | succ j =>
   obtain ⟨_,_,e⟩:=zn.mp hr
   cases e;rfl
 | _=>cases hp
theorem sm_next (c:Cn X A d true s μ σ) (j:JR X s.heap μ it J own) (hp:plainIt it=true) {r:Option (V×It)} (hr:nextIt it σ=some r) {Q:Option Value->Shared->Prop}{E:Value->Shared->Prop} (h:∀ q s',ItRel X s μ J own r q s'->Q q s') :
  wpAny (Mo X) A (pyNext (.ref J)) Q E s:=by
 cases j with
 | list hl e=>exact next_list c hl e hr fun q s' hq _=>h q s' hq
 | range hi e=>exact next_range c hi e hr h
 | seq hz ht e=>exact next_seq c hz ht e hr h
 | rev hl e=>exact next_rev c hl e hr fun q s' hq _=>h q s' hq
 | _=>cases hp
noncomputable def NextP (X:W) (A:Around) (tg:Expr) (J:Addr):PT (Option Value):=fun Q E s =>
 wpAny (Mo X) A (pyNext (.ref J)) (fun q s₁=>match q with
  | none=>Q none s₁
  | some v=>wpAny (Mo X) A (letOwnedTupleGo tg (.ref J) v) (fun _ s₂=>Q (some v) s₂) E s₁) E s
theorem VR.tupRef {h:Heap}{vs:List V}{u:Value} (r:VR X h μ (.tup vs) u):∃ a,u=.ref a:=by cases r;exact ⟨_,rfl⟩
theorem next_size (c:Cn X A d hn s μ σ) {b:Addr}{o:Obj} (e:s.heap.get? b=some o):s.heap.objs.size≠b:=xt (yb e)
theorem go_rev {elts:List Expr}{x1:Nat}{pos:Pos}{l T:Addr}{i:Int}{Q:Unit->Shared->Prop}{E:Value->Shared->Prop} (hit:s.heap.IsRevIter J l i) (hQ:Q () s):wpAny (Mo X) A (letOwnedTupleGo (.Tuple elts x1 pos) (.ref J) (.ref T)) Q E s:=by
 obtain ⟨o,q_h⟩:=hit;refine an3 q_h fun ho hc hd=>?_
 unfold letOwnedTupleGo
 refine wpAny_bind (wpAny_load ho ?_)
 rw [hc,hd]
 exact wpAny_pure hQ
theorem nextP_of {elts:List Expr}{x1:Nat}{pos:Pos}{r:Option (V×It)}{q:Option Value}{Q:Option Value->Shared->Prop}{E:Value->Shared->Prop} (hq:ItRel X s μ J own r q s') (ht:∀ v it',r=some (v,it')->∃ vs,v=.tup vs)
  (hgo:∀ vs it' a,r=some (.tup vs,it')->q≠none->∀ Q':Unit->Shared->Prop,Q' () s'->wpAny (Mo X) A (letOwnedTupleGo (.Tuple elts x1 pos) (.ref J) (.ref a)) Q' E s') (h:Q q s') :
  match (generalizing:=false) q with | none=>Q none s' | some v=>wpAny (Mo X) A (letOwnedTupleGo (.Tuple elts x1 pos) (.ref J) v) (fun _ s₂=>Q (some v) s₂) E s':=by
 cases q with
 | none=>exact h
 | some u =>
  rcases r with _ | ⟨v,it'⟩
  ·exact hq.2.elim
  ·obtain ⟨vs,rfl⟩:=ht v it' rfl
   obtain ⟨a',rfl⟩:=hq.2.1.tupRef
   exact hgo vs it' a' rfl (fun q=>nomatch q) _ h
theorem sm_nextP {elts:List Expr}{x1:Nat}{pos:Pos} (c:Cn X A d true s μ σ) (j:JR X s.heap μ it J own) {r:Option (V×It)} (hr:nextIt it σ=some r) (ht:∀ v it',r=some (v,it')->∃ vs,v=.tup vs) {Q:Option Value->Shared->Prop}{E:Value->Shared->Prop} (h:∀ q s',ItRel X s μ J own r q s'->Q q s') :
  NextP X A (.Tuple elts x1 pos) J Q E s:=by
 have soft:∀ b∈own,Soft X s.heap μ b:=fun b hb=>(j.priv b hb).isSoft c.hr
 cases j with
 | list hl e=>exact next_list c hl e hr fun q s' hq hi=>nextP_of hq ht (fun _ _ _ _ hn _=>wpAny_letOwnedTupleGo_listiter (hi hn)) (h q s' hq)
 | rev hl e=>exact next_rev c hl e hr fun q s' hq hi=>nextP_of hq ht (fun _ _ _ _ hn _=>(hi hn).elim fun _=>go_rev) (h q s' hq)
 | @range i n _ hi e=>exact next_range c hi e hr fun q s' hq=>nextP_of hq ht (fun vs it' _ q _=>by
   have hr:(if i < n then some (V.int i,It.range (i + 1) n) else none)=some (.tup vs,it'):=Option.some.inj (q▸hr)
   split at hr <;> cases hr) (h q s' hq)
 | seq hz ht' e=>exact next_seq c hz ht' e hr fun q s' hq=>nextP_of hq ht (fun vs it' _ q _=>by obtain ⟨_,_,e'⟩:=zn.mp (Option.some.inj (q▸hr));cases e') (h q s' hq)
 | @enum l i a _ K old hl hne e1 e2 =>
  refine sized ?_
  obtain ⟨xs,ho,hr⟩:=zn.mp hr
  refine ex2 (c.list (listAt_eq ho) hl) fun vs n q_h=>?_;refine an3 q_h fun e' r' hz=>?_
  have L:s.heap.IsList a vs.toArray:=⟨_,e',rfl,_,rfl⟩
  cases hx:xs[i]? with
  | none =>
   replace hr:=hx▸hr
   cases hr
   exact wpAny_pyNext_enum_end (c.rm.handled rfl) e1 e2 L (none_at r' hx) fun h' he hs=>h _ _ ⟨⟨fun b o hb e=>he b o (n0 (nt hb)) e,hs,rfl,rfl⟩,trivial⟩
  | some v =>
   replace hr:=hx▸hr
   cases hr
   obtain ⟨u,hu,ru⟩:=r'.get hx
   refine wpAny_pyNext_enum_item e1 e2 L (x:=u) (some_at hu) hne fun h₁ q1 q2 q3 q4 q5 hz₁=>?_
   refine wpAny_letOwnedTupleGo_enum q1 fun h₂ p1 hs=>?_
   replace hs:Heap.SameBut J h₁ h₂:=hs
   have M:Move [J,K] s { s with heap:=h₂,toks:=s.toks + 1 }:=⟨fun b o hb e=>hs.extBut _ _ (n0 hb) (q5 b o (n0 hb) (n0 (nt hb)) e),by show _<=h₂.objs.size;refine gw (hs.1 ..) (gw q4 ?_);exact yh _,rfl,rfl⟩
   exact h _ _ ⟨M,.tup (l:=[.int i s.toks,u]) (n:=0) (hs.extBut _ _ (next_size c e1) q3) (c.good (ze _)) (xu rfl) (.cons (.int _ _) (.cons (M.vr soft ru) .nil)),.enum (i:=i + 1) hl hne p1 (q2.extBut hs.extBut (Ne.symm hne))⟩
 | @zip l m i a b z TI TO i1 i2 x y hl hm D b1 b2 e1 e2 e3 e4 e5 =>
  refine sized ?_
  obtain ⟨xs,ho,hr⟩:=y6.mp hr
  obtain ⟨ys,ho',hr⟩:=y6.mp hr
  refine ex2 (c.list (listAt_eq ho) hl) fun vs n q_h=>?_;refine an3 q_h fun f1 r1 _=>?_
  refine ex2 (c.list (listAt_eq ho') hm) fun ws n' q_h=>?_;refine an3 q_h fun f2 r2 _=>?_
  have L1:s.heap.IsList a vs.toArray:=⟨_,f1,rfl,_,rfl⟩
  have L2:s.heap.IsList b ws.toArray:=⟨_,f2,rfl,_,rfl⟩
  cases hx:xs[i]? with
  | none =>
   replace hr:=hx▸hr
   cases hr
   exact wpAny_pyNext_zip_end (c.rm.handled rfl) D e1 e2 e3 e4 e5 L1 L2 (.inl (none_at r1 hx)) fun h' he hs=>h _ _ ⟨⟨fun b o hb e=>he b o (n0 hb) (n0 (nt (nt hb))) (n0 (nt (nt (nt hb)))) (n0 (nt (nt (nt (nt hb))))) e,hs,rfl,rfl⟩,trivial⟩
  | some v =>
   replace hr:=hx▸hr
   obtain ⟨w,hy,hr⟩:=zn.mp hr
   cases hr
   obtain ⟨u,hu,ru⟩:=r1.get hx
   obtain ⟨u',hu',ru'⟩:=r2.get hy
   refine wpAny_pyNext_zip_item D e1 e2 e3 e4 e5 L1 L2 (x:=u) (y:=u') (some_at hu) (some_at hu') fun h₁ q1 q2 q3 q4 q5 q6 q7 hz₁=>?_
   refine wpAny_letOwnedTupleGo_zip q1 fun h₂ p1 hs=>?_
   replace hs:Heap.SameBut J h₁ h₂:=hs
   have M:Move [J,TI,TO,i1,i2] s { s with heap:=h₂ }:=⟨fun b o hb e=>hs.extBut _ _ (n0 hb) (q7 b o (n0 hb) (n0 (nt (nt hb))) (n0 (nt (nt (nt hb)))) (n0 (nt (nt (nt (nt hb))))) e),by show _<=h₂.objs.size;refine gw (hs.1 ..) (gw q6 ?_);exact yh _,rfl,rfl⟩
   exact h _ _ ⟨M,.tup (l:=[u,u']) (n:=0) (hs.extBut _ _ (next_size c e1) q5) (c.good (ze _)) (xu rfl) (.cons (M.vr soft ru) (.cons (M.vr soft ru') .nil)),
    .zip hl hm D b1 b2 p1 (hs.extBut _ _ D.TIz (q7 _ _ D.TIz D.TITO D.TIi1 D.TIi2 e2)) (hs.extBut _ _ D.TOz q2) (q3.extBut hs.extBut D.i1z) (q4.extBut hs.extBut D.i2z)⟩
end
end Mine
namespace Mine
open PySem PyProof.Rows PySem.Calls
inductive IR (X:W) (n₀:Nat) (h:Heap) (μ:List Addr):It->Value->Prop
 | list {l:Nat}{a:Addr}{items:Array Value}:μ[l]?=some a->h.IsList a items->IR X n₀ h μ (.list l 0) (.ref a)
 | range {a:Addr}{k:Int}{t u v:Tok}:-4611686018427387904 < k->k < 4611686018427387904->IsRange h a 0 k 1 t u v->IR X n₀ h μ (.range 0 k.toNat) (.ref a)
 | seq (x:Str) (t:Tok):x.length<=lim->IR X n₀ h μ (.seq (codes x) 0) (.str x t)
 | rev {l i:Nat}{a J:Addr}:μ[l]?=some a->h.IsRevIter J a ((i:Int) - 1)->n₀<=J->IR X n₀ h μ (.rev l i) (.ref J)
section
variable {X:W}{A:Around}{d:Nat}{s s' s₀:Shared}{μ μ' μ₀:List Addr}{σ σ' σ₀:H}{env:zt}{cx:Cx}{ρ:Env}{own:List Addr}{it:It}{J:Addr}{C:Calls}{G:GT}{n₀:Nat}
theorem sm_iter (c:Cn X A d true s μ σ) (hn0:n₀<=s.heap.objs.size) {u:Value} (i:IR X n₀ s.heap μ it u) {Q:Value->Shared->Prop}{E:Value->Shared->Prop}
  (h:∀ J own s',plainIt it=true->JR X s'.heap μ it J own->Step X s μ s' μ σ->(∀ b∈own,n₀<=b)->Q (.ref J) s'):wpAny (Mo X) A (pyIter u) Q E s:=by
 have one:∀ b∈[s.heap.objs.size],n₀<=b:=fun b hb=>by refine gw (zg.mp hb ..) ?_;exact hn0
 cases i with
 | @list l a items hl L=>exact wpAny_pyIter_list L (h _ [s.heap.objs.size] _ rfl (.list hl ⟨_,ym _ rfl,rfl,rfl⟩) (Step.push c _ s.toks) one)
 | @range a k t u v h1 h2 r =>
  have e:Builtin.Range.rangeSize 0 k 1=(k.toNat:Int):=by
   unfold Builtin.Range.rangeSize
   by_cases hk:0 < k
   ·refine gw (if_pos (by decide) ..) (gw (if_pos hk ..) (gw (Int.sub_zero ..) (gw (Int.ediv_one ..) (gw (Int.sub_add_cancel ..) ?_))));exact (Int.toNat_of_nonneg (jb hk)).symm
   ·refine gw (if_pos (by decide) ..) (gw (if_neg hk ..) (gw (Int.toNat_of_nonpos (u9.mp hk) ..) ?_));rfl
  have f:Builtin.Range.rangeFitsLong k=true:=yt.mpr ⟨decide_eq_true (ue (by decide) (jb h1)),decide_eq_true (jx h2 (by decide))⟩
  have g:Builtin.Range.rangeFitsLong k.toNat=true:=yt.mpr ⟨decide_eq_true (ue (by decide) (z8 _)),decide_eq_true (wv (yw.mpr (fe (n:=4611686018427387904).mpr (jb h2))) (by decide))⟩
  have hs:Builtin.Range.small 0 k 1=true:=by
   unfold Builtin.Range.small
   refine gw e ?_
   exact yt.mpr ⟨yt.mpr ⟨yt.mpr ⟨yt.mpr ⟨rfl,f⟩,rfl⟩,g⟩,Bool.or_eq_true_iff.mpr (.inr ((congrArg Builtin.Range.rangeFitsLong (Int.add_zero k)).trans f))⟩
  refine wpAny_pyIter_range r hs (h _ [s.heap.objs.size] _ rfl (.range (z7 _) ?_) (Step.push c _ s.toks) one)
  refine gw e ?_
  have:IsRangeIter (s.heap.push { cls:=.type "range_iterator",data:=.fields #[rawInt 0,rawInt (k.toNat:Int),rawInt 1] }) s.heap.objs.size 0 (k.toNat:Int) 1:=ym _ rfl
  simpa using this
 | seq x t hz =>
  cases ha:x.cps.all (· < 128)
  ·exact wpAny_pyIter_wide ha (h _ [s.heap.objs.size] _ rfl (.seq (ty:="str_iterator") hz (.inr rfl) ⟨_,ym _ rfl,rfl,rfl⟩) (Step.push c _ s.toks) one)
  ·exact wpAny_pyIter_ascii ha (h _ [s.heap.objs.size] _ rfl (.seq (ty:="str_ascii_iterator") hz (.inl rfl) ⟨_,ym _ rfl,rfl,rfl⟩) (Step.push c _ s.toks) one)
 | rev hl e hJ=>exact wpAny_pyIter_revIter e (h _ [_] s rfl (.rev hl e) (Step.refl c.hr c.base) fun b hb=>by refine gw (zg.mp hb ..) ?_;exact hJ)
noncomputable def SimI (X:W) (C:Calls) (G:GT) (d:Nat) (src:Src):Prop :=
 ∀ (cx:Cx) (e:Expr),plainSrc src=true->TSrc G src cx e->∀ (A:Around) (env:zt) (ρ:Env) (s:Shared) (μ:List Addr) (σ:H),Cn X A d true s μ σ->FR X env cx ρ s.heap μ ->
  Sm X (Wp X A (eval e env)) (evSrc X.ns C ρ src σ) (fun h μ p u=>IR X s.heap.objs.size h μ p.1 u) s μ
theorem listN_at (c:Cn X A d true s μ σ) {v:V}{u:Value}{p:Nat×Nat} (h:listN v σ=some p) (r:VR X s.heap μ v u):∃ a l n,u=.ref a/\μ[p.1]?=some a/\p.2=l.length/\s.heap.get? a=some { cls:=.type "list",data:=.seq (jd l) n }:=by
 cases r <;> first | (cases h;done) | skip
 rename_i i a hi
 obtain ⟨xs,h1,h2⟩:=zn.mp h
 subst h2
 refine ex2 (c.list (listAt_eq h1) hi) fun l n q_h=>?_;refine an3 q_h fun e r _=>?_
 exact ⟨a,l,n,rfl,hi,r.length,e⟩
theorem simI_of {t:E} (h:SimE X C G d t):SimI X C G d (.of t):=fun cx e _ he A env ρ s μ σ c F =>
 Sm.go (k:=fun v=>pickI (iterV v)) c F (h cx e he A env ρ s μ σ c F) (P2:=fun u Q E s=>Q u s) fun v σ₁ u s₁ μ₁ c1 F1 S1 r=>by
  refine sm_pick fun p hp=>?_
  cases r <;> first | (cases hp;done) | skip
  ·rename_i x t hz
   cases hp
   exact Sm.ok fun Q E hQ=>hQ _ _ _ (Step.refl c1.hr c1.base) (.seq x t hz)
  ·rename_i i a hi
   obtain ⟨xs,h1,rfl⟩:=zn.mp hp
   refine ex2 (c1.list (listAt_eq h1) hi) fun l n q_h=>?_;refine an3 q_h fun e _ _=>?_
   exact Sm.ok fun Q E hQ=>hQ _ _ _ (Step.refl c1.hr c1.base) (.list hi ⟨_,e,rfl,_,rfl⟩)
theorem simI_range (L:Leaf X G C d) {t:E} (h:SimE X C G d t):SimI X C G d (.range t):=by
 intro cx e _ hT A env ρ s μ σ c F
 refine ex3 (hT) fun q x p q_h=>?_;refine an3 q_h fun he hg h1=>?_
 subst he
 refine (Sm.go (k:=rangeV) c F (h cx x h1 A env ρ s μ σ c F) fun v σ₁ u s₁ μ₁ c1 F1 S1 r=>?_).imp fun Q E h=>call_bi1 (fv:=.type "range") L c F hg (by decide +kernel) rfl h1 h
 cases r <;> first | exact Sm.stuck | skip
 rename_i k tk
 show Sm X _ ((if -4611686018427387904 < k/\k < 4611686018427387904 then M.ret (It.range 0 k.toNat,k.toNat) else stuck:M (It×Nat)) σ₁) _ _ _
 split
 ·rename_i hk
  exact Sm.ok fun Q E hQ=>call_range_1 (hQ _ _ _ (Step.push c1 _ _) (.range hk.1 hk.2 (IsRange.new ..)))
 ·exact Sm.stuck
theorem simI_rev (L:Leaf X G C d) {t:E} (h:SimE X C G d t):SimI X C G d (.rev t):=by
 intro cx e _ hT A env ρ s μ σ c F
 refine ex3 (hT) fun q x p q_h=>?_;refine an3 q_h fun he hg h1=>?_
 subst he
 refine (Sm.go (k:=fun v=>pickI fun σ=>(listN v σ).map fun p=>(It.rev p.1 p.2,p.2)) c F (h cx x h1 A env ρ s μ σ c F) fun v σ₁ u s₁ μ₁ c1 F1 S1 r=>?_).imp fun Q E h=>call_bi1 (fv:=.type "reversed") L c F hg (by decide +kernel) rfl h1 h
 refine sm_pick fun w he=>?_
 obtain ⟨pr,hl,rfl⟩:=zn.mp he
 refine ex3 (listN_at c1 hl r) fun a l n q_h=>?_;refine an4 q_h fun q_3 hm hz e=>?_;obtain rfl:=q_3
 refine Sm.ok fun Q E hQ=>call_reversed_list (items:=l.toArray) ⟨_,e,rfl,_,rfl⟩ ?_
 exact hQ _ _ _ (Step.push c1 _ s₁.toks) (.rev hm ⟨_,ym _ rfl,rfl,by refine gw hz ?_;rfl⟩ S1.size)
end
end Mine
namespace Mine
open PySem PyProof.Rows PySem.Calls
section
variable {X:W}{A:Around}{d:Nat}{hn:Bool}{s s' s₀:Shared}{μ μ' μ₀:List Addr}{σ σ' σ₀:H}{env:zt}{cx cx':Cx}{ρ:Env}{own:List Addr}{it:It}{J:Addr}{C:Calls}{G:GT}{n₀:Nat}
theorem relabel_names (scope:Scope) (F:FR X env cx ρ s.heap μ):(PySem.relabel scope env).names=Mine.relabel cx.kinds scope.names:=by
 show (scope.names.map fun (n,k)=>if (k == NameKind.free && env.scope.kind == ScopeKind.function && env.kindOf n == some NameKind.cell) then (n,NameKind.cell) else (n,k))=_
 generalize scope.names=l
 induction l with
 | nil=>rfl
 | cons p r ih =>
  obtain ⟨n,k⟩:=p
  refine gw (xn ..) (gw ih ?_)
  refine gw (show Mine.relabel cx.kinds ((n,k)::r)=(n,if k=.free/\cx.kinds.lookup n=some .cell then .cell else k)::Mine.relabel cx.kinds r from rfl) ?_
  congr 1
  have hk:env.scope.kind=.function:=F.kind
  have hn:env.kindOf n=cx.kinds.lookup n:=F.kindOf
  by_cases h:k=.free/\cx.kinds.lookup n=some .cell
  ·refine gw (if_pos h ..) ?_
   simp [h.1,hk,hn,h.2]
  ·refine gw (if_neg h ..) ?_
   have:(k == NameKind.free && env.scope.kind == ScopeKind.function && env.kindOf n == some NameKind.cell)=false:=by
    refine gw hk (gw hn ?_)
    cases hq:(k == NameKind.free && ScopeKind.function == ScopeKind.function && List.lookup n cx.kinds == some NameKind.cell) with
    | false=>rfl
    | true =>
     simp only [vq,beq_iff_eq] at hq
     exact absurd ⟨hq.1.1,hq.2⟩ h
   dsimp only
   refine gw (this ..) ?_;rfl
noncomputable def freeOf (env:zt):List (Str×NameKind)->List (Str×Addr)->List (Str×Addr)
 | [],acc=>acc
 | (n,k)::r,acc=>if k=.free then freeOf env r ((n,(env.cells.lookup n).getD 0)::acc) else freeOf env r acc
theorem closure_eq {scope:Scope} (h:∀ n k,(n,k)∈scope.names->k=.free->(env.cells.lookup n).isSome=true):closureFor scope env=pure (freeOf env scope.names []):=by
 unfold closureFor
 have:∀ (l:List (Str×NameKind)) (acc:List (Str×Addr)),(∀ n k,(n,k)∈l->k=.free->(env.cells.lookup n).isSome=true) ->
   (forIn l acc fun x (cs:List (Str×Addr))=>(match x with | (name,kind)=>do
    if (kind == NameKind.free)=true then do let a ← cellOf env name;pure (ForInStep.yield ((name,a)::cs)) else pure (ForInStep.yield cs):Sem (ForInStep (List (Str×Addr)))))=pure (freeOf env l acc):=by
  intro l
  induction l with
  | nil=>intro acc _;rfl
  | cons p r ih =>
   intro acc hl
   obtain ⟨n,k⟩:=p
   refine gw (j6 ..) ?_
   unfold freeOf
   by_cases hk:k=.free
   ·subst hk
    obtain ⟨a,ha⟩:=ve.mp (hl n .free zh rfl)
    have hc:cellOf env n=pure a:=by unfold cellOf;exact gw ha rfl
    simp only [beq_self_eq_true,if_true,hc,ha,Option.getD_some]
    rw [pure_bind,pure_bind]
    exact ih _ fun n k hm=>hl n k (zj _ hm)
   ·have:(k == NameKind.free)=false:=by simpa using hk
    simp only [this,Bool.false_eq_true,if_false,if_neg hk]
    refine gw (pure_bind ..) ?_
    exact ih _ fun n k hm=>hl n k (zj _ hm)
 have:=this scope.names [] h
 simp only [this]
 rfl
theorem freeOf_lookup (env:zt):∀ (l:List (Str×NameKind)) (acc:List (Str×Addr)) (x:Str) (c:Addr),(freeOf env l acc).lookup x=some c->acc.lookup x=some c∨((x,NameKind.free)∈l/\(env.cells.lookup x).getD 0=c)
 | [],_,_,_,h=>.inl h
 | (n,k)::r,acc,x,c,h=>by
  unfold freeOf at h
  split at h
  ·rename_i hk
   subst hk
   rcases freeOf_lookup env r _ x c h with h1 | ⟨h1,h2⟩
   ·rw [yx] at h1
    cases hx:x == n with
    | true =>
     replace h1:=hx▸h1
     have:=beq_iff_eq.mp hx
     subst this
     exact .inr ⟨zh,by simpa using h1⟩
    | false=>replace h1:=hx▸h1;exact .inl h1
   ·exact .inr ⟨zj _ h1,h2⟩
  ·rcases freeOf_lookup env r _ x c h with h1 | ⟨h1,h2⟩
   ·exact .inl h1
   ·exact .inr ⟨zj _ h1,h2⟩
theorem freeOf_mem (env:zt):∀ (l:List (Str×NameKind)) (acc:List (Str×Addr)) (x:Str),((x,NameKind.free)∈l∨(acc.lookup x).isSome=true)->((freeOf env l acc).lookup x).isSome=true
 | [],_,_,h=>by rcases h with h | h;cases h;exact h
 | (n,k)::r,acc,x,h=>by
  unfold freeOf
  split
  ·rename_i hk
   refine freeOf_mem env r _ x ?_
   refine gw (yx ..) ?_
   cases hx:x == n with
   | true=>exact .inr rfl
   | false =>
    rcases h with h | h
    ·rcases zy.mp h with q | q
     ·cases q;simp at hx
     ·exact .inl q
    ·exact .inr h
  ·rename_i hk
   refine freeOf_mem env r _ x ?_
   rcases h with h | h
   ·rcases zy.mp h with q | q
    ·cases q;exact absurd rfl hk
    ·exact .inl q
   ·exact .inr h
theorem blockOk_free {outer:List (Str×NameKind)}{x:Str}:∀ {l:List (Str×NameKind)},blockOk outer x l=true->∀ n k,(n,k)∈l->(k=.free->outer.lookup n=some .cell)/\k≠.cell/\(k=.local->n=x∨n=".0")
 | [],_,_,_,h=>nomatch h
 | (y,k)::r,hb,n,k',h=>by
  unfold blockOk at hb
  simp only [vq] at hb
  rcases zy.mp h with q | q
  ·cases q
   have h1:=hb.1
   cases k <;> simp at h1 ⊢
   ·exact h1
   ·exact h1
  ·exact blockOk_free hb.2 n k' q
theorem lookup_mem {α:Type}:∀ {l:List (Str×α)}{n:Str}{a:α},l.lookup n=some a->(n,a)∈l:=fun h=>PySem.mem_of_lookup h
theorem mem_lookup {α:Type}:∀ {l:List (Str×α)}{n:Str}{a:α},(l.map (·.1)).Nodup->(n,a)∈l->l.lookup n=some a
 | (m,b)::r,n,a,hn,h=>by
  rw [xn,xg] at hn
  refine gw (yx ..) ?_
  rcases zy.mp h with q | q
  ·cases q;simp
  ·have:(n == m)=false:=by
    cases hx:n == m with
    | false=>rfl
    | true =>
     have:=beq_iff_eq.mp hx
     subst this
     exact absurd (List.mem_map_of_mem (f:=(·.1)) q) hn.1
   refine gw (this ..) ?_;exact mem_lookup hn.2 q
theorem relabel_lookup {outer:List (Str×NameKind)}:∀ {l:List (Str×NameKind)}{n:Str}{k:NameKind},(Mine.relabel outer l).lookup n=some k->∃ k',l.lookup n=some k'/\k=if k'=.free/\outer.lookup n=some .cell then .cell else k'
 | (m,b)::r,n,k,h=>by
  unfold Mine.relabel at h
  rw [yx] at h ⊢
  cases hx:n == m with
  | true =>
   replace h:=hx▸h
   have:=beq_iff_eq.mp hx
   subst this
   exact ⟨b,rfl,by simpa using h.symm⟩
  | false=>replace h:=hx▸h;exact relabel_lookup h
theorem relabel_lookup' {outer:List (Str×NameKind)}:∀ {l:List (Str×NameKind)}{n:Str}{k':NameKind},l.lookup n=some k'->(Mine.relabel outer l).lookup n=some (if k'=.free/\outer.lookup n=some .cell then .cell else k')
 | (m,b)::r,n,k,h=>by
  unfold Mine.relabel
  rw [yx] at h ⊢
  cases hx:n == m with
  | true =>
   replace h:=hx▸h
   have:=beq_iff_eq.mp hx
   subst this
   simp at h ⊢;exact gw h rfl
  | false=>rw [hx] at h;exact relabel_lookup' h
theorem FR.comp {x:Str}{sc:Scope}{Cc:Addr}{m:Str->Option Value}{v:V}{u:Value} (F:FR X env cx ρ s.heap μ) (hc:cx.inComp x sc=some cx') (hm:s.heap.Ns Cc m) (hu:m x=some u) (r:VR X s.heap μ v u) (hC:Cc∉μ)
  (hlow:∀ y c,env.cells.lookup y=some c->c≠Cc):FR X (compEnvC sc (freeOf env sc.names []) Cc env) cx' (ρ++[some v]) s.heap μ:=by
 unfold Cx.inComp at hc
 split at hc
 ·rename_i hq
  obtain ⟨h1,q_h⟩:=(hq);refine an5 q_h fun h2 h3 h4 h5 _=>?_
  cases hc
  have hcell:∀ y,(Mine.relabel cx.kinds sc.names).lookup y=some .cell->(y,NameKind.free)∈sc.names/\cx.kinds.lookup y=some .cell:=fun y hy=>by
   obtain ⟨k',e,hk⟩:=relabel_lookup hy
   split at hk
   ·rename_i q;obtain ⟨rfl,q2⟩:=q;exact ⟨lookup_mem e,q2⟩
   ·subst hk;exact absurd rfl (blockOk_free h2 y _ (lookup_mem e)).2.1
  have hcl:∀ y c,(freeOf env sc.names []).lookup y=some c->env.cells.lookup y=some c:=fun y c hy=>by
   rcases freeOf_lookup env sc.names [] y c hy with q | ⟨q1,q2⟩
   ·cases q
   ·obtain ⟨a,ha⟩:=ve.mp (F.cells y ((blockOk_free h2 y _ q1).1 rfl))
    rw [ha] at q2 ⊢;simpa using q2
  exact {
   kind:=h1
   globals:=F.globals
   builtins:=F.builtins
   names:=relabel_names sc F
   ns:=by
    refine ⟨m,hm,fun y k w e1 e2 e3=>?_⟩
    obtain ⟨k',e,hk⟩:=relabel_lookup e1
    split at hk
    ·cases hk
    ·subst hk
     rcases (blockOk_free h2 y _ (lookup_mem e)).2.2 rfl with rfl | rfl
     ·rw [yx] at e2
      simp at e2
      subst e2
      have hl:ρ.length=cx.n:=F.len
      replace e3:=(zw (ze _) ..)▸hl▸e3
      simp at e3
      subst e3
      exact ⟨u,hu,r⟩
     ·rw [yx] at e2
      cases hx:((".0":Str) == x) with
      | true =>
       replace e2:=hx▸e2
       have hx':=beq_iff_eq.mp hx
       have hl:ρ.length=cx.n:=F.len
       simp at e2
       rw [← e2,← hl,zw (ze _)] at e3
       simp at e3
       subst e3
       exact ⟨u,hx'▸hu,r⟩
      | false=>rw [hx] at e2;simp [h5] at e2
   cell:=fun y k e1 e2=>by
    obtain ⟨q1,q2⟩:=hcell y e1
    have hne:y≠x:=by
     rintro rfl
     have:=mem_lookup h4 q1
     replace this:=h3▸this;cases this
    rw [yx] at e2
    have hb:(y == x)=false:=by simpa using hne
    replace e2:=hb▸e2
    refine ex2 (F.cell y k q2 e2) fun c w q_h=>?_;refine an3 q_h fun a1 a2 a3=>?_
    obtain ⟨c',hc'⟩:=ve.mp (freeOf_mem env sc.names [] y (.inl q1))
    have:=hcl y c' hc'
    replace this:=a1▸this;cases this
    refine ⟨c,w,hc',a2,fun v' hv'=>a3 v' ?_⟩
    rw [y7 (by rw [F.len];exact F.bound y k e2)] at hv';exact hv'
   cells:=fun y e1=>freeOf_mem env sc.names [] y (.inl (hcell y e1).1)
   apart:=fun y z c e1 e2=>F.apart y z c (hcl y c e1) (hcl z c e2)
   offL:=hC
   offC:=fun y c e=>⟨(F.offC y c (hcl y c e)).1,hlow y c (hcl y c e),(F.offC y c (hcl y c e)).2.2⟩
   slots:=fun y z k e1 e2=>by
    rw [yx] at e1 e2
    cases hy:(y == x) with
    | true =>
     replace e1:=hy▸e1
     cases hz:(z == x) with
     | true=>exact gw (beq_iff_eq.mp hy ..) (gw (beq_iff_eq.mp hz ..) rfl)
     | false =>
      replace e2:=hz▸e2
      simp at e1
      have:=F.bound z k e2
      (first | lia | omega)
    | false =>
     replace e1:=hy▸e1
     cases hz:(z == x) with
     | true =>
      replace e2:=hz▸e2
      simp at e2
      have:=F.bound y k e1
      (first | lia | omega)
     | false=>rw [hz] at e2;exact F.slots y z k e1 e2
   bound:=fun y k e=>by
    rw [yx] at e
    cases hy:(y == x) with
    | true=>replace e:=hy▸e;simp at e;subst e;exact yo _
    | false=>replace e:=hy▸e;exact wa (F.bound y k e)
   len:=by refine gw (zd ..) (gw (F.len ..) ?_);rfl }
 ·cases hc
end
end Mine
namespace Mine
open PySem PyProof.Rows PySem.Calls
section
variable {X:W}{A:Around}{d:Nat}{hn:Bool}{s s' s₀:Shared}{μ μ' μ₀:List Addr}{σ σ' σ₀:H}{env:zt}{cx cx':Cx}{ρ:Env}{own:List Addr}{it:It}{J:Addr}{C:Calls}{G:GT}{n₀:Nat}
noncomputable def RlO (X:W):Heap->List Addr->Option V->Option Value->Prop:=fun h μ o q=>match o,q with
 | some x,some u=>VR X h μ x u
 | none,none=>True
 | _,_=>False
noncomputable def turnP (X:W) (A:Around) (ifs:List Expr) (elt:Expr) (cenv:zt):PT (Option Value):=fun Q E s =>
 wpAny (Mo X) A (forIn ifs true fun c r=>if r=true then do let ok ← isTrue c cenv (eval c cenv);pure (ForInStep.yield ok) else pure (ForInStep.yield r))
  (fun ok s₃=>if ok=true then wpAny (Mo X) A (eval elt cenv) (fun y s₄=>Q (some y) s₄) E s₃ else Q none s₃) E s
structure CInv (X:W) (s₀:Shared) (μ₀:List Addr) (own:List Addr) (J D Cc:Addr) (f:V->M (Option V)) (r₀:R (List V)) (n:Nat) (s:Shared) (μ:List Addr) (σ:H) (it:It) (acc:List V) (ys:Array Value) (m:Str->Option Value):Prop where
 step:Step X s₀ μ₀ s μ σ
 jr:JR X s.heap μ it J own
 lst:s.heap.PlainList D ys
 rel:VRs X s.heap μ acc ys.toList
 lim:acc.length<=lim
 ns:s.heap.Ns Cc m
 offD:D∉μ
 offC:Cc∉μ
 go:gather f n it acc σ=r₀
 pl:plainIt it=true
theorem softD {X:W}{h:Heap}{D:Addr}{ys:Array Value} (l:h.PlainList D ys) (hD:D∉μ):∀ b∈[D],Soft X h μ b:=fun b hb=>by
 refine gw (zg.mp hb ..) ?_
 obtain ⟨n,e⟩:=l
 refine ⟨hD,fun o e' hS=>?_⟩
 replace e':=e▸e';cases e'
 exact hS.offList (.inl rfl)
theorem softC {X:W}{h:Heap}{Cc:Addr}{m:Str->Option Value} (l:h.Ns Cc m) (hC:Cc∉μ):∀ b∈[Cc],Soft X h μ b:=fun b hb=>by
 refine gw (zg.mp hb ..) ?_
 refine ex3 (l) fun o es ep q_h=>?_;refine an3 q_h fun e hd _=>?_
 refine ⟨hC,fun o' e' hS=>?_⟩
 replace e':=e▸e';cases e'
 exact hS.2.1 _ _ hd
theorem comp_loop {elt iter:Expr}{x:Str}{px:Pos}{ifs:List Expr}{sc:Scope}{pos:Pos}{D Cc:Addr}{f:V->M (Option V)}{r₀:R (List V)}{cenv:zt}{Rr:Result->Shared->Prop}{n:Nat}{acc:List V}{ys:Array Value}{m:Str->Option Value}
  (c₀:Cn X A d true s₀ μ₀ σ₀) (hne:r₀≠.stuck) (hx:cenv.kindOf x=some .local) (hk:cenv.scope.kind=.function) (hl:cenv.locals=Cc)
  (hown:∀ b∈own,s₀.heap.objs.size<=b) (hD:s₀.heap.objs.size<=D) (hC:s₀.heap.objs.size<=Cc) (hDo:D∉own) (hCo:Cc∉own) (hDC:D≠Cc)
  (hbody:∀ v u s μ σ m,Cn X A d true s μ σ->Step X s₀ μ₀ s μ σ->s.heap.Ns Cc m->m x=some u->VR X s.heap μ v u->Cc∉μ->Sm X (turnP X A ifs elt cenv) (f v σ) (RlO X) s μ)
  (hR:∀ acc s μ σ ys m,r₀=.ok acc σ->Step X s₀ μ₀ s μ σ->s.heap.PlainList D ys->VRs X s.heap μ acc ys.toList->acc.length<=lim->s.heap.Ns Cc m->D∉μ->Cc∉μ->Rr (.ok .next) s)
  (h:CInv X s₀ μ₀ own J D Cc f r₀ n s μ σ it acc ys m) :
  codeAny (Mo X) A (.compLoop (.ListComp elt [⟨.Name x px,iter,ifs,0⟩] sc pos) 0 (.ref J) (.ref D) cenv) Rr s:=by
 refine codeAny_compLoop_tests (fun n s=>∃ μ σ it acc ys m,CInv X s₀ μ₀ own J D Cc f r₀ n s μ σ it acc ys m) ?_ n ⟨μ,σ,it,acc,ys,m,h⟩
 clear h
 rintro n s ⟨μ,σ,it,acc,ys,m,I⟩
 have c:=c₀.step I.step
 have hgo:=I.go
 replace hgo:=(gather_eq ..)▸hgo
 cases hnx:nextIt it σ with
 | none=>replace hgo:=hnx▸hgo;exact absurd hgo.symm hne
 | some r =>
  refine sm_next c I.jr I.pl hnx fun q s₁ hr=>?_
  obtain ⟨M1,hr⟩:=hr
  have soft1:∀ b∈own,Soft X s.heap μ b:=fun b hb=>(I.jr.priv b hb).isSoft c.hr
  have S1:Step X s₀ μ₀ s₁ μ σ:=I.step.move M1 soft1 hown c₀.base
  have L1:s₁.heap.PlainList D ys:=I.lst.at fun o e=>M1.keep D o hDo e
  have R1:VRs X s₁.heap μ acc ys.toList:=M1.vrs soft1 I.rel
  have N1:s₁.heap.Ns Cc m:=I.ns.at' fun o e=>M1.keep Cc o hCo e
  cases r with
  | none =>
   cases q with
   | some _=>exact hr.elim
   | none =>
    replace hgo:=hnx▸hgo
    exact hR acc s₁ μ σ ys m hgo.symm S1 L1 R1 I.lim N1 I.offD I.offC
  | some p =>
   obtain ⟨v,it'⟩:=p
   cases q with
   | none=>exact hr.elim
   | some u =>
    obtain ⟨ru,j1⟩:=hr
    replace hgo:=hnx▸hgo
    cases n with
    | zero=>exact absurd hgo.symm hne
    | succ n =>
     have hgo:gat acc (gather f n it') (f v σ)=r₀:=hgo
     refine wpAny_assign_Name (wpAny_storeName_local hx (by refine gw hl ?_;exact N1) (fun h₂ hn₂ hs₂=>?_) (by refine gw hk ?_;rfl))
     rw [hl] at hn₂ hs₂
     have M2:Move [Cc] s₁ { s₁ with heap:=h₂,toks:=s₁.toks + 1 }:=⟨fun b o hb e=>(hs₂.2 b fun q=>hb (by simp [q])).trans e,ya hs₂.1.symm,rfl,rfl⟩
     have soft2:=softC (X:=X) (μ:=μ) N1 I.offC
     have S2:Step X s₀ μ₀ { s₁ with heap:=h₂,toks:=s₁.toks + 1 } μ σ:=S1.move M2 soft2 (fun b hb=>by refine gw (zg.mp hb ..) ?_;exact hC) c₀.base
     have L2:h₂.PlainList D ys:=L1.at fun o e=>M2.keep D o (by simpa using hDC) e
     have R2:VRs X h₂ μ acc ys.toList:=M2.vrs soft2 R1
     have j2:JR X h₂ μ it' J own:=j1.keeps (fun b hb o e=>M2.keep b o (fun hm=>hCo (zg.mp hm▸hb)) e) fun _ _ e=>e
     have ru2:VR X h₂ μ v u:=M2.vr soft2 ru
     have c2:=c₀.step S2
     have hb:=hbody v u _ μ σ _ c2 S2 hn₂ (by simp) ru2 I.offC
     refine hb (fun e=>by replace hgo:=e▸hgo;exact hne hgo.symm) (fun q s₄=>match q with
      | some x=>wpAny (Mo X) A (yd (.builtin "list.append") [.ref D,x]) (fun _ s₅=>∃ m,m < n + 1/\∃ μ σ it acc ys m_1,CInv X s₀ μ₀ own J D Cc f r₀ m s₅ μ σ it acc ys m_1) (notedBy (Mo X) A cenv fun e s'=>Rr (Except.error e) s') s₄
      | none=>∃ m,m < n + 1/\∃ μ σ it acc ys m_1,CInv X s₀ μ₀ own J D Cc f r₀ m s₄ μ σ it acc ys m_1) (notedBy (Mo X) A cenv fun e s'=>Rr (Except.error e) s') (fun o σ₃ q s₃ μ₃ e3 S3 r3=>?_) fun k σ₃ _ _ _ e3 _ _=>by replace hgo:=e3▸hgo;exact absurd hgo.symm hne
     have S03:=S2.trans S3
     have L3:s₃.heap.PlainList D ys:=by
      obtain ⟨n,e⟩:=L2
      exact ⟨n,S3.keep.at I.offD e (by intro _ _ q;cases q)⟩
     have R3:VRs X s₃.heap μ₃ acc ys.toList:=S3.vrs c2.hr R2
     have j3:JR X s₃.heap μ₃ it' J own:=j2.step c2.hr S3
     have N3:s₃.heap.Ns Cc _:=S3.keep.ns I.offC hn₂
     have d3:D∉μ₃:=S3.notIn I.offD (by obtain ⟨n,e⟩:=L2;exact yb e)
     have o3:Cc∉μ₃:=S3.notIn I.offC hn₂.lt
     replace hgo:=e3▸hgo
     cases o with
     | none =>
      cases q with
      | some _=>exact r3.elim
      | none=>exact ⟨n,yo _,μ₃,σ₃,it',acc,ys,_,S03,j3,L3,R3,I.lim,N3,d3,o3,hgo,next_plain hnx I.pl⟩
     | some y =>
      cases q with
      | none=>exact r3.elim
      | some w =>
       have hgo:(if acc.length + 1<=lim then gather f n it' (acc++[y]) σ₃ else .stuck)=r₀:=hgo
       by_cases hlim:acc.length + 1<=lim
       ·replace hgo:=(if_pos hlim ..)▸hgo
        have hys:ys.size<=sizeLine:=by refine bw (yn ..) (bw (R3.length ..) ?_);exact vm hlim
        refine wpAny_list_append_plain (hsz:=hys) L3 fun h₅ hl₅ hs₅=>?_
        have M5:Move [D] s₃ { s₃ with heap:=h₅ }:=⟨fun b o hb e=>(hs₅.2 b fun q=>hb (by simp [q])).trans e,ya hs₅.1.symm,rfl,rfl⟩
        have soft5:=softD (X:=X) (μ:=μ₃) L3 d3
        refine ⟨n,yo _,μ₃,σ₃,it',acc++[y],ys.push w,_,S03.move M5 soft5 (fun b hb=>by refine gw (zg.mp hb ..) ?_;exact hD) c₀.base,?_,hl₅,?_,?_,N3.at' fun o e=>M5.keep Cc o (by simpa using Ne.symm hDC) e,d3,o3,hgo,next_plain hnx I.pl⟩
        ·exact j3.keeps (fun b hb o e=>M5.keep b o (fun hm=>hDo (zg.mp hm▸hb)) e) fun _ _ e=>e
        ·refine gw (u0 ..) ?_
         exact (M5.vrs soft5 R3).append (.cons (M5.vr soft5 r3) .nil)
        ·refine gw (zd ..) ?_;exact hlim
       ·replace hgo:=(if_neg hlim ..)▸hgo;exact absurd hgo.symm hne
end
end Mine
namespace Mine
open PySem PyProof.Rows PySem.Calls
section
variable {X:W}{A:Around}{d:Nat}{s s' s₀:Shared}{μ μ' μ₀:List Addr}{σ σ' σ₀:H}{env:zt}{cx cx':Cx}{ρ:Env}{own:List Addr}{it:It}{J:Addr}{C:Calls}{G:GT}{n₀:Nat}
theorem jr_self (j:JR X s.heap μ it J own) (hp:plainIt it=true) {Q:Value->Shared->Prop}{E:Value->Shared->Prop} (h:Q (.ref J) s):wpAny (Mo X) A (pyIter (.ref J)) Q E s:=by
 cases j with
 | list _ e=>exact wpAny_pyIter_listiter e h
 | range _ e=>exact wpAny_pyIter_rangeiter e h
 | seq _ ht e=>rcases ht with rfl | rfl;exact wpAny_pyIter_striter_ascii e h;exact wpAny_pyIter_striter_wide e h
 | rev _ e=>exact wpAny_pyIter_revIter e h
 | _=>cases hp
theorem Step.adopt {D:Addr}{o:O} (S:Step X s₀ μ₀ s μ σ) (hB:Base X s₀.heap) (hD:D∉μ) (true:s₀.heap.objs.size<=D) (r:OR X s.heap (μ++[D]) D o):Step X s₀ μ₀ s (μ++[D]) (σ++[o]) where
 hr:=S.hr.alloc hD (za hB.size true) r
 keep:=S.keep
 base:=S.base
 size:=S.size
 ext:=by
  obtain ⟨ν,rfl,h⟩:=S.ext
  refine ⟨ν++[D],by exact gw (zk ..) rfl,fun a ha=>?_⟩
  rcases z5.mp ha with q | q
  ·exact h a q
  ·refine gw (zg.mp q ..) ?_;exact true
 gens:=S.gens
 os:=S.os
noncomputable def compF (ns:List Int) (C:Calls) (ρ:Env) (elt:E) (cond:Option E) (v:V):M (Option V):=match cond with
 | none=>(evE ns C (ρ++[some v]) elt).bnd fun x=>.ret (some x)
 | some c=>(evE ns C (ρ++[some v]) c).bnd fun t=>match t with
   | .bool true=>(evE ns C (ρ++[some v]) elt).bnd fun x=>.ret (some x)
   | .bool false=>.ret .none
   | _=>stuck
noncomputable def compE (src:Src) (elt:E):Option E->E
 | none=>.comp src elt
 | some c=>.compIf src elt c
theorem evE_comp (ρ:Env) (src:Src) (elt:E) (cond:Option E):evE X.ns C ρ (compE src elt cond)=(evSrc X.ns C ρ src).bnd fun p=>(gather (compF X.ns C ρ elt cond) p.2 p.1 []).bnd fun xs=>newO (.list xs):=by
 cases cond <;> rfl
theorem T_comp {src:Src}{elt:E}{cond:Option E}{e:Expr} (h:T G (compE src elt cond) cx e):∃ x px it ifs sc p el cx',e=.ListComp el [⟨.Name x px,it,ifs,0⟩] sc p/\cx.inComp x sc=some cx'/\plainSrc src=true/\TSrc G src cx it/\T G elt cx' el /\
  ((ifs=[]/\cond=none)∨∃ c q,ifs=[c]/\T G q cx' c/\cond=some q):=by
 cases cond with
 | none=>exact ex7 h fun x px it sc p el cx' q=>⟨x,px,it,[],sc,p,el,cx',q.1,q.2.1,q.2.2.1,q.2.2.2.1,q.2.2.2.2,.inl ⟨rfl,rfl⟩⟩
 | some t=>exact ex8 h fun x px it sc p el ce cx' q=>⟨x,px,it,[ce],sc,p,el,cx',q.1,q.2.1,q.2.2.1,q.2.2.2.1,q.2.2.2.2.1,.inr ⟨ce,t,rfl,q.2.2.2.2.2,rfl⟩⟩
structure SimC (X:W) (C:Calls) (G:GT) (d:Nat) (src:Src) (elt:E) (cond:Option E):Prop where
 i:SimI X C G d src
 e:SimE X C G d elt
 t:∀ q,cond=some q->SimT X C G d q
theorem sim_turn {elt:Expr}{ifs:List Expr}{cenv:zt}{src:Src}{e:E}{cond:Option E} (hC:SimC X C G d src e cond) (h4:T G e cx' elt)
  (h5:(ifs=[]/\cond=none)∨∃ c q,ifs=[c]/\T G q cx' c/\cond=some q) {v:V} (c:Cn X A d true s μ σ) (F:FR X cenv cx' (ρ++[some v]) s.heap μ) :
  Sm X (turnP X A ifs elt cenv) (compF X.ns C ρ e cond v σ) (RlO X) s μ:=by
 rcases h5 with ⟨rfl,rfl⟩ | ⟨k,q,rfl,h6,rfl⟩
 ·refine (Sm.go c F (hC.e cx' elt h4 A cenv _ s μ σ c F) (P2:=fun u Q E s=>Q (some u) s) fun x _ u _ _ c1 F1 _ r=>Sm.ok fun Q E hQ=>hQ _ _ _ (Step.refl c1.hr c1.base) r).imp fun Q E h=>?_
  unfold turnP
  refine gw (List.forIn_nil ..) ?_
  exact wpAny_pure h
 ·have he:compF X.ns C ρ e (some q) v=((evE X.ns C (ρ++[some v]) q).bnd asB).bnd fun b=>if b then (evE X.ns C (ρ++[some v]) e).bnd fun x=>.ret (some x) else .ret .none:=by
   unfold compF
   dsimp only
   refine gw (bnd_assoc ..) ?_
   congr 1
   funext w
   cases w with
   | bool b=>cases b <;> rfl
   | _=>rfl
  refine gw he ?_
  refine (Sm.go c F (hC.t q rfl cx' k h6 A cenv _ s μ σ c F) (P2:=fun ok Q E s₃=>if ok=true then wpAny (Mo X) A (eval elt cenv) (fun y s₄=>Q (some y) s₄) E s₃ else Q none s₃) fun b σ₁ b' s₁ μ₁ c1 F1 _ r=>?_).imp fun Q E h=>?_
  ·cases r
   cases b with
   | true=>exact Sm.go c1 F1 (hC.e cx' elt h4 A cenv _ s₁ μ₁ σ₁ c1 F1) (P2:=fun u Q E s=>Q (some u) s) fun x _ u _ _ c2 F2 _ r=>Sm.ok fun Q E hQ=>hQ _ _ _ (Step.refl c2.hr c2.base) r
   | false=>exact Sm.ok fun Q E hQ=>hQ _ _ _ (Step.refl c1.hr c1.base) trivial
  ·unfold turnP
   refine gw (j6 ..) ?_
   simp only [if_true]
   refine wpAny_bind (wpAny_bind (wpAny_mono h (fun ok s₃ h₃=>wpAny_pure ?_) fun _ _ x=>x))
   dsimp only
   refine gw (List.forIn_nil ..) ?_
   exact wpAny_pure h₃
theorem src_fold {src:Src}{e:Expr} (h:TSrc G src cx e) (env:zt) (x:Value):foldedSetIterable e env x=pure x:=by
 cases src with
 | of t=>exact T.facts h |>.fold env x
 | range t=>obtain ⟨_,_,_,rfl,_⟩:=h;rfl
 | enum t=>obtain ⟨_,_,_,rfl,_⟩:=h;rfl
 | rev t=>obtain ⟨_,_,_,rfl,_⟩:=h;rfl
 | zip a b=>obtain ⟨_,_,_,_,rfl,_⟩:=h;rfl
theorem comp_core (L:Leaf X G C d) {elt iter:Expr}{x:Str}{px p pos':Pos}{ifs:List Expr}{sc:Scope}{ti:Src}{e:E}{cond:Option E} (hP:SimC X C G d ti e cond) (c:Cn X A d true s μ σ) (F:FR X env cx ρ s.heap μ)
  (hcx:cx.inComp x sc=some cx') (hpl:plainSrc ti=true) (h3:TSrc G ti cx iter) (h4:T G e cx' elt) (h5:(ifs=[]/\cond=none)∨∃ c q,ifs=[c]/\T G q cx' c/\cond=some q) {use:Option (Value->Sem Unit)}{Q:Value->Shared->Prop}{E:Value->Shared->Prop}
  (hne:evE X.ns C ρ (compE ti e cond) σ≠.stuck)
  (hfin:∀ acc σ' s' μ' D Cc k ys m,evE X.ns C ρ (compE ti e cond) σ=.ok (.ref σ'.length) (σ'++[.list acc])->Step X s μ s' μ' σ'->s'.heap.get? D=some { cls:=.type "list",data:=.seq ys k }->VRs X s'.heap μ' acc ys.toList->acc.length<=lim->s'.heap.Ns Cc m ->
   D∉μ'->Cc∉μ'->s.heap.objs.size<=D->s.heap.objs.size<=Cc->D≠Cc->compPost (Mo X) A E use Q (.ref D) Cc (.ok .next) s')
  (hexc:∀ k σ' y s' μ',evE X.ns C ρ (compE ti e cond) σ=.exc k σ'->Step X s μ s' μ' σ'->XR X s.heap k y s'.heap->E y s') :
  wpAny (Mo X) A (comprehension (.ListComp elt [⟨.Name x px,iter,ifs,0⟩] sc p) sc env pos' (newList []) false (eval iter env) use) Q E s:=by
 rw [evE_comp] at hne hfin hexc
 have hcx':=hcx
 unfold Cx.inComp at hcx'
 split at hcx'
 ·rename_i hq
  obtain ⟨q1,q_h⟩:=(hq);refine an5 q_h fun q2 q3 q4 q5 _=>?_
  refine wpAny_comprehension_free (cl:=freeOf env sc.names []) rfl (src_fold h3 env) (closure_eq fun n k hm hk=>F.cells n ((blockOk_free q2 n k hm).1 hk)) q1 (fun y hy hl=>by
   obtain ⟨n,k⟩:=y
   dsimp only at hl;subst hl
   exact mem_lookup q4 hy) ?_
  refine hP.i cx iter hpl h3 A env ρ s μ σ c F (fun e=>hne (bnd_stuck e)) _ _ (fun pr σ₁ u s₁ μ₁ e1 S1 i1=>?_) fun k σ₁ y s₁ μ₁ e1 S1 xr=>hexc k σ₁ y s₁ μ₁ (bnd_exc e1) S1 xr
  have eq1:=bnd_ok (k:=fun p:It×Nat=>(gather (compF X.ns C ρ e cond) p.2 p.1 []).bnd fun xs=>newO (.list xs)) e1
  rw [eq1] at hne hfin
  refine sm_iter (c.step S1) S1.size i1 fun J own s₂ hpi j2 S2 hown=>?_
  have S02:=S1.trans S2
  have c2:=c.step S02
  refine wpAny_newObj_type (wpAny_newFunctionEnv (fun y hy=>(blockOk_free q2 y.1 y.2 hy).2.1) (by intro y hy;simp at hy) (fun h₁ hns₁ hsb₁=>?_) q1)
  dsimp only at hns₁ hsb₁ ⊢
  generalize hH2:s₂.heap.push { cls:=.type "list",dict:=none,data:=.seq ([]:List Value).toArray }=H2 at hns₁ hsb₁ ⊢
  have hC:H2.objs.size=s₂.heap.objs.size + 1:=by exact bw hH2 (gw (wf ..) rfl)
  have hDC:s₂.heap.objs.size≠H2.objs.size:=by refine gw hC ?_;exact yj (yo _)
  have old:∀ b o,s₂.heap.get? b=some o->h₁.get? b=some o:=fun b o eb=>by
   have hb:=yb eb
   exact hsb₁.extBut b o (by refine gw hC ?_;exact yj (wa hb)) (zz _ (hH2▸zz _ eb))
  have hacc:h₁.PlainList s₂.heap.objs.size #[]:=⟨_,hsb₁.extBut _ _ hDC (zz _ (hH2▸ym _ rfl))⟩
  have hsz:s₂.heap.objs.size<=h₁.objs.size:=by refine gw (hsb₁.1 ..) (gw (wf ..) (gw hC ?_));exact zp _ 2
  have S03:Step X s μ { s₂ with heap:=h₁,toks:=s₂.toks + ([]:List (Str×Value)).length } μ₁ σ₁:=S02.trans (Step.grow c2 old hsz rfl rfl)
  have dm:s₂.heap.objs.size∉μ₁:=fun hm=>xj _ (c2.hr.lt hm)
  have cm:H2.objs.size∉μ₁:=fun hm=>by have:=c2.hr.lt hm;replace this:=hC▸this;exact xj _ (xe this)
  have loop:codeAny (Mo X) A (.compLoop (.ListComp elt [⟨.Name x px,iter,ifs,0⟩] sc p) 0 (.ref J) (.ref s₂.heap.objs.size) (compEnvC sc (freeOf env sc.names []) H2.objs.size env))
    (compPost (Mo X) A E use Q (.ref s₂.heap.objs.size) H2.objs.size) { s₂ with heap:=h₁,toks:=s₂.toks + ([]:List (Str×Value)).length }:=by
   refine comp_loop (s₀:=s) (μ₀:=μ) (own:=own) (it:=pr.1) (n:=pr.2) (acc:=[]) (ys:=#[]) (D:=s₂.heap.objs.size) (Cc:=H2.objs.size) (f:=compF X.ns C ρ e cond) (r₀:=gather (compF X.ns C ρ e cond) pr.2 pr.1 [] σ₁) c
    (fun q=>hne (by unfold M.bnd;exact gw q rfl)) ?_ q1 rfl hown S02.size (by refine gw hC ?_;exact zr S02.size) (fun hm=>?_) (fun hm=>?_) hDC (fun v u s' μ' σ' m c' S' n' hm' r' hC'=>?_) (fun acc s' μ' σ' ys m e' S' l' r' z' n' d' hCm=>?_)
    ⟨S03,j2.keeps (fun b _ o eb=>old b o eb) fun _ _ e=>e,hacc,.nil,z7 _,hns₁,dm,cm,rfl,hpi⟩
   ·show (PySem.relabel sc env).names.lookup x=some .local
    refine gw (relabel_names sc F ..) ?_
    refine gw (relabel_lookup' q3 ..) ?_;rfl
   ·exact xj _ ((j2.priv _ hm).lt)
   ·have:=(j2.priv _ hm).lt;replace this:=hC▸this;exact xj _ (xe this)
   ·refine sim_turn hP h4 h5 c' ((F.step c.hr S').comp hcx n' hm' r' hC' fun y cc hy=>?_)
    have:=(F.offC y cc hy).2.2
    have h2:=S02.size
    refine gw hC ?_;exact yj (wa (zm this h2))
   ·obtain ⟨k,el⟩:=l'
    exact hfin acc σ' s' μ' _ _ k ys m (by refine gw (bnd_ok e' ..) ?_;rfl) S' el r' z' n' d' hCm S02.size (by refine gw hC ?_;exact zr S02.size) hDC
  exact codeAny_compStart_list loop (jr_self (j2.keeps (fun b _ o eb=>old b o eb) fun _ _ e=>e) hpi loop)
 ·cases hcx'
theorem sim_comp (L:Leaf X G C d) {src:Src}{elt:E}{cond:Option E} (hC:SimC X C G d src elt cond):SimE X C G d (compE src elt cond):=by
 intro cx e he A env ρ s μ σ c F
 refine ex8 (T_comp he) fun x px iter ifs sc p el cx' q_h=>?_;refine an6 q_h fun q_8 hcx hpl h3 h4 h5=>?_;obtain rfl:=q_8
 intro hne Q E hQ hE'
 refine comp_core L hC c F hcx hpl h3 h4 h5 hne (fun acc σ' s' μ' D Cc k ys m e' S' el r' z' n' d' hCm hD hC hDC=>?_) hE'
 refine ⟨m,n',fun h' hs'=>?_⟩
 have M1:Move [Cc] s' { s' with heap:=h' }:=⟨fun b o hb e=>(hs'.2 b fun q=>hb (by simp [q])).trans e,ya hs'.1.symm,rfl,rfl⟩
 have S1':Step X s μ { s' with heap:=h' } μ' σ':=S'.move M1 (softC (X:=X) n' hCm) (fun b hb=>by refine gw (zg.mp hb ..) ?_;exact hC) c.base
 have el':h'.get? D=some { cls:=.type "list",data:=.seq ys k }:=M1.keep _ _ (by simpa using hDC) el
 have rr:VRs X h' μ' acc ys.toList:=M1.vrs (softC (X:=X) n' hCm) r'
 refine hQ (.ref σ'.length) (σ'++[.list acc]) _ _ (μ'++[D]) e' (S1'.adopt c.base d' hD (.list (l:=ys.toList) (n:=k) (by simpa using el') (by refine bw (rr.length ..) ?_;exact z') (rr.mono (fun _ _ e _=>e) ext_get))) (.ref ?_)
 refine bw (S1'.hr.len ..) (gw (zw (ze _) ..) ?_);simp
end
end Mine
namespace Mine
open PySem PyProof.Rows PySem.Calls
section
variable {X:W}{A:Around}{d:Nat}{C:Calls}{G:GT}
noncomputable def Parts (X:W) (C:Calls) (G:GT) (d:Nat):Src->Prop
 | .of t=>SimE X C G d t
 | .range t=>SimE X C G d t
 | .enum t=>SimE X C G d t
 | .rev t=>SimE X C G d t
 | .zip a b=>SimE X C G d a/\SimE X C G d b
theorem Parts.i (L:Leaf X G C d) {src:Src} (h:Parts X C G d src):SimI X C G d src:=by
 cases src with
 | of t=>exact simI_of h
 | range t=>exact simI_range L h
 | rev t=>exact simI_rev L h
 | _=>exact fun _ _ h=>nomatch h
mutual
theorem sim_all (L:Leaf X G C d):∀ t:E,Sim X C G d t
 | .lit v=>.plain (sim_lit v) rfl
 | .con v=>.plain (sim_con L v) rfl
 | .var k=>.plain (sim_var k) rfl
 | .bin op a b=>.plain (sim_bin (sim_all L a).ev (sim_all L b).ev) rfl
 | .not a=>sim_not (sim_all L a)
 | .neg a=>.plain (sim_neg (sim_all L a).ev) rfl
 | .and es=>sim_and (sim_alls L es)
 | .or es=>sim_or (sim_alls L es)
 | .cmp op a b=>sim_cmp (sim_all L a).ev (sim_all L b).ev
 | .cmp2 op op' a b c=>sim_cmp2 (sim_all L a).ev (sim_all L b).ev (sim_all L c).ev
 | .new k es=>.plain (sim_new L (sim_alls L es)) rfl
 | .mcall a m es=>.plain (sim_mcall L (sim_all L a).ev (sim_alls L es)) rfl
 | .attr a x=>.plain (sim_attr L (sim_all L a).ev) rfl
 | .mm mx a b=>.plain (sim_mm L (sim_all L a).ev (sim_all L b).ev) rfl
 | .call f es=>.plain (sim_call L (sim_alls L es)) rfl
 | .bi b a=>.plain (sim_bi L (sim_all L a).ev) rfl
 | .isi a t=>.plain (sim_isi L (sim_all L a).ev) rfl
 | .me a m es=>.plain (sim_me L (sim_all L a).ev (sim_alls L es)) rfl
 | .idx a i=>.plain (sim_idx (sim_all L a).ev (sim_all L i).ev) rfl
 | .slice a lo hi=>.plain (sim_slice (sim_all L a).ev (sim_all L lo).ev (sim_all L hi).ev) rfl
 | .nil=>.plain (fun _ _ h=>h.elim) rfl
 | .list es=>.plain (sim_list (sim_alls L es)) rfl
 | .tup es=>.plain (sim_tup (sim_alls L es)) rfl
 | .dict0=>.plain sim_dict0 rfl
 | .comp src elt=>.plain (sim_comp L (cond:=none) ⟨(sim_parts L src).i L,(sim_all L elt).ev,fun _ h=>nomatch h⟩) rfl
 | .compIf src elt c=>.plain (sim_comp L (cond:=some c) ⟨(sim_parts L src).i L,(sim_all L elt).ev,fun _ h=>Option.some.inj h▸(sim_all L c).tr⟩) rfl
theorem sim_alls (L:Leaf X G C d):∀ ts:List E,Sims X C G d ts
 | []=>trivial
 | t::ts=>⟨sim_all L t,sim_alls L ts⟩
theorem sim_parts (L:Leaf X G C d):∀ src:Src,Parts X C G d src
 | .of t=>(sim_all L t).ev
 | .range t=>(sim_all L t).ev
 | .enum t=>(sim_all L t).ev
 | .rev t=>(sim_all L t).ev
 | .zip a b=>⟨(sim_all L a).ev,(sim_all L b).ev⟩
end
end
end Mine
namespace Mine
open PySem PyProof.Rows PySem.Calls
noncomputable def Own (env:zt) (b:Addr):Prop:=b=env.locals∨∃ x,env.cells.lookup x=some b
structure Lo (X:W) (env:zt):Prop where
 l:X.h₀.objs.size<=env.locals
 c:∀ x a,env.cells.lookup x=some a->X.h₀.objs.size<=a
theorem Lo.own {X:W}{env:zt} (lo:Lo X env) {b:Addr} (h:Own env b):X.h₀.objs.size<=b:=by
 rcases h with rfl | ⟨x,h⟩
 ·exact lo.l
 ·exact lo.c x b h
structure StepE (X:W) (env:zt) (s:Shared) (μ:List Addr) (s':Shared) (μ':List Addr) (σ':H):Prop where
 hr:HR X μ' σ' s'.heap
 keep:∀ b o,b∉μ->¬ Own env b->s.heap.get? b=some o->∃ sl,s'.heap.get? b=some { o with slots:=sl }/\((∀ es n,o.data≠.dict es n)->sl=o.slots)
 base:Base X s'.heap
 size:s.heap.objs.size<=s'.heap.objs.size
 ext:∃ ν,μ'=μ++ν/\∀ a∈ν,s.heap.objs.size<=a
 gens:s'.gens=s.gens
 os:s'.os=s.os
 pers:∀ b,s'.heap.get? b=none->s.heap.get? b=none
inductive FlR (X:W) (h:Heap) (μ:List Addr):Fl->Flow->Prop
 | next:FlR X h μ .next .next
 | ret {v:V}{u:Value}:VR X h μ v u->FlR X h μ (.ret v) (.ret u)
noncomputable def XS (X:W) (env:zt) (g:Heap) (c:Nat) (e:Value) (h:Heap):Prop:=∃ a fl,e=.ref a/\Fly g (.ref (X.ca c)) a fl h/\(fl=none∨fl=some .none∨∃ L,env.frame=some L/\fl=some (rawInt L))
theorem XS.le {X:W}{env:zt}{g g':Heap}{c:Nat}{e:Value}{h:Heap} (x:XS X env g c e h) (l:∀ b,g.get? b=none->g'.get? b=none):XS X env g' c e h:=let ⟨a,fl,h1,h2,h3⟩:=x;⟨a,fl,h1,h2.le l,h3⟩
theorem XR.s {X:W}{env:zt}{g:Heap}{c:Nat}{e:Value}{h:Heap} (x:XR X g c e h):XS X env g c e h:=let ⟨a,h1,h2⟩:=x;⟨a,_,h1,h2,.inr (.inl rfl)⟩
noncomputable def SmS (X:W) (env:zt) (cx:Cx) (P:PT Flow) (r:RS) (s:Shared) (μ:List Addr):Prop :=
 r≠.stuck->∀ Q E,(∀ f ρ' σ' fl s' μ',r=.ok f ρ' σ'->StepE X env s μ s' μ' σ'->FR X env cx ρ' s'.heap μ'->FlR X s'.heap μ' f fl->Q fl s') ->
  (∀ c ρ' σ' e s' μ',r=.exc c ρ' σ'->StepE X env s μ s' μ' σ'->FR X env cx ρ' s'.heap μ'->XS X env s.heap c e s'.heap->E e s')->P Q E s
section
variable {X:W}{A:Around}{d:Nat}{hn:Bool}{s s' s'' s₀:Shared}{μ μ' μ'' μ₀:List Addr}{σ σ' σ'' σ₀:H}{env:zt}{cx cx':Cx}{ρ ρ':Env}{C D:Calls}{G:GT}
theorem Step.e (S:Step X s μ s' μ' σ'):StepE X env s μ s' μ' σ':=⟨S.hr,fun b o hb _ e=>S.keep b o hb e,S.base,S.size,S.ext,S.gens,S.os,S.pers⟩
theorem StepE.trans (S:StepE X env s μ s' μ' σ') (S':StepE X env s' μ' s'' μ'' σ''):StepE X env s μ s'' μ'' σ'':=by
 obtain ⟨ν,rfl,hν⟩:=S.ext
 obtain ⟨ν',rfl,hν'⟩:=S'.ext
 refine ⟨S'.hr,fun b o hb hO e=>?_,S'.base,za S.size S'.size,⟨ν++ν',by exact gw (zk ..) rfl,fun a ha=>?_⟩,S'.gens.trans S.gens,S'.os.trans S.os,fun b h=>S.pers b (S'.pers b h)⟩
 ·obtain ⟨sl,e1,q1⟩:=S.keep b o hb hO e
  have hb':b∉μ++ν:=fun hm=>by
   rcases z5.mp hm with h1 | h1
   ·exact hb h1
   ·exact absurd (yb e) (yc.mpr (hν b h1))
  obtain ⟨sl',e2,q2⟩:=S'.keep b _ hb' hO e1
  exact ⟨sl',e2,fun hd=>(q2 hd).trans (q1 hd)⟩
 ·rcases z5.mp ha with h1 | h1
  ·exact hν a h1
  ·exact za S.size (hν' a h1)
theorem StepE.get (S:StepE X env s μ s' μ' σ'):∀ (i:Nat) (a:Addr),μ[i]?=some a->μ'[i]?=some a:=by
 obtain ⟨ν,rfl,_⟩:=S.ext
 exact ext_get
theorem StepE.notIn (S:StepE X env s μ s' μ' σ') {b:Addr} (hb:b∉μ) (hl:b < s.heap.objs.size):b∉μ':=by
 obtain ⟨ν,rfl,hν⟩:=S.ext
 intro hm
 rcases z5.mp hm with h1 | h1
 ·exact hb h1
 ·exact absurd hl (yc.mpr (hν b h1))
noncomputable def FrOk (A:Around) (env:zt):Prop:=env.frame=some env.locals/\∃ outer,A.frames=some (env::outer)/\∀ e∈outer,∀ L,e.frame=some L->¬ Own env L
theorem FrOk.all {A:Around}{env:zt} (h:FrOk A env) {fs:List zt} (e:A.frames=some fs):∀ x∈fs,∀ L,x.frame=some L->L=env.locals∨¬ Own env L:=fun x hx L hL=>by
 obtain ⟨h1,outer,h2,h3⟩:=h
 replace e:=h2▸e;cases e
 rcases zy.mp hx with rfl | hx
 ·left;replace hL:=h1▸hL;cases hL;rfl
 ·exact .inr (h3 x hx L hL)
theorem StepE.ff (S:StepE X env s μ s' μ' σ') (F:FR X env cx ρ' s'.heap μ'):∀ {l:List zt},(∀ e∈l,∀ L,e.frame=some L->L=env.locals∨¬ Own env L)->FF X s.heap μ l->FF X s'.heap μ' l
 | [],_,_=>trivial
 | e::r,ho,h=>by
  obtain ⟨⟨a,L,o,es,n,e1,e2,e3,e4,e5⟩,hr⟩:=h
  refine ⟨⟨a,L,?_⟩,S.ff F (fun x hx=>ho x (zj _ hx)) hr⟩
  rcases ho e zh L e1 with q | q
  ·obtain ⟨m,⟨o',es',ep',k1,k2,_⟩,_⟩:=F.ns
   subst q
   exact ⟨o',es',ep',e1,e2,F.offL,k1,k2⟩
  ·obtain ⟨sl,k1,_⟩:=S.keep L o e3 q e4
   exact ⟨_,es,n,e1,e2,S.notIn e3 (yb e4),k1,e5⟩
theorem Cn.stepE (c:Cn X A d hn s μ σ) (S:StepE X env s μ s' μ' σ') (F:FR X env cx ρ' s'.heap μ') (ho:FrOk A env):Cn X A d hn s' μ' σ' :=
 ⟨c.rm,S.hr,S.base,(let ⟨fs,e,f⟩:=c.fs;⟨fs,e,S.ff F (ho.all e) f⟩),c.scr,fun a h=>zm (c.bad a h) S.size⟩
theorem StepE.of_move {a:Addr} (c:Cn X A d hn s μ σ) (m:Move [a] s s') (ha:Own env a) (lo:Lo X env) (hs:Soft X s.heap μ a) (hx:∃ o,s'.heap.get? a=some o):StepE X env s μ s' μ σ where
 pers:=fun b hb=>by
  cases e:s.heap.get? b with
  | none=>rfl
  | some o =>
   by_cases q:b=a
   ·subst q;obtain ⟨o',e'⟩:=hx;replace e':=hb▸e';cases e'
   ·replace hb:=(m.keep b o (by simpa using q) e ..)▸hb;cases hb
 hr:=m.hr (fun b hb=>by refine gw (zg.mp hb ..) ?_;exact hs) c.hr
 keep:=fun b o _ hO e=>⟨o.slots,m.keep b o (fun hm=>hO (zg.mp hm▸ha)) e,fun _=>rfl⟩
 base:=⟨fun b o e=>m.keep b o (fun hm=>absurd (yb e) (yc.mpr (zg.mp hm▸lo.own ha))) (c.base.keep b o e),za c.base.size m.size,c.base.low⟩
 size:=m.size
 ext:=⟨[],by simp,fun _ h=>nomatch h⟩
 gens:=m.gens
 os:=m.os
theorem set_get {k j:Nat}{v w:V} (hk:k < ρ.length) (h:(ρ.set k (some v))[j]?=some (some w)):(j=k/\w=v)∨(j≠k/\ρ[j]?=some (some w)):=by
 by_cases hj:k=j
 ·subst hj
  replace h:=(jk hk ..)▸h
  cases h;exact .inl ⟨rfl,rfl⟩
 ·replace h:=(jy hj ..)▸h
  exact .inr ⟨fun e=>hj e.symm,h⟩
theorem sm_store (c:Cn X A d hn s μ σ) (F:FR X env cx ρ s.heap μ) (lo:Lo X env) {x:Str}{k:Nat} (hk:cx.slot x=some k) {v:V}{u:Value} (r:VR X s.heap μ v u) {Q:Unit->Shared->Prop}{E:Value->Shared->Prop}
  (h:∀ s',StepE X env s μ s' μ σ->FR X env cx (ρ.set k (some v)) s'.heap μ->(∀ {v:V}{u:Value},VR X s.heap μ v u->VR X s'.heap μ v u)->Q () s'):wpAny (Mo X) A (storeName env x u) Q E s:=by
 obtain ⟨hk,hkd | hkd⟩:=slot_lk hk
 ·obtain ⟨m,n,hm⟩:=F.ns
  have hkl:k < ρ.length:=by refine gw (F.len ..) ?_;exact F.bound x k hk
  refine wpAny_storeName_local (by refine gw (F.kindOf ..) ?_;exact hkd) n (fun h' hn' hs'=>?_) (by refine gw (F.kind ..) ?_;rfl)
  have hsf:Soft X s.heap μ env.locals:=softC n F.offL _ (zg.mpr rfl)
  have M:Move [env.locals] s { s with heap:=h',toks:=s.toks + 1 }:=⟨fun b o hb e=>(hs'.2 b fun q=>hb (by simp [q])).trans e,ya hs'.1.symm,rfl,rfl⟩
  have sf:∀ b∈[env.locals],Soft X s.heap μ b:=fun b hb=>by refine gw (zg.mp hb ..) ?_;exact hsf
  refine h _ (.of_move c M (.inl rfl) lo hsf (let ⟨o,_,_,e,_⟩:=hn';⟨o,e⟩)) { F with
   ns:=⟨_,hn',fun y j w e1 e2 e3=>?_⟩
   cell:=fun y j e1 e2=>?_
   offC:=fun y cc e=>⟨(F.offC y cc e).1,(F.offC y cc e).2.1,zm (F.offC y cc e).2.2 M.size⟩
   len:=by refine gw (f0 ..) ?_;exact F.len } (fun r=>M.vr sf r)
  ·rcases set_get hkl e3 with ⟨rfl,rfl⟩ | ⟨hne,e4⟩
   ·have:y=x:=F.slots y x j e2 hk
    subst this
    exact ⟨u,by simp,M.vr sf r⟩
   ·obtain ⟨w',a1,a2⟩:=hm y j w e1 e2 e4
    have hyx:y≠x:=fun q=>by subst q;replace e2:=hk▸e2;cases e2;exact hne rfl
    exact ⟨w',by refine gw (if_neg hyx ..) ?_;exact a1,M.vr sf a2⟩
  ·refine ex2 (F.cell y j e1 e2) fun cc w q_h=>?_;refine an3 q_h fun a1 a2 a3=>?_
   refine ⟨cc,w,a1,a2.sameBut hs' ((F.offC y cc a1).2.1),fun v' hv'=>?_⟩
   rcases set_get hkl hv' with ⟨rfl,rfl⟩ | ⟨hne,e4⟩
   ·have:y=x:=F.slots y x j e2 hk
    subst this
    replace e1:=hkd▸e1;cases e1
   ·obtain ⟨z,b1,b2⟩:=a3 v' e4
    exact ⟨z,b1,M.vr sf b2⟩
 ·have hkl:k < ρ.length:=by refine gw (F.len ..) ?_;exact F.bound x k hk
  refine ex2 (F.cell x k hkd hk) fun cc w q_h=>?_;refine an3 q_h fun a1 a2 a3=>?_
  refine wpAny_storeName_cell F.kind (by refine gw (F.kindOf ..) ?_;exact hkd) a1 a2 fun h' hc' hs'=>?_
  have hsf:Soft X s.heap μ cc:=⟨(F.offC x cc a1).1,fun o e hS=>by
   obtain ⟨o',e',hd⟩:=a2
   replace e':=e▸e';cases e'
   exact hS.2.2.1 _ hd⟩
  have M:Move [cc] s { s with heap:=h' }:=⟨fun b o hb e=>(hs'.2 b fun q=>hb (by simp [q])).trans e,ya hs'.1.symm,rfl,rfl⟩
  have sf:∀ b∈[cc],Soft X s.heap μ b:=fun b hb=>by refine gw (zg.mp hb ..) ?_;exact hsf
  obtain ⟨m,n,hm⟩:=F.ns
  refine h _ (.of_move c M (.inr ⟨x,a1⟩) lo hsf (let ⟨o,e,_⟩:=hc';⟨o,e⟩)) { F with
   ns:=⟨m,n.sameBut hs' (Ne.symm (F.offC x cc a1).2.1),fun y j w' e1 e2 e3=>?_⟩
   cell:=fun y j e1 e2=>?_
   offC:=fun y c' e=>⟨(F.offC y c' e).1,(F.offC y c' e).2.1,zm (F.offC y c' e).2.2 M.size⟩
   len:=by refine gw (f0 ..) ?_;exact F.len } (fun r=>M.vr sf r)
  ·rcases set_get hkl e3 with ⟨rfl,rfl⟩ | ⟨hne,e4⟩
   ·have:y=x:=F.slots y x j e2 hk
    subst this
    replace e1:=hkd▸e1;cases e1
   ·obtain ⟨w2,b1,b2⟩:=hm y j w' e1 e2 e4
    exact ⟨w2,b1,M.vr sf b2⟩
  ·refine ex2 (F.cell y j e1 e2) fun c2 w2 q_h=>?_;refine an3 q_h fun b1 b2 b3=>?_
   by_cases hyx:y=x
   ·subst hyx
    replace b1:=a1▸b1;cases b1
    replace e2:=hk▸e2;cases e2
    refine ⟨cc,some u,a1,hc',fun v' hv'=>?_⟩
    rcases set_get hkl hv' with ⟨_,rfl⟩ | ⟨hne,_⟩
    ·exact ⟨u,rfl,M.vr sf r⟩
    ·exact absurd rfl hne
   ·have hcc:c2≠cc:=fun q=>hyx (F.apart y x cc (q▸b1) a1)
    refine ⟨c2,w2,b1,b2.sameBut hs' hcc,fun v' hv'=>?_⟩
    rcases set_get hkl hv' with ⟨rfl,rfl⟩ | ⟨hne,e4⟩
    ·exact absurd (F.slots y x j e2 hk) hyx
    ·obtain ⟨z,d1,d2⟩:=b3 v' e4
     exact ⟨z,d1,M.vr sf d2⟩
theorem SmS.mono {P P':PT Flow}{r:RS} (h:SmS X env cx P r s μ) (hp:∀ Q E,P Q E s->P' Q E s):SmS X env cx P' r s μ:=fun hne Q E hQ hE=>hp Q E (h hne Q E hQ hE)
theorem FF.all {h:Heap}:∀ {l:List zt},FF X h μ l->∀ b∈l.filterMap (·.frame),X.h₀.get? b=none/\b∉μ/\∃ o es n,h.get? b=some o/\o.data=.dict es n
 | [],_,b,hb=>by simp at hb
 | e::l,hf,b,hb=>by
  obtain ⟨⟨_,L,o,es,n,k1,k2,k3,k4,k5⟩,hr⟩:=hf
  replace hb:=k1▸(gb ..)▸hb
  rcases zy.mp hb with rfl | hb
  ·exact ⟨k2,k3,o,es,n,k4,k5⟩
  ·exact FF.all hr b hb
structure FrIn (X:W) (fr:List Addr) (h:Heap) (μ:List Addr):Prop where
 all:∀ b∈fr,X.h₀.get? b=none/\b∉μ/\∃ o es n,h.get? b=some o/\o.data=.dict es n
theorem Eff.solid {g:Heap}{fr:List Addr}{h h':Heap} (ef:Eff g fr h h') (hf:FrIn X fr h μ):∀ a o,h.get? a=some o->Solid X a o->∃ o',h'.get? a=some o'/\LikeO o o':=fun a o e hS=>ef.like a o (fun hm=>by
 obtain ⟨_,_,o',es,n',e',hd⟩:=hf.all a hm
 replace e':=e▸e';cases e'
 exact hS.2.1 _ _ hd) e
theorem Eff.hr {g:Heap}{fr:List Addr}{h h':Heap} (ef:Eff g fr h h') (hf:FrIn X fr h μ) (R:HR X μ σ h):HR X μ σ h' where
 len:=R.len
 nodup:=R.nodup
 fresh:=R.fresh
 obj:=fun i o a e1 e2=>by
  cases R.obj i o a e1 e2 with
  | list e z r =>
   obtain ⟨o',e',l⟩:=ef.like a _ (fun hm=>(hf.all a hm).2.1 (yr e2)) e
   rcases l with rfl | ⟨_,_,q,_⟩
   ·exact .list e' z (r.each fun x=>x.like (ef.solid hf) fun _ _ e=>e)
   ·cases q
  | dict e z r =>
   refine ex3 (e) fun od es ep q_h=>?_;refine an3 q_h fun e hd q=>?_
   obtain ⟨o',e',l⟩:=ef.like a _ (fun hm=>(hf.all a hm).2.1 (yr e2)) e
   rcases l with rfl | ⟨fs,_,q1,_⟩
   ·exact .dict ⟨_,es,ep,e',hd,q⟩ z (r.like fun x=>x.each fun y=>y.like (ef.solid hf) fun _ _ e=>e)
   ·have q2:=q.1;replace q2:=q1▸q2;cases q2
theorem Eff.fr {g:Heap}{fr:List Addr}{h':Heap} (ef:Eff g fr s.heap h') (hf:FrIn X fr s.heap μ) (hl:env.locals∈fr) (F:FR X env cx ρ s.heap μ):FR X env cx ρ h' μ:={ F with
 ns:=by
  obtain ⟨m,⟨o,es,ep,e,hd,rr⟩,hm⟩:=F.ns
  obtain ⟨sl,e'⟩:=ef.fram _ o hl e
  exact ⟨m,⟨_,es,ep,e',hd,rr⟩,fun x k v h1 h2 h3=>let ⟨u,a,b⟩:=hm x k v h1 h2 h3;⟨u,a,b.like (ef.solid hf) fun _ _ e=>e⟩⟩
 cell:=fun x k h1 h2=>by
  refine ex2 (F.cell x k h1 h2) fun cc u q_h=>?_;refine an3 q_h fun a q_3 dd=>?_;obtain ⟨o,e,hd⟩:=q_3
  obtain ⟨o',e',l⟩:=ef.like cc o (fun hm=>by
   obtain ⟨_,_,o'',es,n',e'',hd'⟩:=hf.all cc hm
   replace e'':=e▸e'';cases e''
   replace hd':=hd▸hd';cases hd') e
  rcases l with rfl | ⟨_,_,q,_⟩
  ·exact ⟨cc,u,a,⟨_,e',hd⟩,fun v hv=>let ⟨y,p,q⟩:=dd v hv;⟨y,p,q.like (ef.solid hf) fun _ _ e=>e⟩⟩
  ·replace q:=hd▸q;cases q
 offC:=fun x cc h=>⟨(F.offC x cc h).1,(F.offC x cc h).2.1,zm (F.offC x cc h).2.2 ef.size⟩ }
theorem StepE.eff {fr:List Addr}{h':Heap} (S:StepE X env s₀ μ₀ s μ σ) (ef:Eff s₀.heap fr s.heap h') (hf:FrIn X fr s.heap μ) (hB:Base X s₀.heap):StepE X env s₀ μ₀ { s with heap:=h' } μ σ where
 pers:=fun b hb=>S.pers b (by
  cases e:s.heap.get? b with
  | none=>rfl
  | some o =>
   by_cases hm:b∈fr
   ·obtain ⟨sl,e'⟩:=ef.fram b o hm e
    have hb':h'.get? b=none:=hb
    replace e':=hb'▸e';cases e'
   ·obtain ⟨o',e',_⟩:=ef.like b o hm e
    have hb':h'.get? b=none:=hb
    replace e':=hb'▸e';cases e')
 hr:=ef.hr hf S.hr
 keep:=fun b o hb hO e=>by
  obtain ⟨sl,e1,q⟩:=S.keep b o hb hO e
  by_cases hm:b∈fr
  ·obtain ⟨sl',e2⟩:=ef.fram b _ hm e1
   refine ⟨sl',e2,fun hd=>?_⟩
   obtain ⟨_,_,o',es,n',e',hd'⟩:=hf.all b hm
   replace e':=e1▸e';cases e'
   exact absurd hd' (hd _ _)
  ·exact ⟨sl,ef.old b _ _ e hm e1,q⟩
 base:=⟨fun b o e=>ef.old b o _ (hB.keep b o e) (fun hm=>by replace e:=((hf.all b hm).1 ..)▸e;cases e) (S.base.keep b o e),za S.base.size ef.size,S.base.low⟩
 size:=za S.size ef.size
 ext:=S.ext
 gens:=S.gens
 os:=S.os
theorem FF.eff {g:Heap}{fr:List Addr}{h h':Heap} (ef:Eff g fr h h'):∀ {l:List zt},(∀ b∈l.filterMap (·.frame),b∈fr)->FF X h μ l->FF X h' μ l
 | [],_,_=>trivial
 | e::l,hs,hf=>by
  obtain ⟨⟨a,L,o,es,n,k1,k2,k3,k4,k5⟩,hr⟩:=hf
  have hm:∀ b∈(e::l).filterMap (·.frame),b∈fr:=hs
  replace hm:=k1▸(gb ..)▸hm
  obtain ⟨sl,e'⟩:=ef.fram L o (hm L zh) k4
  exact ⟨⟨a,L,_,es,n,k1,k2,k3,e',k5⟩,FF.eff ef (fun b hb=>hm b (zj _ hb)) hr⟩
theorem xs_note {g:Heap}{k:Nat}{e:Value} (c:Cn X A d hn s μ σ) (F:FR X env cx ρ s.heap μ) (ho:FrOk A env) (S:StepE X env s₀ μ₀ s μ σ) (hB:Base X s₀.heap) (hz:g=s₀.heap) (x:XS X env g k e s.heap) {Q:Unit->Shared->Prop}{E:Value->Shared->Prop}
  (h:∀ s' a,e=.ref a->StepE X env s₀ μ₀ s' μ σ->FR X env cx ρ s'.heap μ->Cn X A d hn s' μ σ->Fly g (.ref (X.ca k)) a (some (rawInt env.locals)) s'.heap->Q () s'):wpAny (Mo X) A (noteFrame e env) Q E s:=by
 obtain ⟨hl,outer,hfr,_⟩:=ho
 obtain ⟨fs,e1,hff⟩:=c.fs
 replace e1:=hfr▸e1;cases e1
 refine ex2 (x) fun a fl q_h=>?_;refine an3 q_h fun q_2 f hfl=>?_;obtain rfl:=q_2
 subst hz
 have hin:FrIn X ((env::outer).filterMap (·.frame)) s.heap μ:=⟨hff.all⟩
 have hlm:env.locals∈(env::outer).filterMap (·.frame):=gj.mpr ⟨env,zh,hl⟩
 refine fly_note hfr hff.fun hl S.size f ?_ fun h' ef f'=>?_
 ·rcases hfl with h1 | h1 | ⟨L,h1,h2⟩
  ·exact .inl h1
  ·exact .inr (.inl h1)
  ·replace h1:=hl▸h1;cases h1;exact .inr (.inr h2)
 ·have S':=S.eff ef hin hB
  have F':=ef.fr hin hlm F
  exact h _ a rfl S' F' ⟨c.rm,S'.hr,S'.base,⟨_,hfr,hff.eff ef fun _ h=>h⟩,c.scr,fun a h=>zm (c.bad a h) ef.size⟩ f'
theorem xs_set {g:Heap}{k:Nat}{a:Addr}{v:Value} (c:Cn X A d hn s μ σ) (F:FR X env cx ρ s.heap μ) (ho:FrOk A env) (S:StepE X env s₀ μ₀ s μ σ) (hB:Base X s₀.heap) (hz:g=s₀.heap) (x:Fly g (.ref (X.ca k)) a (some v) s.heap) (f:Option Addr) {Q:Unit->Shared->Prop}{E:Value->Shared->Prop}
  (h:∀ s',StepE X env s₀ μ₀ s' μ σ->FR X env cx ρ s'.heap μ->Cn X A d hn s' μ σ->Fly g (.ref (X.ca k)) a (some (f.elim Value.none fun a=>rawInt a)) s'.heap->Q () s'):wpAny (Mo X) A (setFlight (.ref a) f) Q E s:=by
 obtain ⟨hl,outer,hfr,_⟩:=ho
 obtain ⟨fs,e1,hff⟩:=c.fs
 replace e1:=hfr▸e1;cases e1
 subst hz
 have hin:FrIn X ((env::outer).filterMap (·.frame)) s.heap μ:=⟨hff.all⟩
 have hlm:env.locals∈(env::outer).filterMap (·.frame):=gj.mpr ⟨env,zh,hl⟩
 refine fly_set x f hff.fun fun h' ef f'=>?_
 have S':=S.eff ef hin hB
 have F':=ef.fr hin hlm F
 exact h _ S' F' ⟨c.rm,S'.hr,S'.base,⟨_,hfr,hff.eff ef fun _ h=>h⟩,c.scr,fun a h=>zm (c.bad a h) ef.size⟩ f'
theorem xs_loop {g:Heap}{k:Nat}{e:Value} (c:Cn X A d hn s μ σ) (F:FR X env cx ρ s.heap μ) (ho:FrOk A env) (S:StepE X env s₀ μ₀ s μ σ) (hB:Base X s₀.heap) (hz:g=s₀.heap) (x:XS X env g k e s.heap) {E:Value->Shared->Prop}
  (h:∀ s',StepE X env s₀ μ₀ s' μ σ->FR X env cx ρ s'.heap μ->XS X env g k e s'.heap->E e s'):notedBy (Mo X) A env (cameBackBy (Mo X) A env E) e s:=by
 refine xs_note c F ho S hB hz x fun s₁ a he S1 F1 c1 f1=>?_
 subst he
 obtain ⟨hn',oe,vs,a0,e1,e2,e3,e4,T,oT,ts,e5,r⟩:=id f1
 refine wpAny_bind (wpAny_field e1 e3 e5 ?_)
 refine gw (if_neg (by simp) ..) ?_
 refine xs_set c1 F1 ho S1 hB hz f1 env.frame fun s₂ S2 F2 c2 f2=>?_
 replace f2:=(ho.1 ..)▸f2
 exact h s₂ S2 F2 ⟨a,_,rfl,f2,.inr (.inr ⟨_,ho.1,rfl⟩)⟩
theorem xs_leave {g:Heap}{k:Nat}{e:Value} (c:Cn X A d hn s μ σ) (F:FR X env cx ρ s.heap μ) (ho:FrOk A env) (S:StepE X env s₀ μ₀ s μ σ) (hB:Base X s₀.heap) (hz:g=s₀.heap) (x:XS X env g k e s.heap) {Q:Unit->Shared->Prop}{E:Value->Shared->Prop}
  (h:∀ s',StepE X env s₀ μ₀ s' μ σ->XR X g k e s'.heap->Q () s'):wpAny (Mo X) A (leaving env e) Q E s:=by
 unfold leaving
 refine wpAny_bind (xs_note c F ho S hB hz x fun s₁ a he S1 F1 c1 f1=>?_)
 subst he
 exact xs_set c1 F1 ho S1 hB hz f1 none fun s₂ S2 F2 c2 f2=>h s₂ S2 ⟨a,rfl,f2⟩
end
end Mine
namespace Mine
open PySem PyProof.Rows PySem.Calls
section
variable {X:W}{A:Around}{d:Nat}{hn:Bool}{s:Shared}{μ:List Addr}{σ:H}
theorem stored_same (y:Str) (u u':Value) (es:List (Str×Value)) (hn:y∉es.map (·.1)):stored ((y,u)::es) y u'=(y,u')::es:=by
 unfold stored
 refine gw (if_pos (by simp) ..) ?_
 simp only [xn,if_true]
 exact gw (map_store_of_not_mem es y u' hn ..) rfl
theorem stored_other (y x:Str) (u u':Value) (es:List (Str×Value)) (hne:y≠x):stored ((y,u)::es) x u'=(y,u)::stored es x u':=by
 unfold stored
 simp only [List.any_cons,hne,decide_false,Bool.false_or]
 split
 ·simp [hne]
 ·rfl
theorem ERs.put {h:Heap}{kvs:List (List Nat×V)}{l:List (Str×Value)} (r:ERs X h μ kvs l) (hn:(l.map (·.1)).Nodup) (x:Str) (hx:x.length<=Mine.lim) {v:V}{u:Value} (q:VR X h μ v u):ERs X h μ (dput kvs (codes x) v) (stored l x u):=by
 obtain ⟨hk,hlm,hv⟩:=r
 induction kvs generalizing l with
 | nil=>cases l with
  | nil=>exact ⟨rfl,fun p hp=>by refine gw (zg.mp hp ..) ?_;exact hx,.cons q .nil⟩
  | cons _ _=>cases hk
 | cons p ps ih =>
  cases l with
  | nil=>cases hk
  | cons e es =>
   obtain ⟨k,v'⟩:=p
   obtain ⟨y,u'⟩:=e
   rw [xn,xg] at hn
   rw [xn,xn] at hk hv
   injection hk with hk hks
   cases hv with
   | cons hv hvs =>
    rw [dput]
    by_cases hxy:y=x
    ·subst hxy
     rw [stored_same _ _ _ _ hn.1,if_pos hk]
     refine ⟨?_,fun p hp=>?_,.cons q hvs⟩
     ·exact gw (xn ..) (gw (xn ..) (gw hks (gw hk rfl)))
     ·rcases zy.mp hp with rfl | hp
      ·exact hx
      ·exact hlm p (zj _ hp)
    ·rw [stored_other _ _ _ _ _ hxy,if_neg fun q=>hxy (codes_inj (hk.symm.trans q))]
     obtain ⟨i1,i2,i3⟩:=ih hn.2 hks (fun p hp=>hlm p (zj _ hp)) hvs
     refine ⟨?_,fun p hp=>?_,.cons hv i3⟩
     ·refine gw (xn ..) (gw (xn ..) (gw i1 ?_));exact congrArg (·::_) hk
     ·rcases zy.mp hp with rfl | hp
      ·exact hlm _ zh
      ·exact i2 p hp
theorem dict_nodup {knd:KeyKind X.prog X.w Str}{h:Heap}{a:Addr}{l:List (Str×Value)} (hd:h.DictOf knd a l):(l.map (·.1)).Nodup:=ex3 hd fun _ _ _ q=>q.2.2.2.2.2
theorem sm_putD (c:Cn X A d hn s μ σ) {i:Nat}{a:Addr} (hi:μ[i]?=some a) {P:PT Unit}{kvs:List (List Nat×V)}{l l':List (Str×Value)} (hd:s.heap.DictOf (strKind X.prog X.w) a l) (r:ERs X s.heap μ kvs l')
  (h:∀ Q E,(∀ h' t,h'.DictOf (strKind X.prog X.w) a l'->Heap.SameBut a s.heap h'->Q () { s with heap:=h',toks:=t })->P Q E s):Sm X P (putD i kvs σ) (fun _ _ _ _=>True) s μ:=by
 unfold putD
 split
 ·rename_i hz
  refine Sm.ok (a:=V.none) fun Q E hQ=>h Q E fun h' t hd' hs=>?_
  have hk':∀ b o,s.heap.get? b=some o->Solid X b o->h'.get? b=some o:=fun b o eb hS=>(hs.2 b fun q=>by
   refine ex3 (hd) fun od _ _ q_h=>?_;refine an3 q_h fun e hc _=>?_
   replace eb:=e▸q▸eb;cases eb;exact hS.offList (.inr hc.1)).trans eb
  exact hQ _ _ _ (Step.put c (s':={ s with heap:=h',toks:=t }) hi hs rfl rfl (o:=.dict kvs) (.dict hd' (by refine bw (r.length ..) ?_;exact hz) (r.like fun q=>q.mono hk' fun _ _ e=>e))) trivial
 ·exact Sm.stuck
theorem sm_putL {β:Type} (c:Cn X A d hn s μ σ) {i:Nat}{a:Addr} (hi:μ[i]?=some a) {P:PT β}{xs:List V}{l l':List Value}{n:Nat}{b:β}{rel:Heap->List Addr->V->β->Prop} (e:s.heap.get? a=some { cls:=.type "list",data:=.seq (jd l) n }) (r:VRs X s.heap μ xs l') (hb:∀ h μ,rel h μ .none b)
  (h:l'.length<=lim->∀ Q E,(∀ h' n' t,h'.get? a=some { cls:=.type "list",data:=.seq (jd l') n' }->Heap.SameBut a s.heap h'->Q b { s with heap:=h',toks:=t })->P Q E s):Sm X P (putL i xs σ) rel s μ:=by
 unfold putL
 split
 ·rename_i hz
  refine Sm.ok (a:=V.none) fun Q E hQ=>h (by refine bw (r.length ..) ?_;exact hz) Q E fun h' n' t e' hs=>?_
  have hk':∀ b o,s.heap.get? b=some o->Solid X b o->h'.get? b=some o:=fun b o eb hS=>(hs.2 b fun q=>by
   replace eb:=e▸q▸eb;cases eb;exact hS.offList (.inl rfl)).trans eb
  exact hQ _ _ _ (Step.put c (s':={ s with heap:=h',toks:=t }) hi hs rfl rfl (o:=.list xs) (.list e' (by refine bw (r.length ..) ?_;exact hz) (r.mono hk' fun _ _ e=>e))) (hb _ _)
 ·exact Sm.stuck
theorem sm_set (c:Cn X A d hn s μ σ) {x y z:V}{u v w:Value} (hx:VR X s.heap μ x u) (hy:VR X s.heap μ y v) (hz:VR X s.heap μ z w) :
  Sm X (Wp X A (setItem u v w)) (setV x y z σ) (fun _ _ _ _=>True) s μ:=by
 show Sm X _ (asR x (fun l=>asS y fun k=>onD l fun kvs=>putD l (dput kvs k z)) σ) _ _ _
 refine sm_asR hx fun i a e hi=>sm_asS hy fun x t e' hq=>?_
 subst e e'
 exact sm_onD c hi fun kvs l ho hd r hl=>sm_putD c hi hd (r.put (dict_nodup hd) x hq hz) fun Q E hq=>wpAny_setItem_pairs (hsz:=hl) (strKind_is X.prog X.w x t) hd fun h' hd' hs=>hq h' _ hd' hs
end
end Mine
namespace Mine
open PySem PyProof.Rows PySem.Calls
section
variable {X:W}{A:Around}{d:Nat}{s s' s'' s₀:Shared}{μ μ' μ'' μ₀:List Addr}{σ σ' σ'' σ₀:H}{env:zt}{cx cx':Cx}{ρ ρ':Env}{C:Calls}{G:GT}{own:List Addr}{it:It}{J:Addr}
theorem ofE_ok {α:Type}{r:R α}{k:α->H->RS}{a:α}{σ:H} (e:r=.ok a σ):RS.ofE r ρ k=k a σ:=by refine gw e ?_;rfl
theorem ofE_exc {α:Type}{r:R α}{k:α->H->RS}{c:Nat}{σ:H} (e:r=.exc c σ):RS.ofE r ρ k=.exc c ρ σ:=by refine gw e ?_;rfl
theorem ofE_stuck {α:Type}{r:R α}{k:α->H->RS} (e:r=.stuck):RS.ofE r ρ k=.stuck:=by refine gw e ?_;rfl
theorem SmS.bind {α β:Type}{P:PT β}{P2:β->PT Flow}{m:M α}{k:α->H->RS}{rel:Heap->List Addr->α->β->Prop} (c:Cn X A d true s μ σ) (F:FR X env cx ρ s.heap μ)
  (h1:Sm X P (m σ) rel s μ) (h2:∀ a σ₁ b s₁ μ₁,Cn X A d true s₁ μ₁ σ₁->FR X env cx ρ s₁.heap μ₁->Step X s μ s₁ μ₁ σ₁->rel s₁.heap μ₁ a b->SmS X env cx (P2 b) (k a σ₁) s₁ μ₁) :
  SmS X env cx (fun Q E s=>P (fun b s₁=>P2 b Q E s₁) E s) (RS.ofE (m σ) ρ k) s μ:=by
 intro hne Q E hQ hE
 refine h1 (fun e=>hne (ofE_stuck e)) _ _ (fun a σ₁ b s₁ μ₁ e1 S1 r1=>?_) fun cc σ₁ e s₁ μ₁ e1 S1 x1=>hE cc ρ σ₁ e s₁ μ₁ (ofE_exc e1) S1.e (F.step c.hr S1) x1.s
 have e:RS.ofE (m σ) ρ k=k a σ₁:=ofE_ok e1
 exact h2 a σ₁ b s₁ μ₁ (c.step S1) (F.step c.hr S1) S1 r1 (e▸hne) Q E (fun f ρ' σ₂ fl s₂ μ₂ e2 S2 F2 r2=>hQ f ρ' σ₂ fl s₂ μ₂ (e.trans e2) (S1.e.trans S2) F2 r2)
  fun cc ρ' σ₂ y s₂ μ₂ e2 S2 F2 x2=>hE cc ρ' σ₂ y s₂ μ₂ (e.trans e2) (S1.e.trans S2) F2 (x2.le S1.pers)
theorem SmS.ok {P:PT Flow}{f:Fl} (h:∀ Q E,(∀ fl s' μ',StepE X env s μ s' μ' σ->FR X env cx ρ s'.heap μ'->FlR X s'.heap μ' f fl->Q fl s')->P Q E s):SmS X env cx P (.ok f ρ σ) s μ :=
 fun _ Q E hQ _=>h Q E fun fl s' μ' S F r=>hQ f ρ σ fl s' μ' rfl S F r
theorem SmS.stuck {P:PT Flow}:SmS X env cx P .stuck s μ:=fun h=>absurd rfl h
theorem Cn.e (c:Cn X A d true s μ σ):StepE X env s μ s μ σ:=(Step.refl c.hr c.base).e
noncomputable def SimS (X:W) (C:Calls) (G:GT) (d:Nat) (t:S):Prop :=
 ∀ (cx:Cx) (st:Stmt),TS G t cx st->∀ (A:Around) (env:zt) (ρ:Env) (s:Shared) (μ:List Addr) (σ:H),Cn X A d true s μ σ->FR X env cx ρ s.heap μ->Lo X env->FrOk A env ->
  SmS X env cx (fun Q E s=>wpAny (Mo X) A (exec st env) Q E s) (evS X.ns C ρ σ t) s μ
noncomputable def SimSs (X:W) (C:Calls) (G:GT) (d:Nat) (ts:List S):Prop :=
 ∀ (cx:Cx) (sts:List Stmt),TSs G ts cx sts->∀ (A:Around) (env:zt) (ρ:Env) (s:Shared) (μ:List Addr) (σ:H),Cn X A d true s μ σ->FR X env cx ρ s.heap μ->Lo X env->FrOk A env ->
  SmS X env cx (fun Q E s=>wpAny (Mo X) A (execs sts env) Q E s) (evSs X.ns C ρ σ ts) s μ
theorem sim_nil:SimSs X C G d []:=by
 intro cx sts ht A env ρ s μ σ c F lo ho
 have ht:sts=[]:=ht
 subst ht
 exact SmS.ok fun Q E hQ=>wpAny_execs_nil (hQ _ _ _ c.e F .next)
theorem sim_dead:SimS X C G d .dead:=by
 intro cx st hT A env ρ s μ σ c F lo ho
 exact SmS.stuck
noncomputable def after (ns:List Int) (C:Calls) (ts:List S):RS->RS
 | .ok .next ρ' σ'=>evSs ns C ρ' σ' ts
 | x=>x
theorem sim_cons {t:S}{ts:List S} (h1:SimS X C G d t) (h2:SimSs X C G d ts):SimSs X C G d (t::ts):=by
 intro cx sts hT A env ρ s μ σ c F lo ho
 refine ex2 (hT) fun st r q_h=>?_;refine an3 q_h fun he e1 e2=>?_
 subst he
 show SmS X env cx _ (after X.ns C ts (evS X.ns C ρ σ t)) s μ
 intro hne Q E hQ hE
 refine wpAny_execs_cons (h1 cx st e1 A env ρ s μ σ c F lo ho (fun e=>by replace hne:=e▸hne;exact hne rfl) _ _ (fun f ρ' σ' fl s' μ' e' S' F' r'=>?_) fun cc ρ' σ' y s' μ' e' S' F' x'=>?_)
 ·rw [e'] at hne hQ hE
  cases r' with
  | next =>
   exact h2 cx r e2 A env ρ' s' μ' σ' (c.stepE S' F' ho) F' lo ho hne Q E (fun f ρ'' σ'' fl s'' μ'' e'' S'' F'' r''=>hQ f ρ'' σ'' fl s'' μ'' e'' (S'.trans S'') F'' r'') fun cc ρ'' σ'' y s'' μ'' e'' S'' F'' x''=>hE cc ρ'' σ'' y s'' μ'' e'' (S'.trans S'') F'' (x''.le S'.pers)
  | ret r=>exact hQ _ ρ' σ' _ s' μ' rfl S' F' (.ret r)
 ·replace hE:=e'▸hE
  exact hE cc ρ' σ' y s' μ' rfl S' F' x'
theorem sim_ret {t:E} (hv:SimE X C G d t):SimS X C G d (.ret t):=by
 intro cx st hT A env ρ s μ σ c F lo ho
 refine ex2 (hT) fun v p q_h=>?_;obtain ⟨he,h1⟩:=q_h
 subst he
 exact (SmS.bind (m:=evE X.ns C ρ t) (k:=fun v σ'=>.ok (.ret v) ρ σ') c F (hv cx v h1 A env ρ s μ σ c F) (P2:=fun u Q E s=>Q (.ret u) s) fun v σ₁ u s₁ μ₁ c1 F1 S1 r=>SmS.ok fun Q E hQ=>hQ _ _ _ c1.e F1 (.ret r)).mono fun Q E h=>wpAny_Return_some h
theorem kind_off (F:FR X env cx ρ s.heap μ):interactive env=false:=by
 unfold interactive
 refine gw (F.kind ..) ?_;rfl
theorem sim_expr {t:E} (hv:SimE X C G d t):SimS X C G d (.expr t):=by
 intro cx st hT A env ρ s μ σ c F lo ho
 refine ex2 (hT) fun v p q_h=>?_;refine an3 q_h fun he hok h1=>?_
 subst he
 exact (SmS.bind (m:=evE X.ns C ρ t) (k:=fun _ σ'=>.ok .next ρ σ') c F (hv cx v h1 A env ρ s μ σ c F) (P2:=fun u Q E s=>Q .next s) fun v σ₁ u s₁ μ₁ c1 F1 S1 r=>SmS.ok fun Q E hQ=>hQ _ _ _ c1.e F1 .next).mono fun Q E h=>wpAny_Expr_any h (kind_off F) (h1.facts.swap (by cases t <;> first | rfl | cases hok) _ _ _)
theorem sim_setitem {a i t:E} (ha:SimE X C G d a) (hi:SimE X C G d i) (hv:SimE X C G d t):SimS X C G d (.setitem a i t):=by
 intro cx st hT A env ρ s μ σ c F lo ho
 refine ex5 (hT) fun u j sp v p q_h=>?_;refine an5 q_h fun he h1 h2 h3 hcp=>?_
 subst he
 refine (SmS.bind (m:=(evE X.ns C ρ t).bnd fun v=>(evE X.ns C ρ a).bnd fun x=>(evE X.ns C ρ i).bnd fun k=>setV x k v) (k:=fun _ σ'=>.ok .next ρ σ') c F (rel:=fun _ _ _ _=>True) (P:=fun Q E s=>wpAny (Mo X) A (eval v env) (fun v s₁=>wpAny (Mo X) A (eval u env) (fun ov s₂=>wpAny (Mo X) A (eval j env) (fun iv s₃=>wpAny (Mo X) A (setItem ov iv v) Q E s₃) E s₂) E s₁) E s) ?_ (P2:=fun _ Q E s=>Q .next s) fun v σ₁ u s₁ μ₁ c1 F1 S1 r=>SmS.ok fun Q E hQ=>hQ _ _ _ c1.e F1 .next).mono fun Q E h=>wpAny_Assign_Subscript h (h3.facts.swap hcp _ _ _)
 exact Sm.go c F (hv cx v h3 A env ρ s μ σ c F) fun _ _ _ _ _ c1 F1 S1 r1=>Sm.go c1 F1 (ha cx u h1 A env ρ _ _ _ c1 F1) fun _ _ _ _ _ c2 F2 S2 r2=>Sm.go c2 F2 (hi cx j h2 A env ρ _ _ _ c2 F2) fun _ _ _ _ _ c3 F3 S3 r3=>sm_set c3 (S3.vr c2.hr r2) r3 (S3.vr c2.hr (S2.vr c1.hr r1))
theorem sim_setattr (L:Leaf X G C d) {a t:E}{x:List Nat} (ha:SimE X C G d a) (hv:SimE X C G d t):SimS X C G d (.setattr a x t):=by
 intro cx st hT A env ρ s μ σ c F lo ho
 refine ex5 (hT) fun o nm ap v p q_h=>?_;refine an7 q_h fun he hx hm hl h1 h3 hcp=>?_
 subst he hx
 refine (SmS.bind (m:=(evE X.ns C ρ t).bnd fun v=>(evE X.ns C ρ a).bnd fun u=>setaV u (codes nm) v) (k:=fun _ σ'=>.ok .next ρ σ') c F (rel:=fun _ _ _ _=>True) (P:=fun Q E s=>wpAny (Mo X) A (eval v env) (fun v s₁=>wpAny (Mo X) A (eval o env) (fun ov s₂=>wpAny (Mo X) A (setAttr ov nm v) Q E s₂) E s₁) E s) ?_ (P2:=fun _ Q E s=>Q .next s) fun v σ₁ u s₁ μ₁ c1 F1 S1 r=>SmS.ok fun Q E hQ=>hQ _ _ _ c1.e F1 .next).mono fun Q E h=>plainObj_wpAny_Assign_Attribute h (h3.facts.swap hcp _ _ _)
 exact Sm.go c F (hv cx v h3 A env ρ s μ σ c F) fun _ _ _ _ _ c1 F1 S1 r1=>Sm.go c1 F1 (ha cx o h1 A env ρ _ _ _ c1 F1) fun _ _ _ _ _ c2 F2 S2 r2=>L.seta _ _ _ _ nm A _ _ _ hm hl c2 r2 (S2.vr c1.hr r1)
theorem sim_ite {q:E}{x y:List S} (ht:SimT X C G d q) (ha:SimSs X C G d x) (hb:SimSs X C G d y):SimS X C G d (.ite q x y):=by
 intro cx st hT A env ρ s μ σ c F lo ho
 refine ex4 (hT) fun t a b p q_h=>?_;refine an4 q_h fun he e1 e2 e3=>?_
 subst he
 have he:evS X.ns C ρ σ (.ite q x y)=RS.ofE ((evE X.ns C ρ q).bnd asB σ) ρ fun b σ'=>if b then evSs X.ns C ρ σ' x else evSs X.ns C ρ σ' y:=by
  show RS.ofE (evE X.ns C ρ q σ) ρ _=_
  unfold M.bnd
  rcases evE X.ns C ρ q σ with ⟨v,σ'⟩ | ⟨k,σ'⟩ | _
  ·rcases v with _ | b | _ | _ | _ | _ | _ | _ | _ <;> first | rfl | (cases b <;> rfl)
  ·rfl
  ·rfl
 refine gw he ?_
 refine (SmS.bind c F (ht cx t e1 A env ρ s μ σ c F) (P2:=fun b' Q E s₂=>if b' then wpAny (Mo X) A (execs a env) Q E s₂ else wpAny (Mo X) A (execs b env) Q E s₂) fun b' σ₁ b'' s₁ μ₁ c1 F1 S1 r=>?_).mono fun Q E h=>wpAny_If h
 cases r
 cases b' with
 | true=>exact ha cx a e2 A env ρ s₁ μ₁ σ₁ c1 F1 lo ho
 | false=>exact hb cx b e3 A env ρ s₁ μ₁ σ₁ c1 F1 lo ho
theorem slot_lt (F:FR X env cx ρ s.heap μ) {x:Str}{k:Nat} (h:cx.slot x=some k):k < ρ.length:=by
 refine gw (F.len ..) ?_;exact F.bound x k (slot_lk h).1
theorem evS_assign (F:FR X env cx ρ s.heap μ) {x:Str}{k:Nat} (h:cx.slot x=some k) (t:E):evS X.ns C ρ σ (.assign k t)=RS.ofE (evE X.ns C ρ t σ) ρ fun v σ'=>.ok .next (ρ.set k (some v)) σ':=by
 show RS.ofE _ _ _=_
 exact congrArg (RS.ofE _ ρ) (funext fun v=>funext fun σ'=>if_pos (slot_lt F h))
theorem assign_plain (c:Cn X A d true s μ σ) (F:FR X env cx ρ s.heap μ) (lo:Lo X env) {x:Str}{px p:Pos}{v:Expr}{k:Nat}{t:E} (hv:SimE X C G d t) (hk:cx.slot x=some k) (h1:T G t cx v) (hsw:swapsWith v (some (.Name x px)) p.line env=pure false) :
  SmS X env cx (fun Q E s=>wpAny (Mo X) A (exec (.Assign [.Name x px] v p) env) Q E s) (RS.ofE (evE X.ns C ρ t σ) ρ fun v σ'=>.ok .next (ρ.set k (some v)) σ') s μ :=
 (SmS.bind c F (hv cx v h1 A env ρ s μ σ c F) (P2:=fun u Q E s₁=>wpAny (Mo X) A (storeName env x u) (fun _=>Q .next) E s₁) fun w σ₁ u s₁ μ₁ c1 F1 S1 r =>
  SmS.ok fun Q E hQ=>sm_store c1 F1 lo hk r fun s' S' F' _=>hQ _ _ _ S' F' .next).mono fun Q E h=>wpAny_Assign_Name h hsw
theorem sim_assign {k:Nat}{t:E} (hv:SimE X C G d t) (hc:isComp t=false):SimS X C G d (.assign k t):=by
 intro cx st hT A env ρ s μ σ c F lo ho
 refine ex4 (hT) fun x px v p q_h=>?_;refine an3 q_h fun he hk h1=>?_
 subst he
 refine gw (evS_assign F hk ..) ?_
 exact assign_plain c F lo hv hk h1 (h1.facts.swap hc _ _ _)
theorem sim_assignC (L:Leaf X G C d) {k:Nat}{src:Src}{elt:E}{cond:Option E} (hP:SimC X C G d src elt cond):SimS X C G d (.assign k (compE src elt cond)):=by
 intro cx st hT A env ρ s μ σ c F lo ho
 refine ex4 (hT) fun x px v p q_h=>?_;refine an3 q_h fun he e1 h1=>?_
 subst he
 refine gw (evS_assign F e1 ..) ?_
 refine ex8 (T_comp h1) fun y py iter ifs sc q el cx' q_h=>?_;refine an6 q_h fun q_8 hcx hpl h3 h4 h5=>?_;obtain rfl:=q_8
 have hsw:∃ b,swapsWith (.ListComp el [⟨.Name y py,iter,ifs,0⟩] sc q) (some (.Name x px)) p.line env=pure b/\(b=true->env.kindOf x=some .local):=by
  refine ⟨_,rfl,fun hb=>?_⟩
  simp only [vq,beq_iff_eq] at hb
  exact hb.1.1.2
 obtain ⟨b,hsw,hloc⟩:=hsw
 cases b with
 | false=>exact assign_plain c F lo (sim_comp L hP) e1 h1 hsw
 | true =>
  intro hne Q E hQ hE
  refine gw (exec_Assign_Name_used _ _ _ _ hsw ..) ?_
  refine wpAny_bind (wpAny_standAt (wpAny_bind ?_))
  show wpAny _ A (do let _ ← comprehension (.ListComp el [⟨.Name y py,iter,ifs,0⟩] sc q) sc env _ (newList []) false (eval iter env) (some (assign (.Name x px) env))) _ _ s
  refine wpAny_bind (wpAny_mono (comp_core L hP c F hcx hpl h3 h4 h5 (use:=some (assign (.Name x px) env)) (Q:=fun _ s'=>Q .next s') (E:=E) (fun e=>hne (ofE_stuck e)) ?_ fun k' σ' y' s' μ' e' S' x'=>hE k' ρ σ' y' s' μ' (ofE_exc e') S'.e (F.step c.hr S') x'.s) (fun _ s' hq=>wpAny_pure (wpAny_pure hq)) fun _ _ e=>e)
  intro acc σ' s' μ' D' Cc k' ys m e' S' el r' z' n' d' hCm hD hC hDC
  show wpAny _ A (assign (.Name x px) env (.ref D')) _ _ _
  have eS:=S'.adopt c.base d' hD (o:=.list acc) (.list (l:=ys.toList) (n:=k') (by simpa using el) (by refine bw (r'.length ..) ?_;exact z') (r'.mono (fun _ _ e _=>e) ext_get))
  have c1:=c.step eS
  have F1:=F.step c.hr eS
  have hCm':Cc∉μ'++[D']:=fun hm=>by
   rcases z5.mp hm with q | q
   ·exact hCm q
   ·exact hDC (zg.mp q).symm
  refine wpAny_assign_Name (sm_store c1 F1 lo e1 (v:=.ref σ'.length) (.ref (by refine bw (S'.hr.len ..) (gw (zw (ze _) ..) ?_);simp)) fun s₂ S₂ F₂ _=>?_)
  have hlc:env.locals≠Cc:=by
   obtain ⟨m',n',_⟩:=F.ns
   exact yj (zm n'.lt hC)
  have hOC:¬ Own env Cc:=fun h=>by
   rcases h with h | ⟨z,h⟩
   ·exact hlc h.symm
   ·exact absurd (F.offC z Cc h).2.2 (yc.mpr hC)
  have nC:s₂.heap.Ns Cc m:=by
   refine ex3 (n') fun o es ep q_h=>?_;refine an3 q_h fun eo hd rr=>?_
   obtain ⟨sl,e'',_⟩:=S₂.keep Cc o hCm' hOC eo
   exact ⟨_,es,ep,e'',hd,rr⟩
  refine ⟨m,nC,fun h' hs'=>?_⟩
  have hCm2:Cc∉μ'++[D']:=hCm'
  have M1:Move [Cc] s₂ { s₂ with heap:=h' }:=⟨fun b o hb e=>(hs'.2 b fun q=>hb (by simp [q])).trans e,ya hs'.1.symm,rfl,rfl⟩
  have sf:=softC (X:=X) nC hCm2
  have SE:StepE X env s μ s₂ (μ'++[D']) (σ'++[.list acc]):=eS.e.trans S₂
  refine hQ .next _ (σ'++[.list acc]) .next _ (μ'++[D']) (ofE_ok e') ⟨M1.hr sf SE.hr,fun b o hb hO eb=>?_,⟨fun b o eb=>M1.keep b o (fun hm=>?_) (SE.base.keep b o eb),za SE.base.size M1.size,SE.base.low⟩,za SE.size M1.size,SE.ext,M1.gens.trans SE.gens,M1.os.trans SE.os,fun b hb=>?_⟩ ?_ .next
  ·obtain ⟨sl,e'',q''⟩:=SE.keep b o hb hO eb
   exact ⟨sl,M1.keep b _ (fun hm=>absurd (yb eb) (yc.mpr (zg.mp hm▸hC))) e'',q''⟩
  ·have:=yb (c.base.keep b o eb)
   exact absurd this (yc.mpr (zg.mp hm▸hC))
  ·by_cases q:b=Cc
   ·subst q;exact j5 hC
   ·exact SE.pers b (by
     cases e:s₂.heap.get? b with
     | none=>rfl
     | some o=>replace hb:=(M1.keep b o (by simpa using q) e ..)▸hb;cases hb)
  ·exact { F₂ with
    ns:=by
     obtain ⟨mm,n2,hm2⟩:=F₂.ns
     exact ⟨mm,n2.sameBut hs' hlc,fun z j w e1 e2 e3=>let ⟨u,b1,b2⟩:=hm2 z j w e1 e2 e3;⟨u,b1,M1.vr sf b2⟩⟩
    cell:=fun z j e1 e2=>by
     refine ex2 (F₂.cell z j e1 e2) fun cc w q_h=>?_;refine an3 q_h fun b1 b2 b3=>?_
     exact ⟨cc,w,b1,b2.sameBut hs' (fun q=>absurd (F.offC z cc b1).2.2 (yc.mpr (q▸hC))),fun v' hv'=>let ⟨u,d1,d2⟩:=b3 v' hv';⟨u,d1,M1.vr sf d2⟩⟩
    offC:=fun z cc h=>⟨(F₂.offC z cc h).1,(F₂.offC z cc h).2.1,zm (F₂.offC z cc h).2.2 M1.size⟩ }
end
end Mine
namespace Mine
open PySem PyProof.Rows PySem.Calls
section
variable {X:W}{A:Around}{d:Nat}{s s' s'' s₀:Shared}{μ μ' μ'' μ₀:List Addr}{σ σ' σ'' σ₀:H}{env:zt}{cx cx':Cx}{ρ ρ' ρ₀:Env}{C:Calls}{G:GT}{own:List Addr}{it:It}{J:Addr}
theorem StepE.move (S:StepE X env s₀ μ₀ s μ σ) (m:Move own s s') (hp:∀ b∈own,Soft X s.heap μ b) (hnew:∀ b∈own,s₀.heap.objs.size<=b) (hB:Base X s₀.heap):StepE X env s₀ μ₀ s' μ σ where
 hr:=m.hr hp S.hr
 keep:=fun b o hb hO e=>by
  obtain ⟨sl,e1,q⟩:=S.keep b o hb hO e
  exact ⟨sl,m.keep b _ (fun hm=>absurd (yb e) (yc.mpr (hnew b hm))) e1,q⟩
 base:=⟨fun b o e=>m.keep b o (fun hm=>absurd (yb (hB.keep b o e)) (yc.mpr (hnew b hm))) (S.base.keep b o e),za S.base.size m.size,S.base.low⟩
 size:=za S.size m.size
 ext:=S.ext
 gens:=m.gens.trans S.gens
 os:=m.os.trans S.os
 pers:=fun b hb=>by
  by_cases q:b∈own
  ·exact j5 (hnew b q)
  ·exact S.pers b (by
    cases e:s.heap.get? b with
    | none=>rfl
    | some o=>replace hb:=(m.keep b o q e ..)▸hb;cases hb)
theorem JR.stepE (j:JR X s.heap μ it J own) (R:HR X μ σ s.heap) (S:StepE X env s μ s' μ' σ') (ho:∀ b∈own,¬ Own env b):JR X s'.heap μ' it J own :=
 j.keeps (fun b hb o e=>by
  obtain ⟨sl,e1,q⟩:=S.keep b o ((j.priv b hb).off R) (ho b hb) e
  obtain ⟨o',q_h⟩:=(j.priv b hb);refine an5 q_h fun e' _ _ q' _=>?_
  replace e':=e▸e';cases e'
  replace e1:=(q q' ..)▸e1;exact e1) S.get
structure LInv (X:W) (env:zt) (cx:Cx) (s₀:Shared) (μ₀:List Addr) (own:List Addr) (J:Addr) (ok:It->Prop) (n₁:Nat) (go:Nat->It->Env->H->RS) (r₀:RS) (n:Nat) (s:Shared) (μ:List Addr) (σ:H) (it:It) (ρ:Env):Prop where
 step:StepE X env s₀ μ₀ s μ σ
 fr:FR X env cx ρ s.heap μ
 jr:JR X s.heap μ it J own
 go:go n it ρ σ=r₀
 ok:ok it
 big:n₁<=s.heap.objs.size
theorem for_loop {target:Expr}{body:List Stmt}{tgt:V->Env->Option Env}{bd:Env->H->RS}{r₀:RS}{n:Nat}{Q:Flow->Shared->Prop}{E:Value->Shared->Prop}
  {n₁:Nat} (hC:∀ s μ σ ρ,StepE X env s₀ μ₀ s μ σ->FR X env cx ρ s.heap μ->n₁<=s.heap.objs.size->Cn X A d true s μ σ) (hB₀:Base X s₀.heap) (hno:∀ b∈own,¬ Own env b) (ho:FrOk A env) (hne:r₀≠.stuck) (hown:∀ b∈own,s₀.heap.objs.size<=b)
  (hasg:∀ v u ρ ρ' s μ σ,tgt v ρ=some ρ'->Cn X A d true s μ σ->FR X env cx ρ s.heap μ->VR X s.heap μ v u->∀ (Q:Unit->Shared->Prop) (E:Value->Shared->Prop),(∀ s',StepE X env s μ s' μ σ->FR X env cx ρ' s'.heap μ->Q () s')->wpAny (Mo X) A (assign target env u) Q E s)
  (ok:It->Prop) (hnext:∀ s μ σ it r,Cn X A d true s μ σ->JR X s.heap μ it J own->ok it->nextIt it σ=some r->(∀ v it',r=some (v,it')->∃ ρ ρ',tgt v ρ=some ρ')->∀ Q E,(∀ q s',ItRel X s μ J own r q s'->(∀ v it',r=some (v,it')->ok it')->Q q s')->NextP X A target J Q E s)
  (hbody:∀ ρ s μ σ,Cn X A d true s μ σ->FR X env cx ρ s.heap μ->SmS X env cx (fun Q E s=>wpAny (Mo X) A (execs body env) Q E s) (bd ρ σ) s μ)
  (hQ:∀ f ρ' σ' fl s' μ',r₀=.ok f ρ' σ'->StepE X env s₀ μ₀ s' μ' σ'->FR X env cx ρ' s'.heap μ'->FlR X s'.heap μ' f fl->Q fl s')
  (hE:∀ k ρ' σ' e s' μ',r₀=.exc k ρ' σ'->StepE X env s₀ μ₀ s' μ' σ'->FR X env cx ρ' s'.heap μ'->XS X env s₀.heap k e s'.heap->E e s')
  (h:LInv X env cx s₀ μ₀ own J ok n₁ (forLoop tgt bd) r₀ n s μ σ it ρ) :
  codeAny (Mo X) A (.forLoop target (.ref J) body [] env) (fun r s'=>match r with | .ok f=>Q f s' | .error e=>cameBackBy (Mo X) A env E e s') s:=by
 refine codeAny_forLoop_any (fun n s=>∃ μ σ it ρ,LInv X env cx s₀ μ₀ own J ok n₁ (forLoop tgt bd) r₀ n s μ σ it ρ) ?_ n ⟨μ,σ,it,ρ,h⟩
 clear h
 rintro n s ⟨μ,σ,it,ρ,I⟩
 have c:=hC _ _ _ _ I.step I.fr I.big
 have hgo:=I.go
 replace hgo:=(for_eq ..)▸hgo
 cases hnxt:nextIt it σ with
 | none=>replace hgo:=(hnxt ..)▸hgo;exact absurd hgo.symm hne
 | some r =>
  replace hgo:=(hnxt ..)▸hgo
  have htg:∀ v it',r=some (v,it')->∃ m ρ',n=m + 1/\tgt v ρ=some ρ'/\thenN (bd ρ' σ) (forLoop tgt bd m it')=r₀:=fun v it' hv=>by
   replace hgo:=hv▸hgo
   cases n with
   | zero=>exact absurd hgo.symm hne
   | succ n =>
    have hgo:turn tgt bd ρ σ v (forLoop tgt bd n it')=r₀:=hgo
    unfold turn at hgo
    cases ht:tgt v ρ with
    | none=>replace hgo:=ht▸hgo;exact absurd hgo.symm hne
    | some ρ'=>replace hgo:=ht▸hgo;exact ⟨n,ρ',rfl,rfl,hgo⟩
  refine hnext s μ σ it r c I.jr I.ok hnxt (fun v it' e=>let ⟨_,ρ',_,h,_⟩:=htg v it' e;⟨ρ,ρ',h⟩) (fun q s₁=>match q with
   | none=>wpAny (Mo X) A (execs [] env) (fun f s₃=>Q f s₃) (notedBy (Mo X) A env fun e s'=>cameBackBy (Mo X) A env E e s') s₁
   | some v=>wpAny (Mo X) A (assign target env v) (fun _ s₂=>wpAny (Mo X) A (execs body env) (fun f s₃=>match f with
      | .next | .cont=>∃ m,m < n/\∃ μ σ it ρ,LInv X env cx s₀ μ₀ own J ok n₁ (forLoop tgt bd) r₀ m s₃ μ σ it ρ
      | .brk=>Q .next s₃
      | .ret v=>Q (.ret v) s₃) (notedBy (Mo X) A env fun e s'=>cameBackBy (Mo X) A env E e s') s₂) (notedBy (Mo X) A env fun e s'=>cameBackBy (Mo X) A env E e s') s₁) _ fun q s₁ hr hok=>?_
  obtain ⟨M1,hr⟩:=hr
  have soft1:∀ b∈own,Soft X s.heap μ b:=fun b hb=>(I.jr.priv b hb).isSoft c.hr
  have S1:=I.step.move M1 soft1 hown hB₀
  have F1:=I.fr.move c.hr M1 I.jr.priv
  cases r with
  | none =>
   cases q with
   | some _=>exact hr.elim
   | none=>exact wpAny_execs_nil (hQ .next ρ σ .next s₁ μ hgo.symm S1 F1 .next)
  | some p =>
   obtain ⟨v,it'⟩:=p
   cases q with
   | none=>exact hr.elim
   | some u =>
    obtain ⟨ru,j1⟩:=hr
    obtain ⟨n,ρ',rfl,ht,hgo⟩:=htg v it' rfl
    have b1:=za I.big M1.size
    have c1:=hC _ _ _ _ S1 F1 b1
    refine hasg v u ρ ρ' s₁ μ σ ht c1 F1 ru _ _ fun s₂ S2 F2=>?_
    have S02:=S1.trans S2
    have b2:=za b1 S2.size
    have c2:=hC _ _ _ _ S02 F2 b2
    have j2:=j1.stepE c1.hr S2 hno
    refine hbody ρ' s₂ μ σ c2 F2 (fun e=>by replace hgo:=e▸hgo;exact hne hgo.symm) _ _ (fun f ρ'' σ'' fl s₃ μ₃ e3 S3 F3 r3=>?_) fun cc ρ'' σ'' y s₃ μ₃ e3 S3 F3 x3=>(by
     replace hgo:=e3▸hgo
     have S03:=S02.trans S3
     exact xs_loop (hC _ _ _ _ S03 F3 (za b2 S3.size)) F3 ho S03 hB₀ rfl (x3.le S02.pers) fun s₄ S4 F4 x4=>hE cc ρ'' σ'' y s₄ μ₃ hgo.symm S4 F4 x4)
    replace hgo:=e3▸hgo
    cases r3 with
    | next=>exact ⟨n,yo _,μ₃,σ'',it',ρ'',S02.trans S3,F3,j2.stepE c2.hr S3 hno,hgo,hok v it' rfl,za b2 S3.size⟩
    | ret r=>exact hQ _ ρ'' σ'' _ s₃ μ₃ hgo.symm (S02.trans S3) F3 (.ret r)
theorem own_new (F:FR X env cx ρ s.heap μ) (h:∀ b∈own,s.heap.objs.size<=b):∀ b∈own,¬ Own env b:=fun b hb q=>by
 have h1:=h b hb
 rcases q with rfl | ⟨x,q⟩
 ·obtain ⟨m,n',_⟩:=F.ns
  exact absurd n'.lt (yc.mpr h1)
 ·exact absurd (F.offC x b q).2.2 (yc.mpr h1)
theorem sim_forN {k:Nat}{src:Src}{tb:List S} (L:Leaf X G C d) (hI:SimI X C G d src) (hB:SimSs X C G d tb):SimS X C G d (.forN k src tb):=by
 intro cx st hT A env ρ s μ σ c F lo ho
 refine ex5 (hT) fun x px iter body p q_h=>?_;refine an5 q_h fun he hk hpl h3 h4=>?_
 subst he
 show SmS X env cx _ (RS.ofE (evSrc X.ns C ρ src σ) ρ fun q σ'=>forLoop (tgtN k) (fun ρ σ=>evSs X.ns C ρ σ tb) q.2 q.1 ρ σ') s μ
 intro hne Q E hQ hE
 refine wpAny_For ?_ (src_fold h3 env)
 refine hI cx iter hpl h3 A env ρ s μ σ c F (fun e=>hne (ofE_stuck e)) _ _ (fun pr σ₁ u s₁ μ₁ e1 S1 i1=>?_) fun k σ₁ y s₁ μ₁ e1 S1 xr=>hE k ρ σ₁ y s₁ μ₁ (ofE_exc e1) S1.e (F.step c.hr S1) xr.s
 have eq1:=ofE_ok (ρ:=ρ) (k:=fun (q:It×Nat) σ'=>forLoop (tgtN k) (fun ρ σ=>evSs X.ns C ρ σ tb) q.2 q.1 ρ σ') e1
 rw [eq1] at hne hQ hE
 refine sm_iter (c.step S1) S1.size i1 fun J own s₂ hpi j2 S2 hown=>?_
 have S02:=S1.trans S2
 refine for_loop (s₀:=s) (μ₀:=μ) (own:=own) (it:=pr.1) (n:=pr.2) (ρ:=ρ) (n₁:=0) (fun _ _ _ _ S F _=>c.stepE S F ho) c.base (own_new F hown) ho hne hown (fun v u ρ ρ' s μ σ et c F r Q E h=>?_) (fun it=>plainIt it=true) (fun s μ σ it r c j hp hr _ Q E h=>?_) (fun ρ s μ σ c F=>hB cx body h4 A env ρ s μ σ c F lo ho) hQ hE ⟨S02.e,F.step c.hr S02,j2,rfl,hpi,z7 _⟩
 ·unfold tgtN at et
  split at et
  ·cases et
   exact wpAny_assign_Name (sm_store c F lo hk r fun s' a b _=>h s' a b)
  ·cases et
 ·refine sm_next c j hp hr fun q s' hq=>?_
  have:=h q s' hq fun v it' e=>next_plain (by exact gw hr (gw e rfl)) hp
  cases q with
  | none=>exact this
  | some v=>exact wpAny_pure this
theorem tgtP_some {k k':Nat}{v:V}{ρ':Env} (h:tgtP k k' v ρ=some ρ'):∃ a b,v=.tup [a,b]/\ρ'=(ρ.set k (some a)).set k' (some b):=by
 cases v <;> first | (cases h;done) | skip
 rename_i vs
 match vs,h with
 | [a,b],h =>
  have h:(if k < ρ.length/\k' < ρ.length then some ((ρ.set k (some a)).set k' (some b)) else none)=some ρ':=h
  split at h
  ·exact ⟨a,b,rfl,(Option.some.inj h).symm⟩
  ·cases h
theorem pair_inv {h:Heap}{a b:V}{u:Value} (r:VR X h μ (.tup [a,b]) u):∃ t u1 u2 n,u=.ref t/\h.get? t=some { cls:=.type "tuple",data:=.seq #[u1,u2] n }/\VR X h μ a u1/\VR X h μ b u2:=by
 cases r with
 | @tup _ t l n e hb hz rs =>
  cases rs with
  | cons r1 rs =>
   cases rs with
   | cons r2 rs =>
    cases rs
    exact ⟨t,_,_,n,rfl,e,r1,r2⟩
theorem pair_assign {x y:Str}{px py tp:Pos}{tk:Nat}{k k':Nat}{v:V}{u:Value}{ρ':Env} (c:Cn X A d true s μ σ) (F:FR X env cx ρ s.heap μ) (lo:Lo X env) (ho:FrOk A env) (hk:cx.slot x=some k) (hk':cx.slot y=some k') (et:tgtP k k' v ρ=some ρ') (r:VR X s.heap μ v u)
  {Q:Unit->Shared->Prop}{E:Value->Shared->Prop} (h:∀ s',StepE X env s μ s' μ σ->FR X env cx ρ' s'.heap μ->Q () s'):wpAny (Mo X) A (assign (.Tuple [.Name x px,.Name y py] tk tp) env u) Q E s:=by
 refine ex2 (tgtP_some et) fun a b q_h=>?_;obtain ⟨q_2,q_3⟩:=q_h;obtain rfl:=q_2;obtain rfl:=q_3
 refine ex4 (pair_inv r) fun t u1 u2 n q_h=>?_;refine an4 q_h fun q_4 e r1 r2=>?_;obtain rfl:=q_4
 have ht:s.heap.IsTuple t #[u1,u2]:=⟨_,e,rfl,_,rfl⟩
 refine gw (arm_assign_Tuple ..) ?_
 refine wpAny_bind (wpAny_standAt ?_)
 unfold unpack
 refine wpAny_bind (wpAny_holding (sized (wpAny_unpackItems_tuple (items:=#[u1,u2]) (c.rm.handled rfl) ht fun h' he hz'=>?_)))
 have S1:Step X s μ { s with heap:=h' } μ σ:=Step.grow c (fun b o e=>he b o (yj (yb e)) e) hz' rfl rfl
 have c1:=c.step S1
 have F1:=F.step c.hr S1
 show wpAny _ A (do holding [u2] (assign (.Name x px) env u1);do holding [] (assign (.Name y py) env u2);pure ()) _ _ _
 refine wpAny_bind (wpAny_holding (wpAny_assign_Name (sm_store c1 F1 lo hk (S1.vr c.hr r1) fun s₂ S2 F2 k2=>?_)))
 have c2:=c1.stepE S2 F2 ho
 refine wpAny_bind (wpAny_holding (wpAny_assign_Name (sm_store c2 F2 lo hk' (k2 (S1.vr c.hr r2)) fun s₃ S3 F3 _=>wpAny_pure ?_)))
 exact h s₃ ((S1.e.trans S2).trans S3) F3
end
end Mine
namespace Mine
open PySem PyProof.Rows PySem.Calls
noncomputable def W.wb (X:W) (b:Addr->Prop):W:={ X with bad:=b }
section
variable {X:W}{A:Around}{d:Nat}{s s' s'' s₀:Shared}{μ μ' μ'' μ₀:List Addr}{σ σ' σ'' σ₀:H}{env:zt}{cx cx':Cx}{ρ ρ' ρ₀:Env}{C:Calls}{G:GT}{own:List Addr}{it:It}{J:Addr}{b:Addr->Prop}
theorem VR.wb {h:Heap} (hb:∀ a o,h.get? a=some o->¬ X.bad a->¬ b a) {v:V}{u:Value} (r:VR X h μ v u):VR (X.wb b) h μ v u :=
 VR.rec (motive_1:=fun v u _=>VR (X.wb b) h μ v u) (motive_2:=fun v u _=>VRs (X.wb b) h μ v u) .none .bool .int .str (fun e=>.ref e) (fun e q z _ r=>.tup e (hb _ _ e q) z r) (fun e m=>.inst (X:=X.wb b) e m) .scr .nil (fun _ _ x y=>.cons x y) r
theorem VRs.wb {h:Heap} (hb:∀ a o,h.get? a=some o->¬ X.bad a->¬ b a) {v:List V}{u:List Value} (r:VRs X h μ v u):VRs (X.wb b) h μ v u:=r.each fun x=>x.wb hb
theorem HR.wb {h:Heap} (hb:∀ a o,h.get? a=some o->¬ X.bad a->¬ b a) (R:HR X μ σ h):HR (X.wb b) μ σ h where
 len:=R.len
 nodup:=R.nodup
 fresh:=R.fresh
 obj:=fun i o a e1 e2=>by
  cases R.obj i o a e1 e2 with
  | list e z r=>exact .list e z (r.wb hb)
  | dict e z r=>exact .dict e z ⟨r.keys,r.lim,r.vals.wb hb⟩
theorem FR.wb (hb:∀ a o,s.heap.get? a=some o->¬ X.bad a->¬ b a) (F:FR X env cx ρ s.heap μ):FR (X.wb b) env cx ρ s.heap μ:={ F with
 ns:=let ⟨m,n,h⟩:=F.ns;⟨m,n,fun x k v h1 h2 h3=>let ⟨u,a,r⟩:=h x k v h1 h2 h3;⟨u,a,r.wb hb⟩⟩
 cell:=fun x k h1 h2=>let ⟨c,u,a,i,r⟩:=F.cell x k h1 h2;⟨c,u,a,i,fun v hv=>let ⟨y,p,q⟩:=r v hv;⟨y,p,q.wb hb⟩⟩ }
theorem FF.wb {h:Heap}:∀ {l:List zt},FF X h μ l->FF (X.wb b) h μ l
 | [],_=>trivial
 | _::_,⟨h1,h2⟩=>⟨h1,FF.wb h2⟩
theorem Base.wb {h:Heap} (B:Base X h):Base (X.wb b) h:=⟨B.keep,B.size,B.low⟩
theorem StepE.wb (hb:∀ a o,s'.heap.get? a=some o->¬ X.bad a->¬ b a) (S:StepE X env s μ s' μ' σ'):StepE (X.wb b) env s μ s' μ' σ':=⟨S.hr.wb hb,S.keep,S.base.wb,S.size,S.ext,S.gens,S.os,S.pers⟩
theorem Step.wb (hb:∀ a o,s'.heap.get? a=some o->¬ X.bad a->¬ b a) (S:Step X s μ s' μ' σ'):Step (X.wb b) s μ s' μ' σ':=⟨S.hr.wb hb,S.keep,S.base.wb,S.size,S.ext,S.gens,S.os⟩
theorem FlR.wb {h:Heap}{f:Fl}{fl:Flow} (hb:∀ a o,h.get? a=some o->¬ X.bad a->¬ b a) (r:FlR X h μ f fl):FlR (X.wb b) h μ f fl:=by
 cases r with
 | next=>exact .next
 | ret r=>exact .ret (r.wb hb)
theorem forP_run {x y:Str}{px py tp:Pos}{tk:Nat}{k k':Nat}{body:List Stmt}{tb:List S}{n n₁:Nat}{Q:Flow->Shared->Prop}{E:Value->Shared->Prop} (hk:cx.slot x=some k) (hk':cx.slot y=some k') (h4:TSs G tb cx body) (hB:SimSs X C G d tb) (lo:Lo X env) (ho:FrOk A env)
  (hC:∀ s μ σ ρ,StepE X env s₀ μ₀ s μ σ->FR X env cx ρ s.heap μ->n₁<=s.heap.objs.size->Cn X A d true s μ σ) (hB₀:Base X s₀.heap) (hno:∀ b∈own,¬ Own env b) (hown:∀ b∈own,s₀.heap.objs.size<=b)
  (hne:forLoop (tgtP k k') (fun ρ σ=>evSs X.ns C ρ σ tb) n it ρ σ≠.stuck)
  (hQ:∀ f ρ' σ' fl s' μ',forLoop (tgtP k k') (fun ρ σ=>evSs X.ns C ρ σ tb) n it ρ σ=.ok f ρ' σ'->StepE X env s₀ μ₀ s' μ' σ'->FR X env cx ρ' s'.heap μ'->FlR X s'.heap μ' f fl->Q fl s')
  (hE:∀ c ρ' σ' e s' μ',forLoop (tgtP k k') (fun ρ σ=>evSs X.ns C ρ σ tb) n it ρ σ=.exc c ρ' σ'->StepE X env s₀ μ₀ s' μ' σ'->FR X env cx ρ' s'.heap μ'->XS X env s₀.heap c e s'.heap->E e s')
  (S:StepE X env s₀ μ₀ s μ σ) (F:FR X env cx ρ s.heap μ) (j:JR X s.heap μ it J own) (hn₁:n₁<=s.heap.objs.size) :
  codeAny (Mo X) A (.forLoop (.Tuple [.Name x px,.Name y py] tk tp) (.ref J) body [] env) (fun r s'=>match r with | .ok f=>Q f s' | .error e=>cameBackBy (Mo X) A env E e s') s:=by
 refine for_loop (n:=n) (n₁:=n₁) hC hB₀ hno ho hne hown (fun v u ρ ρ' s μ σ et c F r Q E h=>pair_assign c F lo ho hk hk' et r h) (fun _=>True) (fun s μ σ it r c j _ hr ht Q E h=>sm_nextP c j hr (fun v it' e=>?_) fun q s' hq=>h q s' hq fun _ _ _=>trivial) (fun ρ s μ σ c F=>hB cx body h4 A env ρ s μ σ c F lo ho) hQ hE ⟨S,F,j,rfl,trivial,hn₁⟩
 refine ex2 (ht v it' e) fun ρ ρ' et=>?_
 refine ex2 (tgtP_some et) fun a b q_h=>?_;obtain ⟨q_2,_⟩:=q_h;obtain rfl:=q_2
 exact ⟨_,rfl⟩
theorem apart {n a a':Nat} (h:a < n) (h':a' < n):ZipApart (n + 4) (n + 2) (n + 3) n (n + 1) a a':=by
 have ne:∀ i j:Nat,i≠j->n + i≠n + j:=fun i j h q=>h (Nat.add_left_cancel q)
 have lt:∀ {t:Nat},t < n->∀ i,t≠n + i:=fun h i=>yj (zm h (zp _ _))
 have k1:=lt h
 have k2:=lt h'
 exact ⟨ne 2 4 (by decide),ne 3 4 (by decide),ne 0 4 (by decide),ne 1 4 (by decide),ne 2 3 (by decide),ne 2 0 (by decide),ne 2 1 (by decide),ne 3 0 (by decide),ne 3 1 (by decide),ne 0 1 (by decide),k1 4,k1 3,k1 0,k1 1,k2 4,k2 3,k2 0,k2 1⟩
noncomputable def more2 (X:W) (n:Nat):Addr->Prop:=fun t=>X.bad t∨t=n + 2∨t=n + 3
theorem more2_old {h:Heap}:∀ t o,h.get? t=some o->¬ X.bad t->¬ more2 X h.objs.size t:=fun t o et hx q=>by
 have:=yb et
 rcases q with q | q | q
 ·exact hx q
 ·subst q;exact absurd this (yc.mpr (zp _ _))
 ·subst q;exact absurd this (yc.mpr (zp _ _))
theorem sim_forP {k k':Nat}{src:Src}{tb:List S} (L:Leaf X G C d) (hP:Parts X C G d src) (hB:∀ b,SimSs (X.wb b) C G d tb):SimS X C G d (.forP k k' src tb):=by
 intro cx st hT A env ρ s μ σ c F lo ho
 refine ex9 (hT) fun x px y py tk tp iter body p q_h=>?_;refine an5 q_h fun he hk hk' h3 h4=>?_
 subst he
 show SmS X env cx _ (RS.ofE (evSrc X.ns C ρ src σ) ρ fun q σ'=>forLoop (tgtP k k') (fun ρ σ=>evSs X.ns C ρ σ tb) q.2 q.1 ρ σ') s μ
 intro hne Q E hQ hE
 refine wpAny_For ?_ (src_fold h3 env)
 have go:∀ (pr:It×Nat) σ₁ s₁ μ₁ s₂ J own,evSrc X.ns C ρ src σ=.ok pr σ₁->Step X s μ s₁ μ₁ σ₁->Step X s μ s₂ μ₁ σ₁->JR X s₂.heap μ₁ pr.1 J own->(∀ b∈own,s.heap.objs.size<=b) ->
   codeAny (Mo X) A (.forLoop (.Tuple [.Name x px,.Name y py] tk tp) (.ref J) body [] env) (fun r s'=>match r with | .ok f=>Q f s' | .error e=>cameBackBy (Mo X) A env E e s') s₂:=by
  intro pr σ₁ s₁ μ₁ s₂ J own e1 _ S2 j hown
  have eq1:=ofE_ok (ρ:=ρ) (k:=fun (q:It×Nat) σ'=>forLoop (tgtP k k') (fun ρ σ=>evSs X.ns C ρ σ tb) q.2 q.1 ρ σ') e1
  rw [eq1] at hne hQ hE
  exact forP_run (n₁:=0) hk hk' h4 (hB X.bad) lo ho (fun _ _ _ _ S F _=>c.stepE S F ho) c.base (own_new F hown) hown hne hQ hE S2.e (F.step c.hr S2) j (z7 _)
 cases hps:plainSrc src with
 | true =>
  refine hP.i L cx iter hps h3 A env ρ s μ σ c F (fun e=>hne (ofE_stuck e)) _ _ (fun pr σ₁ u s₁ μ₁ e1 S1 i1=>?_) fun k σ₁ y s₁ μ₁ e1 S1 xr=>hE k ρ σ₁ y s₁ μ₁ (ofE_exc e1) S1.e (F.step c.hr S1) xr.s
  exact sm_iter (c.step S1) S1.size i1 fun J own s₂ _ j2 S2 hown=>go pr σ₁ s₁ μ₁ s₂ J own e1 S1 (S1.trans S2) j2 hown
 | false =>
  cases src with
  | of t=>cases hps
  | range t=>cases hps
  | rev t=>cases hps
  | enum t =>
   refine ex3 (h3) fun q z p' q_h=>?_;refine an3 q_h fun he hg h1=>?_
   subst he
   refine call_bi1 (fv:=.type "enumerate") L c F hg (by decide +kernel) rfl h1 ?_
   have hst:evE X.ns C ρ t σ≠.stuck:=fun e=>hne (ofE_stuck (bnd_stuck e))
   refine hP cx z h1 A env ρ s μ σ c F hst _ _ (fun v σ₁ u s₁ μ₁ e1 S1 r1=>?_) fun k σ₁ y s₁ μ₁ e1 S1 xr=>hE k ρ σ₁ y s₁ μ₁ (ofE_exc (bnd_exc e1)) S1.e (F.step c.hr S1) xr.s
   have c1:=c.step S1
   cases hl:listN v σ₁ with
   | none=>exact absurd (ofE_stuck ((bnd_ok e1).trans (by show pick ((listN v σ₁).map _) σ₁=_;refine gw hl ?_;rfl))) hne
   | some pr =>
    have e2:evSrc X.ns C ρ (.enum t) σ=.ok (.enum pr.1 0,pr.2) σ₁:=(bnd_ok e1).trans (by show pick ((listN v σ₁).map _) σ₁=_;refine gw hl ?_;rfl)
    refine ex3 (listN_at c1 hl r1) fun a l n q_h=>?_;refine an4 q_h fun q_3 hm _ e=>?_;obtain rfl:=q_3
    have Lh:s₁.heap.IsList a l.toArray:=⟨_,e,rfl,_,rfl⟩
    refine call_enumerate_list Lh fun h' q1 q2 q3 q4=>?_
    have S2:Step X s₁ μ₁ { s₁ with heap:=h' } μ₁ σ₁:=Step.grow c1 q4 (by show _<=h'.objs.size;refine gw q3 ?_;exact zp _ _) rfl rfl
    refine wpAny_pyIter_enum q1 (go _ σ₁ s₁ μ₁ _ _ [s₁.heap.objs.size + 1,s₁.heap.objs.size] e2 S1 (S1.trans S2) (.enum hm (fj _) q1 q2) ?_)
    exact priv_all ⟨za S1.size (yh _),S1.size,trivial⟩
  | zip ta tb' =>
   refine ex4 (h3) fun q z z' p' q_h=>?_;refine an4 q_h fun he hg h1 h2=>?_
   subst he
   have hts:Ts G [ta,tb'] cx [z,z']:=⟨z,[z'],rfl,h1,z',[],rfl,h2,rfl⟩
   refine call_bi (fv:=.type "zip") L c F hg (by decide +kernel) rfl hts ?_
   refine args_cons ?_ (h1.facts.star _ _)
   have hst:evE X.ns C ρ ta σ≠.stuck:=fun e=>hne (ofE_stuck (bnd_stuck e))
   refine hP.1 cx z h1 A env ρ s μ σ c F hst _ _ (fun v σ₁ u s₁ μ₁ e1 S1 r1=>?_) fun k σ₁ y s₁ μ₁ e1 S1 xr=>hE k ρ σ₁ y s₁ μ₁ (ofE_exc (bnd_exc e1)) S1.e (F.step c.hr S1) xr.s
   have c1:=c.step S1
   have F1:=F.step c.hr S1
   refine args_cons ?_ (h2.facts.star _ _)
   have hst2:evE X.ns C ρ tb' σ₁≠.stuck:=fun e=>hne (ofE_stuck ((bnd_ok e1).trans (bnd_stuck e)))
   refine hP.2 cx z' h2 A env ρ s₁ μ₁ σ₁ c1 F1 hst2 _ _ (fun w σ₂ u' s₂ μ₂ e2 S2 r2=>?_) fun k σ₂ y s₂ μ₂ e2 S2 xr=>hE k ρ σ₂ y s₂ μ₂ (ofE_exc ((bnd_ok e1).trans (bnd_exc e2))) (S1.trans S2).e (F1.step c1.hr S2) (xr.le S1.pers).s
   refine args_nil ?_
   have c2:=c1.step S2
   have F2:=F1.step c1.hr S2
   cases hl:listN v σ₂ with
   | none=>exact absurd (ofE_stuck ((bnd_ok e1).trans ((bnd_ok e2).trans (by show pick ((listN v σ₂).bind _) σ₂=_;rw [hl];rfl)))) hne
   | some pr =>
    cases hl':listN w σ₂ with
    | none=>exact absurd (ofE_stuck ((bnd_ok e1).trans ((bnd_ok e2).trans (by show pick ((listN v σ₂).bind fun p=>(listN w σ₂).map _) σ₂=_;rw [hl,hl'];rfl)))) hne
    | some pr' =>
     have e3:evSrc X.ns C ρ (.zip ta tb') σ=.ok (.zip pr.1 pr'.1 0,pr.2) σ₂:=(bnd_ok e1).trans ((bnd_ok e2).trans (by show pick ((listN v σ₂).bind fun p=>(listN w σ₂).map _) σ₂=_;rw [hl,hl'];rfl))
     refine ex3 (listN_at c2 hl (S2.vr c1.hr r1)) fun a l n q_h=>?_;refine an4 q_h fun q_3 hm _ e=>?_;obtain rfl:=q_3
     refine ex3 (listN_at c2 hl' r2) fun a' l' n' q_h=>?_;refine an4 q_h fun q_3 hm' _ e'=>?_;obtain rfl:=q_3
     have Lh:s₂.heap.IsList a l.toArray:=⟨_,e,rfl,_,rfl⟩
     have Lh':s₂.heap.IsList a' l'.toArray:=⟨_,e',rfl,_,rfl⟩
     have S02:=S1.trans S2
     refine call_zip_2 Lh Lh' fun h' q1 q2 q3 q4 q5 q6 q7=>wpAny_pyIter_zip q1 ?_
     have eq1:=ofE_ok (ρ:=ρ) (k:=fun (q:It×Nat) σ'=>forLoop (tgtP k k') (fun ρ σ=>evSs X.ns C ρ σ tb) q.2 q.1 ρ σ') e3
     rw [eq1] at hne hQ hE
     have hz:s₂.heap.objs.size<=h'.objs.size:=by rw [q6];exact zp _ _
     have S3:Step X s₂ μ₂ { s₂ with heap:=h' } μ₂ σ₂:=Step.grow c2 q7 hz rfl rfl
     let b:Addr->Prop:=more2 X s₂.heap.objs.size
     have hb0:=more2_old (X:=X) (h:=s₂.heap)
     have R0:HR (X.wb b) μ₂ σ₂ s₂.heap:=c2.hr.wb hb0
     have S3':Step (X.wb b) s₂ μ₂ { s₂ with heap:=h' } μ₂ σ₂:=⟨R0.keeps q7,S3.keep,S3.base.wb,S3.size,S3.ext,S3.gens,S3.os⟩
     have F3:FR (X.wb b) env cx ρ h' μ₂:=FR.step (s':={ s₂ with heap:=h' }) (FR.wb hb0 F2) R0 S3'
     have back:∀ (h:Heap) t o,h.get? t=some o->¬ (X.wb b).bad t->¬ X.bad t:=fun _ t o _ hx q=>hx (.inl q)
     have D:=apart (yb e) (yb e')
     have lo':Lo (X.wb b) env:=⟨lo.l,lo.c⟩
     have Ssz:=S02.size
     refine forP_run (X:=X.wb b) (s₀:=s₂) (μ₀:=μ₂) (own:=[s₂.heap.objs.size + 4,s₂.heap.objs.size + 2,s₂.heap.objs.size + 3,s₂.heap.objs.size,s₂.heap.objs.size + 1]) (n₁:=h'.objs.size) hk hk' h4 (hB b) lo' ho ?_ c2.base.wb ?_ ?_ hne
      (fun f ρ' σ' fl s' μ' e' S' F' r'=>hQ f ρ' σ' fl s' μ' e' (S02.e.trans (StepE.wb (X:=X.wb b) (b:=X.bad) (back _) S')) (FR.wb (X:=X.wb b) (b:=X.bad) (back _) F') (FlR.wb (X:=X.wb b) (b:=X.bad) (back _) r'))
      (fun cc ρ' σ' y s' μ' e' S' F' x'=>hE cc ρ' σ' y s' μ' e' (S02.e.trans (StepE.wb (X:=X.wb b) (b:=X.bad) (back _) S')) (FR.wb (X:=X.wb b) (b:=X.bad) (back _) F') (XS.le (X:=X) x' S02.pers)) S3'.e F3 (.zip hm hm' D (.inr (.inl rfl)) (.inr (.inr rfl)) q1 q2 q3 q4 q5) (ze _)
     ·intro s' μ' σ' ρ' S' F' hbig
      have cX:=c2.stepE (StepE.wb (X:=X.wb b) (b:=X.bad) (back _) S') (FR.wb (X:=X.wb b) (b:=X.bad) (back _) F') ho
      refine ⟨cX.rm,S'.hr,S'.base,(let ⟨fs,e,f⟩:=cX.fs;⟨fs,e,f.wb⟩),cX.scr,fun t ht=>?_⟩
      rcases ht with q | q | q
      ·exact cX.bad t q
      ·rw [q];exact zm (by rw [q6];exact ur (by decide) _) hbig
      ·rw [q];exact zm (by rw [q6];exact ur (by decide) _) hbig
     ·exact own_new F2 (priv_all ⟨zp _ _,zp _ _,zp _ _,ze _,zp _ _,trivial⟩)
     ·exact priv_all ⟨zp _ _,zp _ _,zp _ _,ze _,zp _ _,trivial⟩
end
end Mine
namespace Mine
open PySem PyProof.Rows PySem.Calls
theorem cps {p:Prop} (h:∀ G:Prop,(p->G)->G):p:=h p id
noncomputable def bmV:List Value:=[.type "ValueError",.type "Exception",.type "BaseException",.type "object"]
structure XD where
 bm:List Value
 N:Addr
 nm:Str
 q:Str
 bs:List Value
 hdct:Bool
 sn:List Str
 sub:List Value
 ab:Bool
 col:Option Bool
 dd:Option Addr
 k0:Option Value
 k1:Option Value
 k2:Option Value
 k3:Option Value
 k5:Option Value
 mN:Str->Option Value
noncomputable def XD.obj (x:XD) (C:Addr):Obj:=excClassObj x.nm x.q C x.N x.bs x.bm x.hdct x.sn x.sub x.ab x.col x.dd x.k0 x.k1 x.k2 x.k3 x.k5 "ValueError.__new__"
structure ClsAt (X:W) (c:Nat) (x:XD):Prop where
 obj:X.h₀.get? (X.ca c)=some (x.obj (X.ca c))
 ns:X.h₀.Ns x.N x.mN
 ini:x.mN "__init__"=none
 tail:OwnTail X.h₀ bmV x.bm
structure SLeaf (X:W) (G:GT) (sub:Nat->Nat->Bool):Prop where
 cls:∀ c,∃ x,ClsAt X c x/\∀ c',c' < G.cls.length->sub c c'=(Value.ref (X.ca c)::x.bm).contains (.ref (X.ca c'))
section
variable {X:W}{A:Around}{d:Nat}{s s' s'' s₀:Shared}{μ μ' μ'' μ₀:List Addr}{σ σ' σ'' σ₀:H}{env:zt}{cx cx':Cx}{ρ ρ' ρ₀:Env}{C:Calls}{G:GT}{own:List Addr}{it:It}{J:Addr}
theorem Step.more (S:Step X s μ s' μ' σ') (hB:Base X s.heap) {h':Heap} (k:∀ b o,s'.heap.get? b=some o->h'.get? b=some o) (z:s.heap.objs.size<=h'.objs.size):Step X s μ { s' with heap:=h' } μ' σ' where
 hr:=S.hr.keeps k
 keep:=fun b o hb e=>let ⟨sl,e1,q⟩:=S.keep b o hb e;⟨sl,k _ _ e1,q⟩
 base:=⟨fun b o e=>k _ _ (S.base.keep b o e),za hB.size z,S.base.low⟩
 size:=z
 ext:=S.ext
 gens:=S.gens
 os:=S.os
theorem sim_raise (L:Leaf X G C d) (T:SLeaf X G C.sub) {k:Nat}:SimS X C G d (.raise k):=by
 intro cx st hT A env ρ s μ σ c F lo ho
 refine ex7 (hT) fun x np m i ap cp p q_h=>?_;refine an4 q_h fun he hg hix hlen=>?_
 subst he
 show SmS X env cx _ (.exc k ρ σ) s μ
 intro hne Q E hQ hE
 obtain ⟨z,hz,-⟩:=T.cls k
 refine ex2 (L.nm.ns) fun mg mb q_h=>?_;refine an4 q_h fun n1 n2 hcls _=>?_
 have hl:Mine.T G (.lit (.str (codes m))) cx (.Constant (.str m) i ap):=⟨_,_,_,rfl,if_pos hlen⟩
 have hts:Ts G [.lit (.str (codes m))] cx [.Constant (.str m) i ap]:=⟨_,_,rfl,hl,rfl⟩
 refine sized ?_
 refine wpAny_Raise_call_subT (C:=X.ca k) (nm:=z.nm) (q:=z.q) (N:=z.N) (bs:=z.bs) (bm:=z.bm) (hdct:=z.hdct) (sn:=z.sn) (sub:=z.sub) (ab:=z.ab) (col:=z.col) (dd:=z.dd) (k0:=z.k0) (k1:=z.k1) (k2:=z.k2) (k3:=z.k3) (k5:=z.k5)
  PySem.F.excBase_ValueError (mN:=z.mN) (hz.tail.hasType PySem.F.excBase_ValueError.hasBase) (c.rm.handled rfl) (tr_plain hts) hz.ini ?_
 refine sim_global c F n1 hg (hcls x k hix) ⟨rfl,?_⟩
 refine args_of hts ?_
 have hev:evEs X.ns C ρ [.lit (.str (codes m))] σ=.ok [.str (codes m)] σ:=rfl
 refine sim_args (p:=cp) (sim_alls L _) hts c F (by refine gw hev ?_;intro q;cases q) _ _ (fun vs σ₁ us s₁ μ₁ e1 S1 r1=>?_) fun k' σ₁ y s₁ μ₁ e1 _ _=>by replace e1:=hev▸e1;cases e1
 replace e1:=hev▸e1;cases e1
 have hul:us.length=1:=by refine bw (r1.length ..) ?_;rfl
 refine ⟨rfl,by show us.length<=_;refine gw hul ?_;decide,S1.base.keep _ _ hz.obj,hz.ns.keeps S1.base.keep,hz.tail.keeps S1.base.keep,fun h' e hm hz=>?_⟩
 have S2:=S1.more c.base hm.keeps hz
 obtain ⟨tt,q_h⟩:=(hm.there);refine an3 q_h fun h1 h2 h3=>?_
 exact hE k ρ σ (.ref e) _ μ₁ rfl S2.e (F.step c.hr S2) ⟨e,none,rfl,⟨S1.pers _ hm.new,_,_,.ref tt,h1,⟨rfl,rfl⟩,rfl,rfl,rfl⟩,.inl rfl⟩
section
variable {M:Model}{A:Around}{E:Value->Shared->Prop}
theorem excMatches_own {h:Heap}{g:Array GenState}{d:Drawn}{t:Nat}{os:OsState}{e C C':Addr}{oe:Obj}{x x':XD}{Q:Bool->Shared->Prop}
  (hC:h.get? C=some (x.obj C)) (hD:h.get? C'=some (x'.obj C')) (he:h.get? e=some oe) (hcls:oe.cls=.ref C)
  (hbase:x'.bm.contains (.type "BaseException")=true) (hq:Q ((Value.ref C::x.bm).contains (.ref C')) ⟨h,g,d,t,os⟩):wpAny M A (excMatches (.ref e) (.ref C')) Q E ⟨h,g,d,t,os⟩:=by
 have hcB:(Value.ref C'::x'.bm).contains (.type "BaseException")=true:=by exact gw (List.contains_cons ..) (gw (hbase ..) (gw (zaw ..) rfl))
 unfold XD.obj at hC hD
 have f:=tc_notTuple
 generalize hb:(Value.ref C::x.bm).contains (.ref C')=b at hq
 unfold excMatches
 repeat (first | (with_reducible refine wpAny_loadPart_at he ?_;rw [hcls]) | with_reducible refine wpAny_loadPart_at hD ?_ | (with_reducible refine wpAny_isSubtype_exc hD ?_;rw [hcB]) | (with_reducible refine wpAny_isSubtype_exc hC ?_;rw [hb]) | wp_step)
 all_goals (cases b <;> (wp_walk;exact hq))
end
theorem Cn.mark (c:Cn X A d true s μ σ) (a:Addr):Cn X (A.mark (some (.ref a))) d false s μ σ:=⟨⟨c.rm.depth,c.rm.units,(fun h=>nomatch h),by intro q;cases q⟩,c.hr,c.base,c.fs,c.scr,c.bad⟩
theorem FrOk.mark (h:FrOk A env) (a:Addr):FrOk (A.mark (some (.ref a))) env:=h
theorem back_ok {hn:Bool}{k:Option Nat}{v u:V}{e:Expr} (c:Cn X A d hn s μ σ) (F:FR X env cx ρ s.heap μ) (hT:Mine.T G (backE k v) cx e) (hu:backV ρ k v=some u):Sm X (Wp X A (eval e env)) (.ok u σ) (Rl X) s μ:=by
 cases k with
 | none=>cases hu;exact lit_ok c hT
 | some k =>
  refine ex3 (hT) fun l r p q_h=>?_;refine an3 q_h fun he h1 h2=>?_
  subst he
  obtain ⟨o,hv,hu⟩:=y6.mp hu
  obtain ⟨w,ho,rfl⟩:=zn.mp hu
  subst ho
  exact ((nam_ok c F h1 hv).bind (k:=fun x=>(M.ret V.none).bnd fun y=>cmpV .is x y) fun _ _ _ _ _ e1 S1 r1=>(lit_ok (c.step S1) h2).bind fun _ _ _ _ _ e2 S2 r2=>by
   cases e1;cases e2;exact sm_cmp ((c.step S1).step S2) .is (S2.vr (c.step S1).hr r1) r2).imp fun Q E h=>wpAny_Compare1 h (h2.facts.marks _)
theorem sim_try (L:Leaf X G C d) (T:SLeaf X G C.sub) {tb:List Mine.S}{k':Nat}{j:Option Nat}{v:V} (hb:SimSs X C G d tb):SimS X C G d (.try tb k' j v):=by
 intro cx st hT A env ρ s μ σ c F lo ho
 refine ex7 (hT) fun body x xp e rp hp p q_h=>?_;refine an5 q_h fun he h1 hg hix h2=>?_
 subst he
 have hev:∀ r,evSs X.ns C ρ σ tb=r->evS X.ns C ρ σ (.try tb k' j v)=match r with | .exc c ρ' σ'=>(if C.sub c k' then (backV ρ' j v).elim .stuck fun u=>.ok (.ret u) ρ' σ' else .stuck) | r=>r:=fun r e=>by subst e;rfl
 intro hne Q E hQ hE
 refine wpAny_Try_except (hb cx body h1 A env ρ s μ σ c F lo ho (fun e=>hne (hev _ e)) _ _ (fun f ρ' σ' fl s' μ' e' S' F' r'=>?_) fun k ρ' σ' y s' μ' e' S' F' x'=>?_)
 ·cases r' with
  | next=>exact wpAny_execs_nil (hQ _ ρ' σ' _ s' μ' (hev _ e') S' F' .next)
  | ret r=>exact hQ _ ρ' σ' _ s' μ' (hev _ e') S' F' (.ret r)
 ·rw [hev _ e'] at hne hQ
  dsimp only at hne hQ
  cases hb:C.sub k k' with
  | false=>rw [if_neg (by rw [hb];decide)] at hne;exact absurd rfl hne
  | true =>
   replace hQ:=(if_pos hb ..)▸hQ
   replace hne:=(if_pos hb ..)▸hne
   obtain ⟨w,hw⟩:∃ w,backV ρ' j v=some w:=ve.mp (by cases q:backV ρ' j v with | none=>exact absurd (by rw [q];rfl) hne | some _=>rfl)
   replace hQ:=hw▸hQ
   have c1:=c.stepE S' F' ho
   refine xs_note c1 F' ho S' c.base rfl x' fun s₁ a he S1 F1 c1' f1=>?_
   subst he
   refine xs_set c1' F1 ho S1 c.base rfl f1 none fun s₂ S2 F2 c2 f2=>?_
   refine ex2 (L.nm.ns) fun mg mb q_h=>?_;refine an4 q_h fun n1 n2 hcls _=>?_
   obtain ⟨z,hz,hsub⟩:=T.cls k
   obtain ⟨z',hz',-⟩:=T.cls k'
   have hs':=hsub k' (zc.mp hix).1
   have c':=c2.mark a
   have ho':=ho.mark a
   obtain ⟨-,oe,-,-,g1,g2,-⟩:=id f2
   refine wpAny_handleBy_cons (codeAny_handlers_test (sim_global c' F2 n1 hg (hcls x k' hix) ?_)) (by intro q;cases q)
   refine excMatches_own (c2.base.keep _ _ hz.obj) (c2.base.keep _ _ hz'.obj) g1 g2.1 (hz'.tail.hasType PySem.F.excBase_ValueError.hasBase) ?_
   refine bw hs' (gw hb ?_)
   refine codeAny_handlers_suite (xs_set c' F2 ho' S2 c.base rfl f2 none fun s₃ S3 F3 c3 f3=>?_)
   refine wpAny_execs_cons (wpAny_Return_some (back_ok c3 F3 h2 hw (by intro q;cases q) _ _ (fun w σ₁ u s₄ μ₄ e4 S4 r4=>?_) fun _ _ _ _ _ e4=>nomatch e4))
   cases e4
   exact hQ _ ρ' σ' _ s₄ μ₄ rfl (S3.trans S4.e) (F3.step c3.hr S4) (.ret r4)
end
end Mine
namespace Mine
open PySem PyProof.Rows PySem.Calls
section
variable {X:W}{d:Nat}{G:GT}
structure LL (X:W) (G:GT) (C:Calls) (d:Nat):Prop where
 l:∀ b,Leaf (X.wb b) G C d
 t:∀ b,SLeaf (X.wb b) G C.sub
theorem LL.here {C:Calls} (L:LL X G C d):Leaf X G C d:=L.l X.bad
theorem LL.wb {C:Calls} (L:LL X G C d) (b:Addr->Prop):LL (X.wb b) G C d:=⟨fun b'=>L.l b',fun b'=>L.t b'⟩
mutual
theorem sim_stmt:∀ (t:S) {X:W}{C:Calls},LL X G C d->SimS X C G d t
 | .assign k e,X,C,L=>by
  cases hc:isComp e with
  | false=>exact sim_assign (sim_all L.here e).ev hc
  | true =>
   cases e <;> first | (cases hc;done) | skip
   ·exact sim_assignC L.here (cond:=none) ⟨(sim_parts L.here _).i L.here,(sim_all L.here _).ev,fun _ h=>nomatch h⟩
   ·exact sim_assignC L.here (cond:=some _) ⟨(sim_parts L.here _).i L.here,(sim_all L.here _).ev,fun _ h=>Option.some.inj h▸(sim_all L.here _).tr⟩
 | .setattr a x e,X,C,L=>sim_setattr L.here (sim_all L.here a).ev (sim_all L.here e).ev
 | .setitem a i e,X,C,L=>sim_setitem (sim_all L.here a).ev (sim_all L.here i).ev (sim_all L.here e).ev
 | .expr e,X,C,L=>sim_expr (sim_all L.here e).ev
 | .ret e,X,C,L=>sim_ret (sim_all L.here e).ev
 | .ite c a b,X,C,L=>sim_ite (sim_all L.here c).tr (sim_stmts a L) (sim_stmts b L)
 | .forN k src b,X,C,L=>sim_forN L.here ((sim_parts L.here src).i L.here) (sim_stmts b L)
 | .forP k k' src b,X,C,L=>sim_forP L.here (sim_parts L.here src) fun q=>sim_stmts b (L.wb q)
 | .raise c,X,C,L=>sim_raise L.here (L.t X.bad)
 | .dead,X,C,L=>sim_dead
 | .try b c k v,X,C,L=>sim_try L.here (L.t X.bad) (sim_stmts b L)
theorem sim_stmts:∀ (ts:List S) {X:W}{C:Calls},LL X G C d->SimSs X C G d ts
 | [],_,_,_=>sim_nil
 | t::ts,X,C,L=>sim_cons (sim_stmt t L) (sim_stmts ts L)
end
end
end Mine
namespace Mine
open PySem PyProof.Rows PySem.Calls
theorem slotsOf_ge : ∀ {l : List (Str × NameKind)} {i : Nat} {x : Str} {k : Nat}, (x, k) ∈ slotsOf l i -> i <= k
  | [], _, _, _, h => nomatch h
  | (y, kd) :: r, i, x, k, h => by
    cases kd <;> simp only [slotsOf] at h
    all_goals first
      | (rcases zy.mp h with q | q
         · cases q; exact ze _
         · exact vm (slotsOf_ge q))
      | exact slotsOf_ge h
theorem slotsOf_at : ∀ {l : List (Str × NameKind)} {i : Nat} {x : Str} {k : Nat}, (x, k) ∈ slotsOf l i -> (slotsOf l i)[k - i]? = some (x, k)
  | [], _, _, _, h => nomatch h
  | (y, kd) :: r, i, x, k, h => by
    cases kd <;> simp only [slotsOf] at h ⊢
    all_goals first
      | (rcases zy.mp h with q | q
         · cases q; simp
         · have h1 := slotsOf_ge q
           have h2 := slotsOf_at q
           refine gw (show k - i = (k - (i + 1)) + 1 from (Nat.sub_add_cancel (w0 h1)).symm) (gw (fw ..) ?_)
           exact h2)
      | exact slotsOf_at h
theorem slotsOf_names : ∀ {l : List (Str × NameKind)} {i : Nat} {x : Str} {k : Nat}, (x, k) ∈ slotsOf l i -> (x, NameKind.local) ∈ l ∨ (x, NameKind.cell) ∈ l
  | [], _, _, _, h => nomatch h
  | (y, kd) :: r, i, x, k, h => by
    cases kd <;> simp only [slotsOf] at h
    all_goals first
      | (rcases zy.mp h with q | q
         · cases q; first | exact .inl zh | exact .inr zh
         · rcases slotsOf_names q with w | w
           · exact .inl (zj _ w)
           · exact .inr (zj _ w))
      | (rcases slotsOf_names h with w | w
         · exact .inl (zj _ w)
         · exact .inr (zj _ w))
theorem cells_some:∀ {l:List (Str×NameKind)}{n:Nat}{acc:List (Str×Addr)}{x:Str},((x,NameKind.cell)∈l∨(acc.lookup x).isSome=true)->((cellsFrom n l acc).lookup x).isSome=true
 | [],_,_,_,h=>by rcases h with h | h;cases h;exact h
 | (y,kd)::r,n,acc,x,h=>by
  unfold cellsFrom
  split
  ·rename_i hk
   refine cells_some ?_
   refine gw (yx ..) ?_
   cases hx:x == y with
   | true=>exact .inr rfl
   | false =>
    rcases h with h | h
    ·rcases zy.mp h with q | q
     ·cases q;simp at hx
     ·exact .inl q
    ·exact .inr h
  ·rename_i hk
   refine cells_some ?_
   rcases h with h | h
   ·rcases zy.mp h with q | q
    ·cases q;simp at hk
    ·exact .inl q
   ·exact .inr h
theorem cells_of:∀ {l:List (Str×NameKind)}{n:Nat}{acc:List (Str×Addr)}{x:Str}{c:Addr},(cellsFrom n l acc).lookup x=some c->acc.lookup x=some c∨n<=c
 | [],_,_,_,_,h=>.inl h
 | (y,kd)::r,n,acc,x,c,h=>by
  unfold cellsFrom at h
  split at h
  ·rcases cells_of h with q | q
   ·rw [yx] at q
    cases hx:x == y with
    | true=>replace q:=hx▸q;cases q;exact .inr (ze _)
    | false=>replace q:=hx▸q;exact .inl q
   ·exact .inr (vm q)
  ·exact cells_of h
theorem bindL_off {kd:Str->Option NameKind}{x:Str}:∀ {names:List Str}{us:List Value}{m:Str->Option Value},x∉names->bindL kd (names.zip us) m x=m x
 | [],_,_,_=>by simp [bindL]
 | n::names,[],_,_=>by simp [bindL]
 | n::names,u::us,m,h=>by
  rw [xx,bindL,bindL_off (fun q=>h (zj _ q))]
  have hx:x≠n:=fun e=>h (e▸zh)
  split
  ·show (if x=n then _ else _)=_
   exact gw (if_neg hx ..) rfl
  ·rfl
theorem bindC_off {kd:Str->Option NameKind}{x:Str}:∀ {names:List Str}{us:List Value}{m:Str->Option Value},x∉names->bindC kd (names.zip us) m x=m x
 | [],_,_,_=>by simp [bindC]
 | n::names,[],_,_=>by simp [bindC]
 | n::names,u::us,m,h=>by
  rw [xx,bindC,bindC_off (fun q=>h (zj _ q))]
  have hx:x≠n:=fun e=>h (e▸zh)
  split
  ·rfl
  ·show (if x=n then _ else _)=_
   exact gw (if_neg hx ..) rfl
theorem bindL_at {kd:Str->Option NameKind}{x:Str}{u:Value} (hk:kd x=some .local):∀ {names:List Str}{us:List Value}{m:Str->Option Value}{k:Nat},names.Nodup->names[k]?=some x->us[k]?=some u->bindL kd (names.zip us) m x=some u
 | [],_,_,_,_,h,_=>by simp at h
 | n::names,[],_,_,_,_,h=>by simp at h
 | n::names,v::us,m,0,hn,h1,h2=>by
  simp at h1 h2
  subst h1 h2
  rw [xx,bindL,bindL_off (xg.mp hn).1,if_pos hk];simp
 | n::names,v::us,m,k + 1,hn,h1,h2=>by
  rw [xx,bindL]
  exact bindL_at hk (xg.mp hn).2 (by simpa using h1) (by simpa using h2)
theorem bindC_at {kd:Str->Option NameKind}{x:Str}{u:Value} (hk:kd x≠some .local):∀ {names:List Str}{us:List Value}{m:Str->Option Value}{k:Nat},names.Nodup->names[k]?=some x->us[k]?=some u->bindC kd (names.zip us) m x=some u
 | [],_,_,_,_,h,_=>by simp at h
 | n::names,[],_,_,_,_,h=>by simp at h
 | n::names,v::us,m,0,hn,h1,h2=>by
  simp at h1 h2
  subst h1 h2
  rw [xx,bindC,bindC_off (xg.mp hn).1,if_neg hk];simp
 | n::names,v::us,m,k + 1,hn,h1,h2=>by
  rw [xx,bindC]
  exact bindC_at hk (xg.mp hn).2 (by simpa using h1) (by simpa using h2)
noncomputable def FnOk (X:W) (G:GT) (i:Nat) (fn:Fn):Prop:=∃ o fd body,X.h₀.get? (X.fa i)=some o/\o.data=.func fd/\X.h₀.CodeRec fd.code fd.qualname/\fd.body=.stmts body/\fd.closure=[]/\fd.globals=mainGlobals/\fd.builtins=builtinsNs /\
 (∀ vals:List Value,vals.length=fd.params.args.length->bindArgs fd ⟨vals,[]⟩=pure ((fd.params.args.map (·.arg)).zip vals))/\TFn G fn fd.params body fd.scope
section
variable {X:W}{A:Around}{d:Nat}{s s' s'' s₀:Shared}{μ μ' μ'' μ₀:List Addr}{σ σ' σ'' σ₀:H}{env:zt}{cx cx':Cx}{ρ ρ' ρ₀:Env}{C:Calls}{G:GT}
theorem FF.lt {h:Heap}:∀ {l:List zt},FF X h μ l->∀ e∈l,∀ L,e.frame=some L->L < h.objs.size
 | [],_,_,hm,_,_=>nomatch hm
 | e0::l,hf,e,hm,L,hL=>by
  obtain ⟨⟨_,L0,o0,es0,n0,k1,_,_,k4,_⟩,hr0⟩:=hf
  rcases zy.mp hm with rfl | hm
  ·replace hL:=k1▸hL;cases hL;exact yb k4
  ·exact FF.lt hr0 e hm L hL
theorem Step.close (S:Step X s₀ μ₀ s μ σ) (S':StepE X env s μ s' μ' σ') (h:∀ b,Own env b->s₀.heap.objs.size<=b):Step X s₀ μ₀ s' μ' σ':=by
 obtain ⟨ν,rfl,hν⟩:=S.ext
 obtain ⟨ν',rfl,hν'⟩:=S'.ext
 refine ⟨S'.hr,fun b o hb e=>?_,S'.base,za S.size S'.size,⟨ν++ν',by exact gw (zk ..) rfl,fun a ha=>?_⟩,S'.gens.trans S.gens,S'.os.trans S.os⟩
 ·obtain ⟨sl,e1,q1⟩:=S.keep b o hb e
  have hlt:=yb e
  have hb':b∉μ₀++ν:=fun hm=>by
   rcases z5.mp hm with h1 | h1
   ·exact hb h1
   ·exact absurd hlt (yc.mpr (hν b h1))
  obtain ⟨sl',e2,q2⟩:=S'.keep b _ hb' (fun hO=>absurd hlt (yc.mpr (h b hO))) e1
  exact ⟨sl',e2,fun hd=>(q2 hd).trans (q1 hd)⟩
 ·rcases z5.mp ha with h1 | h1
  ·exact hν a h1
  ·exact za S.size (hν' a h1)
noncomputable abbrev Pc (X:W) (A:Around) (f:Value) (us:List Value):PT Value:=fun Q E s=>codeAny (Mo X) A (.call f ⟨us,[]⟩) (fun r s'=>match r with | .ok (.ret v)=>Q v s' | .ok _=>False | .error e=>E e s') s
noncomputable abbrev upA (A:Around) (u:Nat):Around:={ A with depth:=A.depth + u,units:=A.units + u }
theorem sim_fn (u:Nat) (hu:u<=2) {i:Nat}{fn:Fn} (hf:FnOk X G i fn) (hlim:X.h₀.NoLimit) (hB:SimSs X C G d fn.body) (c:Cn X A (d + 1) true s μ σ) {vs:List V}{us:List Value} (r:VRs X s.heap μ vs us) :
  Sm X (Pc X (upA A u) (.ref (X.fa i)) us) (evF X.ns C fn vs σ) (Rl X) s μ:=by
 refine cps fun GG KK=>?_
 refine ex3 (hf) fun o fd body q_h=>?_;refine an9 q_h fun h1 h2 h3 h4 h5 h6 h7 h8 h9=>?_
 obtain ⟨t1,q_h⟩:=(h9);refine an7 q_h fun t2 t3 t4 t5 t6 t7 t8=>?_
 refine KK ?_
 unfold evF
 rw [t7,t8]
 split
 ·rename_i hlen
  intro hne Q E hQ hE
  have hul:us.length=fd.params.args.length:=by rw [← r.length];exact hlen
  have hbind:=h8 us hul
  generalize hnm:fd.params.args.map (·.arg)=names at hbind t1
  have hnl:names.length=fd.params.args.length:=by rw [← hnm,zb]
  have hnat:∀ x k,(x,k)∈slotsOf fd.scope.names 0->k < names.length->names[k]?=some x:=fun x k hm hk=>by
   rw [← t1,List.getElem?_take,if_pos (by rw [← hnl];exact hk),zv]
   have:=slotsOf_at hm
   simp only [jw] at this
   refine gw (this ..) ?_;rfl
  have hmem:∀ x∈names,∃ k,(x,k)∈slotsOf fd.scope.names 0:=fun x hxm=>by
   replace hxm:=t1▸hxm
   obtain ⟨p,hp,rfl⟩:=w4.mp (xm hxm)
   exact ⟨p.2,hp⟩
  have hnd:names.Nodup:=by
   refine bw t1 ?_
   refine List.Nodup.sublist (jh _ _) ?_
   have:∀ (l:List (Str×NameKind)) (i:Nat),((slotsOf l i).map (·.1)).Sublist (l.map (·.1)):=by
    intro l
    induction l with
    | nil=>intro i;exact List.Sublist.refl _
    | cons p l ih =>
     intro i
     obtain ⟨y,kd⟩:=p
     cases kd <;> simp only [slotsOf,xn] <;> first | exact (ih _).cons_cons _ | exact (ih _).cons _
   exact List.Nodup.sublist (this _ _) t2
  have hkindof:∀ x∈names,fd.scope.names.lookup x=some .local∨(fd.scope.names.lookup x=some .cell/\((cellsFrom (s.heap.objs.size + 1) fd.scope.names []).lookup x).isSome=true):=fun x hxm=>by
   obtain ⟨k,hk⟩:=hmem x hxm
   rcases slotsOf_names hk with q | q
   ·exact .inl (mem_lookup t2 q)
   ·exact .inr ⟨mem_lookup t2 q,cells_some (.inl q)⟩
  refine codeAny_call_cells (A:=upA A u) (by have:=c.rm.depth;show A.depth + u < _;(first | lia | omega)) (c.base.keep _ _ h1) h2 (hlim.keeps c.base.keep) (h3.keeps c.base.keep) h4 hbind h5 (fun x hxm=>?_) (fun s₁ I=>?_) t5 t4 t3
  ·obtain ⟨a,b'⟩:=x
   exact hkindof a (List.of_mem_zip hxm).1
  ·generalize hE':callEnvC fd s.heap.objs.size (X.fa i)=env at I
   have eL:env.locals=s.heap.objs.size:=by rw [← hE'];rfl
   have eS:env.scope=fd.scope:=by rw [← hE'];rfl
   have eC:env.cells=cellsFrom (s.heap.objs.size + 1) fd.scope.names []:=by rw [← hE'];rfl
   have eG:env.globals=mainGlobals:=by refine bw hE' ?_;exact h6
   have eB:env.builtins=builtinsNs:=by refine bw hE' ?_;exact h7
   have eF:env.frame=some s.heap.objs.size:=by refine bw hE' ?_;rfl
   have hns:=I.toInCall.ns
   obtain ⟨h',tk,rfl⟩:=I.toInCall.same
   have hsz:s.heap.objs.size<=h'.objs.size:=by
    have:=hns.lt
    replace this:=eL▸this
    exact z9 this
   have S1:Step X s μ { s with heap:=h',toks:=tk } μ σ:=Step.grow c I.toInCall.keep hsz rfl rfl
   have hLm:env.locals∉μ:=fun hm=>by replace hm:=eL▸hm;exact xj _ (c.hr.lt hm)
   have hcell:∀ x cc,env.cells.lookup x=some cc->s.heap.objs.size < cc:=fun x cc hc=>by
    replace hc:=eC▸hc
    rcases cells_of hc with q | q
    ·cases q
    ·exact q
   have hown:∀ bb,Own env bb->s.heap.objs.size<=bb:=fun bb hb=>by
    rcases hb with rfl | ⟨x,hb⟩
    ·refine gw eL ?_;exact ze _
    ·exact z9 (hcell x bb hb)
   have hz:∀ a o,X.h₀.get? a=some o->a < s.heap.objs.size:=fun a o e=>yb (c.base.keep a o e)
   have r1:VRs X h' μ vs us:=S1.vrs c.hr r
   have hkd:∀ x,env.kindOf x=fd.scope.names.lookup x:=fun x=>by show env.scope.names.lookup x=_;rw [eS]
   have hval:∀ (k:Nat) (v:V),(vs.map some++v9 ((slotsOf fd.scope.names 0).length - fd.params.args.length) (none:Option V))[k]?=some (some v)->k < names.length/\∃ u,us[k]?=some u/\VR X h' μ v u:=fun k v hv=>by
    by_cases hk:k < vs.length
    ·rw [y7 (by rw [zb];exact hk),zv] at hv
     obtain ⟨w,hw,e⟩:=zn.mp hv
     cases e
     exact ⟨by refine gw hnl (bw (hlen ..) ?_);exact hk,r1.get hw⟩
    ·rw [zw (by rw [zb];exact uj hk)] at hv
     replace hv:=(List.getElem?_replicate ..)▸hv
     split at hv <;> cases hv
   have F1:FR X env ⟨fd.scope.names,slotsOf fd.scope.names 0,(slotsOf fd.scope.names 0).length⟩ (vs.map some++v9 ((slotsOf fd.scope.names 0).length - fd.params.args.length) none) h' μ:={
    kind:=by refine gw eS ?_;exact t3
    globals:=eG
    builtins:=eB
    names:=by exact gw eS rfl
    ns:=⟨_,hns,fun x k v e1 e2 e3=>by
     obtain ⟨hk,u,hu,rv⟩:=hval k v e3
     exact ⟨u,bindL_at (by rw [hkd];exact e1) hnd (hnat x k (lookup_mem e2) hk) hu,rv⟩⟩
    cell:=fun x k e1 e2=>by
     obtain ⟨cc,hc⟩:=ve.mp (cells_some (n:=s.heap.objs.size + 1) (acc:=[]) (.inl (lookup_mem e1)))
     replace hc:=eC▸hc
     refine ⟨cc,_,hc,I.cell x cc hc,fun v hv=>?_⟩
     obtain ⟨hk,u,hu,rv⟩:=hval k v hv
     exact ⟨u,bindC_at (by rw [hkd];rw [show List.lookup x fd.scope.names=some NameKind.cell from e1];simp) hnd (hnat x k (lookup_mem e2) hk) hu,rv⟩
    cells:=fun x e1=>by refine gw eC ?_;exact cells_some (.inl (lookup_mem e1))
    apart:=fun x y cc a1 a2=>name_of_addr I.apart (lookup_mem a1) (lookup_mem a2)
    offL:=hLm
    offC:=fun x cc hc=>⟨fun hm=>absurd (c.hr.lt hm) (yc.mpr (z9 (hcell x cc hc))),by refine gw eL ?_;exact xt (hcell x cc hc),(I.cell x cc hc).lt⟩
    slots:=fun x y k a1 a2=>by
     have b1:=slotsOf_at (lookup_mem a1)
     have b2:=slotsOf_at (lookup_mem a2)
     replace b2:=b1▸b2;cases b2;rfl
    bound:=fun x k a1=>by
     have b1:=slotsOf_at (lookup_mem a1)
     have:=(zc.mp b1).1
     simpa using this
    len:=by
     refine gw (zd ..) (gw (zb ..) (gw (List.length_replicate ..) (gw (hlen ..) ?_)))
     have:fd.params.args.length<=(slotsOf fd.scope.names 0).length:=by
      have e:=congrArg ki t1
      replace e:=(zb ..)▸(yu ..)▸hnl▸e
      (first | lia | omega)
     show fd.params.args.length + ((slotsOf fd.scope.names 0).length - fd.params.args.length)=(slotsOf fd.scope.names 0).length
     (first | lia | omega) }
   obtain ⟨fs,hfs,hff⟩:=c.fs
   have c1:Cn X ((upA A u).deeper env) d true { s with heap:=h',toks:=tk } μ σ:={
    rm:={
     depth:=by have:=c.rm.depth;show A.depth + u + 1 + 4 * d + 4 < _;(first | lia | omega)
     units:=by have:=c.rm.units;show A.units + u + 3 + 40 * d + 40 < _;(first | lia | omega)
     handled:=c.rm.handled
     nb:=c.rm.nb }
    hr:=S1.hr
    base:=S1.base
    fs:=by
     refine ⟨env::fs,by show A.frames.map _=_;refine gw hfs ?_;rfl,⟨by refine gw eS (gw t3 ?_);simp,?_⟩,S1.ff hff⟩
     refine ex3 (hns) fun oL es ep q_h=>?_;refine an3 q_h fun e1 e2 _=>?_
     refine ⟨env.locals,oL,es,ep,by exact gw eF (gw eL rfl),?_,hLm,e1,e2⟩
     cases hg:X.h₀.get? env.locals with
     | none=>rfl
     | some oo=>have:=hz _ _ hg;replace this:=eL▸this;exact absurd this (xj _)
    scr:=c.scr
    bad:=fun a h=>zm (c.bad a h) S1.size }
   have lo:Lo X env:=⟨by refine gw eL ?_;exact c.base.size,fun x a ha=>z9 (yk c.base.size (hcell x a ha))⟩
   have ho:FrOk ((upA A u).deeper env) env:=⟨by exact gw eF (gw eL rfl),fs,by show A.frames.map _=_;refine gw hfs ?_;rfl,fun en hm L hL hO=>by
    have:L < s.heap.objs.size:=hff.lt en hm L hL
    exact absurd this (yc.mpr (hown L hO))⟩
   refine hB ⟨fd.scope.names,slotsOf fd.scope.names 0,_⟩ body t6 ((upA A u).deeper env) env _ _ μ σ c1 F1 lo ho (fun e=>by replace hne:=e▸hne;exact hne rfl) _ _ (fun f ρ' σ' fl s' μ' e' S' F' r'=>?_) fun cc ρ' σ' y s' μ' e' S' F' x'=>?_
   ·have SS:=S1.close S' hown
    replace hQ:=e'▸hQ
    cases r' with
    | next=>exact hQ .none σ' .none s' μ' rfl SS .none
    | ret rr=>exact hQ _ σ' _ s' μ' rfl SS rr
   ·replace hE:=e'▸hE
    exact xs_leave (c1.stepE S' F' ho) F' ho S' c1.base rfl x' fun s₂ S2 xr=>hE cc σ' y s₂ μ' rfl (S1.close S2 hown) (xr.le S1.pers)
 ·exact Sm.stuck
end
end Mine
namespace Mine
open PySem PyProof.Rows PySem.Calls PySem.SeqAt
section
open PySem.W
variable {prog:Program}{w:World}{A:Around}{E:Value->Shared->Prop}{s:Shared}{K:PySem.W.Frag}{C e:Addr}{o:Obj}
end
section
variable {X:W}{A:Around}{d:Nat}{s s' s'' s₀:Shared}{μ μ' μ'' μ₀:List Addr}{σ σ' σ'' σ₀:H}{env:zt}{cx cx':Cx}{ρ ρ' ρ₀:Env}{C:Calls}{G:GT}
theorem Cn.ok0 (c:Cn X A d true s μ σ) {v:V}{u:Value}{t:Sem Value} (r:VR X s.heap μ v u) (h:∀ (Q:Value->Shared->Prop) (E:Value->Shared->Prop),(∀ tk,Q u { s with toks:=tk })->wpAny (Mo X) A t Q E s):Sm X (Wp X A t) (.ok v σ) (Rl X) s μ :=
 Sm.ok fun Q E hQ=>h Q E fun tk=>hQ _ _ _ (c.same tk) r
theorem Cn.ok1 (c:Cn X A d true s μ σ) {v:V}{u:Value}{t:Sem Value} (r:VR X s.heap μ v u) (h:∀ (Q:Value->Shared->Prop) (E:Value->Shared->Prop),(∀ h' tk,(∀ b o,s.heap.get? b=some o->h'.get? b=some o)->Q u { s with heap:=h',toks:=tk })->wpAny (Mo X) A t Q E s):Sm X (Wp X A t) (.ok v σ) (Rl X) s μ :=
 Sm.ok fun Q E hQ=>sized (h _ _ fun h' tk k hz=>by
  have S:Step X s μ { s with heap:=h',toks:=tk } μ σ:=Step.grow c k hz rfl rfl
  exact hQ _ _ _ S (S.vr c.hr r))
theorem Cn.madeL (c:Cn X A d true s μ σ) {xs:List V}{t:Sem Value} (hl:xs.length<=lim) (h:∀ (Q:Value->Shared->Prop) (E:Value->Shared->Prop),(∀ D h' tk n l,s.heap.objs.size<=D->(∀ b o,s.heap.get? b=some o->h'.get? b=some o)->h'.get? D=some { cls:=.type "list",data:=.seq (jd l) n }->VRs X h' μ xs l->Q (.ref D) { s with heap:=h',toks:=tk })->wpAny (Mo X) A t Q E s) :
  Sm X (Wp X A t) (.ok (.ref σ.length) (σ++[.list xs])) (Rl X) s μ :=
 Sm.ok fun Q E hQ=>sized (h _ _ fun D h' tk n l hD k e r hz=>by
  have S:Step X s μ { s with heap:=h',toks:=tk } μ σ:=Step.grow c k hz rfl rfl
  have hno:D∉μ:=fun hm=>absurd (c.hr.lt hm) (yc.mpr hD)
  exact hQ _ _ (μ++[D]) (S.adopt c.base hno hD (.list e (by refine bw (r.length ..) ?_;exact hl) (r.mono (fun _ _ e _=>e) ext_get))) (.ref (c.newRef D)))
open IsiPair in
theorem sm_isi (c:Cn X A d true s μ σ) {t:Ty}{v:V}{u:Value} (r:VR X s.heap μ v u):Sm X (Wp X A (yd (.builtin "isinstance") [u,tyVal t])) (isiV t v σ) (Rl X) s μ:=by
 cases r with
 | int i tk=>cases t with
  | int=>exact c.ok0 (.bool _) fun Q E h=>int_int (h s.toks)
  | bool=>exact c.ok0 (.bool _) fun Q E h=>int_bool (h _)
  | _=>exact Sm.stuck
 | str x tk z=>cases t with
  | str=>exact c.ok0 (.bool _) fun Q E h=>str_str (h s.toks)
  | _=>exact Sm.stuck
 | tup e b z rr=>cases t with
  | tuple=>exact c.ok0 (.bool _) fun Q E h=>tuple_tuple e rfl (h s.toks)
  | _=>exact Sm.stuck
 | ref hm=>cases t with
  | list=>exact sm_onL c hm fun xs l n ho e rr hz=>c.ok0 (.bool _) fun Q E h=>list_list e rfl (h s.toks)
  | _=>exact Sm.stuck
 | _=>exact Sm.stuck
theorem sm_len (c:Cn X A d true s μ σ) {v:V}{u:Value} (r:VR X s.heap μ v u):Sm X (Wp X A (yd (.builtin "len") [u])) (lenV X.ns v σ) (Rl X) s μ:=by
 have hl:lim=16777216:=rfl
 cases r with
 | ref hm =>
  refine sm_onL c hm fun xs l n ho e rr hz=>?_
  exact c.ok0 (u:=.int l.toArray.size (s.toks + 1)) (by refine gw (yq ..) (bw (rr.length ..) ?_);exact .int _ _) fun Q E h=>call_len_list ⟨_,e,rfl,_,rfl⟩ (by refine gw (yq ..) ?_;exact wv (yw.mpr hz) (by decide)) (h _)
 | @tup vs a l n e b z rr=>exact c.ok0 (v:=.int vs.length) (u:=.int l.toArray.size (s.toks + 1)) (by refine gw (yq ..) (bw (rr.length ..) ?_);exact .int _ _) fun Q E h=>PyProof.Rows.len_tuple ⟨_,e,rfl,_,rfl⟩ (by refine gw (yq ..) ?_;exact wv (yw.mpr z) (by decide)) (h _)
 | str x tk z=>exact c.ok0 (v:=.int (codes x).length) (u:=.int x.length (s.toks + 1)) (by refine bw (codes_length ..) ?_;exact .int _ _) fun Q E h=>len_str (by (first | lia | omega)) (h _)
 | scr =>
  obtain ⟨vs,q_h⟩:=(c.scr);refine an3 q_h fun L hi hz=>?_
  exact c.ok0 (v:=.int X.ns.length) (u:=.int vs.toArray.size (s.toks + 1)) (by refine gw (yq ..) (gw (hi.length ..) ?_);exact .int _ _) fun Q E h=>call_len_list (c.isScr L) (by refine gw (yq ..) ?_;exact wv (yw.mpr hz) (by decide)) (h _)
 | _=>exact Sm.stuck
theorem bools_at {h:Heap}:∀ {xs:List V}{l:List Value}{bs:List Bool},boolsOf xs=some bs->VRs X h μ xs l->l=bs.map Value.bool:=by
 intro xs
 induction xs with
 | nil =>
  intro l bs e r
  cases r;cases e;rfl
 | cons x xs ih =>
  intro l bs e r
  cases r with
  | cons r rs =>
   cases r <;> first | (cases e;done) | skip
   obtain ⟨b,hb,rfl⟩:=zn.mp e
   refine gw (ih hb rs ..) ?_;rfl
theorem iter_list {l:Addr}{items:Array Value}{A:Around}{Q:Value->Shared->Prop}{E:Value->Shared->Prop} (hl:s.heap.IsList l items)
  (h:∀ s₂:Shared,s₂={ s with heap:=s.heap.push { cls:=.type "list_iterator",data:=.fields #[.ref l,.int 0 0] } }->(s₂.heap.IsListIter s.heap.objs.size l 0/\s₂.heap.IsList l items)->l≠s.heap.objs.size->Q (.ref s.heap.objs.size) s₂) :
  wpAny (Mo X) A (pyIter (.ref l)) Q E s:=by
 have hlt:l < s.heap.objs.size:=by obtain ⟨_,e,_⟩:=hl;exact yb e
 exact wpAny_pyIter_list hl (h _ rfl ⟨⟨_,ym _ rfl,rfl,rfl⟩,hl.push _⟩ (yj hlt))
theorem range_get (bs:List Bool):(xf bs.length).map (fun i=>(bs[i]?).getD false)=bs:=by
 refine List.ext_getElem (by simp) fun i h1 h2=>?_
 simp [zf h2]
theorem walk_bool {bs:List Bool}:∀ (i:Nat) (v:Value) (s':Shared) (Q':Bool->Shared->Prop) (E':Value->Shared->Prop),(bs.map Value.bool).toArray[i]?=some v->Q' ((bs[i]?).getD false) s'->wpAny (Mo X) A (truthy v) Q' E' s':=by
 intro i v s' Q' E' hP hQ'
 replace hP:=(zv ..)▸(w7 ..)▸hP
 obtain ⟨b,hb',rfl⟩:=zn.mp hP
 replace hQ':=hb'▸hQ'
 exact wpAny_truthy_bool hQ'
theorem sm_all (c:Cn X A d true s μ σ) {v:V}{u:Value} (r:VR X s.heap μ v u):Sm X (Wp X A (yd (.builtin "all") [u])) (biV X.ns .all v σ) (Rl X) s μ:=by
 refine sm_asR r fun i a e0 hm=>?_
 subst e0
 refine sm_onL c hm fun xs l n ho e rr hz=>sm_pick fun w he=>?_
 obtain ⟨bs,hb,rfl⟩:=zn.mp he
 have hl:=bools_at hb rr
 subst hl
 refine c.ok1 (.bool _) fun Q E h=>?_
 have L:s.heap.IsList a (bs.map Value.bool).toArray:=⟨_,e,rfl,_,rfl⟩
 refine call_all_walk (iter_list L fun s₂ e2 st hne=>?_)
 subst e2
 refine ⟨_,_,_,_,_,_,fun i=>(bs[i]?).getD false,rfl,Walks.list (A:=A.in1) (c.rm.handled rfl) _ a hne _,st,fun i v s' Q' E'=>walk_bool i v s' Q' E',fun h' tk hk=>?_⟩
 have:((xf (bs.map Value.bool).toArray.size).all fun i=>(bs[i]?).getD false)=bs.all id:=by
  exact gw (yq ..) (gw (zb ..) (bw (Function.id_comp (fun i=>(bs[i]?).getD false)) (bw (List.all_map ..) (gw (range_get ..) rfl))))
 refine gw (this ..) ?_
 refine h h' tk fun b o eb=>hk b o (fun hm'=>?_) (zz _ eb)
 replace eb:=(zg.mp hm' ..)▸eb
 exact xj _ (yb eb)
theorem sm_any (c:Cn X A d true s μ σ) {v:V}{u:Value} (r:VR X s.heap μ v u):Sm X (Wp X A (yd (.builtin "any") [u])) (biV X.ns .any v σ) (Rl X) s μ:=by
 refine sm_asR r fun i a e0 hm=>?_
 subst e0
 refine sm_onL c hm fun xs l n ho e rr hz=>sm_pick fun w he=>?_
 obtain ⟨bs,hb,rfl⟩:=zn.mp he
 have hl:=bools_at hb rr
 subst hl
 refine c.ok1 (.bool _) fun Q E h=>?_
 have L:s.heap.IsList a (bs.map Value.bool).toArray:=⟨_,e,rfl,_,rfl⟩
 refine call_any_walk (iter_list L fun s₂ e2 st hne=>?_)
 subst e2
 refine ⟨_,_,_,_,_,_,fun i=>(bs[i]?).getD false,rfl,Walks.list (A:=A.in1) (c.rm.handled rfl) _ a hne _,st,fun i v s' Q' E'=>walk_bool i v s' Q' E',fun h' tk hk=>?_⟩
 have:((xf (bs.map Value.bool).toArray.size).any fun i=>(bs[i]?).getD false)=bs.any id:=by
  exact gw (yq ..) (gw (zb ..) (bw (Function.id_comp (fun i=>(bs[i]?).getD false)) (bw (List.any_map ..) (gw (range_get ..) rfl))))
 refine gw (this ..) ?_
 refine h h' tk fun b o eb=>hk b o (fun hm'=>?_) (zz _ eb)
 replace eb:=(zg.mp hm' ..)▸eb
 exact xj _ (yb eb)
theorem newL_ok {xs:List V}{P:PT Value}{rel:Heap->List Addr->V->Value->Prop} (h:xs.length<=lim->Sm X P (.ok (.ref σ.length) (σ++[.list xs])) rel s μ):Sm X P (newL xs σ) rel s μ:=by
 unfold newL
 split
 ·exact h ‹_›
 ·exact Sm.stuck
theorem sm_listOf (c:Cn X A d true s μ σ) {a:Addr}{xs:List V}{l:List Value}{T:String}{n:Nat} (hT:T="list"∨T="tuple") (e:s.heap.get? a=some { cls:=.type T,data:=.seq l.toArray n }) (rr:VRs X s.heap μ xs l) :
  Sm X (Wp X A (yd (.type "list") [.ref a])) (newL xs σ) (Rl X) s μ :=
 newL_ok fun hz=>c.madeL hz fun Q E h=>call_list_seq a hT e rfl rfl (fun h' c' k hD=>h _ h' s.toks c' l (ze _) k hD (rr.mono (fun _ _ e _=>k _ _ e) fun _ _ e=>e)) (by refine gw (yq ..) (bw (rr.length ..) ?_);exact hz)
theorem ERs.at {h:Heap}{kvs:List (List Nat×V)}{l:List (Str×Value)} (r:ERs X h μ kvs l) (j:Nat) (k:Str) (x:Value) (e:l[j]?=some (k,x)):(kvs.map fun p=>V.str p.1)[j]?=some (.str (codes k))/\k.length<=Mine.lim:=by
 have h1:(kvs.map (·.1))[j]?=some (codes k):=by refine gw (r.keys ..) (gw (zv ..) (gw e ?_));rfl
 rw [zv] at h1 ⊢
 obtain ⟨p,hp,q⟩:=zn.mp h1
 refine gw hp (bw q ?_)
 exact ⟨rfl,r.lim _ (yr e)⟩
theorem VRs.of_get {h:Heap}:∀ {xs:List V}{l:List Value},xs.length=l.length->(∀ (j:Nat) (u:Value),l[j]?=some u->∃ x,xs[j]?=some x/\VR X h μ x u)->VRs X h μ xs l
 | [],[],_,_=>.nil
 | [],_::_,e,_=>nomatch e
 | _::_,[],e,_=>nomatch e
 | x::xs,u::l,e,hg=>by
  obtain ⟨y,h1,h2⟩:=hg 0 u rfl
  cases h1
  exact .cons h2 (VRs.of_get (Nat.succ.inj e) fun j w hw=>hg (j + 1) w hw)
theorem keys_vrs {h:Heap}{kvs:List (List Nat×V)}{l:List (Str×Value)}{acc:Array Value} (rr:ERs X h μ kvs l) (hI:ItemsOf (fun i v=>∃ k x,l[i]?=some (k,x)/\(strKind X.prog X.w).is k v=true) acc l.length) (h':Heap):VRs X h' μ (kvs.map fun p=>V.str p.1) acc.toList:=by
 refine VRs.of_get (by refine gw (zb ..) (gw (rr.length ..) (gw (yn ..) ?_));exact hI.1.symm) fun j u hu=>?_
 refine ex2 (hI.2 j u (by refine bw (xh ..) ?_;exact hu)) fun k' x' q_h=>?_;obtain ⟨h1,h2⟩:=q_h
 obtain ⟨h3,h4⟩:=rr.at j k' x' h1
 obtain ⟨tk',rfl⟩:=Value.isStrOf_shape h2
 exact ⟨_,h3,.str _ _ h4⟩
theorem sm_listDict (c:Cn X A d true s μ σ) {i:Nat}{a:Addr}{kvs:List (List Nat×V)} (ho:σ[i]?=some (.dict kvs)) (hm:μ[i]?=some a) :
  Sm X (Wp X A (yd (.type "list") [.ref a])) (newL (kvs.map fun p=>V.str p.1) σ) (Rl X) s μ:=by
 obtain ⟨l,q_h⟩:=(c.dict ho hm);refine an3 q_h fun D rr hz=>?_
 obtain ⟨ep,DA⟩:=D.dictAt
 refine newL_ok fun hl=>c.madeL hl fun Q E h=>PySem.W.kdl_call (PySem.W.kdl_dict (ep:=ep) (c.noSys hm)) (c.rm.handled rfl) DA hz fun h' tk acc c' k hD hI=>?_
 exact h _ h' tk c' acc.toList (ze _) k (by simpa using hD) (keys_vrs rr hI h')
theorem sm_list (c:Cn X A d true s μ σ) {v:V}{u:Value} (r:VR X s.heap μ v u):Sm X (Wp X A (yd (.type "list") [u])) (biV X.ns .list v σ) (Rl X) s μ:=by
 cases r with
 | @ref i a hm =>
  show Sm X _ ((pick (match σ[i]? with | some (.list xs)=>some xs | some (.dict kvs)=>some (kvs.map fun p=>V.str p.1) | none=>none)).bnd newL σ) _ _ _
  rcases ho:σ[i]? with _ | ⟨xs⟩ | ⟨kvs⟩
  ·exact Sm.stuck
  ·refine ex2 (c.list ho hm) fun l n q_h=>?_;refine an3 q_h fun e rr hz=>?_
   exact sm_listOf c (.inl rfl) e rr
  ·exact sm_listDict c ho hm
 | tup e b z rr=>exact sm_listOf c (.inr rfl) e rr
 | _=>exact Sm.stuck
theorem sm_dict (c:Cn X A d true s μ σ) {v:V}{u:Value} (r:VR X s.heap μ v u):Sm X (Wp X A (yd (.type "dict") [u])) (biV X.ns .dict v σ) (Rl X) s μ:=by
 cases r <;> first | exact Sm.stuck | skip
 rename_i i a hm
 refine sm_onD c hm fun kvs l ho D rr hz=>?_
 show Sm X _ (newD kvs σ) _ _ _
 unfold newD
 split
 ·refine Sm.ok fun Q E hQ=>kt_call_dict (c.noSys hm) D hz fun h' hD hs=>?_
  have k:∀ b o,s.heap.get? b=some o->h'.get? b=some o:=fun b o e=>(hs.2 b (yj (yb e))).trans (zz _ e)
  have S1:Step X s μ { s with heap:=h' } μ σ:=Step.grow c k (by show _<=h'.objs.size;refine gw (hs.1 ..) (gw (wf ..) ?_);exact yh _) rfl rfl
  have hno:s.heap.objs.size∉μ:=fun hm=>xj _ (c.hr.lt hm)
  exact hQ _ _ (μ++[s.heap.objs.size]) (S1.adopt c.base hno (ze _) (.dict hD hz (rr.like fun q=>(S1.vrs c.hr q).mono (fun _ _ e _=>e) ext_get))) (.ref (c.newRef _))
 ·exact Sm.stuck
end
end Mine
set_option autoImplicit false
namespace Mine
open PySem PyProof PyProof.Rows
noncomputable abbrev SK:KeyKind:=PyProof.Rows.strKind
noncomputable def ky (x:Keyed):List Nat:=(SK.keyOf x.1).getD []
noncomputable def lk (x y:Keyed):Bool:=SK.blt (ky x) (ky y)
noncomputable def Kd (x:Keyed):Prop:=∃ a,SK.keyOf x.1=some a
noncomputable def mrg (xs ys:List Keyed):List Keyed:=List.merge xs ys fun x y=>!lk y x
noncomputable def Up2 (l:List Keyed):Prop:=l.Pairwise fun x y=>lk y x=false
theorem lk_le {x y z:Keyed} (h:lk y x=false) (g:lk z y=false):lk z x=false:=KeyOrd.kle_trans (O:=SK.toKeyOrd) h g
theorem lk_lt {x y z:Keyed} (h:lk x y=true) (g:lk z y=false):lk x z=true:=KeyOrd.klt_of_klt_of_kle (O:=SK.toKeyOrd) h g
theorem lk_lt' {x y z:Keyed} (h:lk y x=false) (g:lk y z=true):lk x z=true:=KeyOrd.klt_of_kle_of_klt (O:=SK.toKeyOrd) h g
theorem lk_as {x y:Keyed} (h:lk x y=true):lk y x=false:=KeyOrd.klt_asymm (O:=SK.toKeyOrd) h
theorem lk_re (x:Keyed):lk x x=false:=KeyOrd.kle_refl (O:=SK.toKeyOrd) _
theorem mrg_nil (l:List Keyed):mrg l []=l:=List.merge_right ..
theorem nil_mrg (l:List Keyed):mrg [] l=l:=List.nil_merge ..
theorem mrg_l {x y:Keyed} (e:lk y x=false) (l m:List Keyed):mrg (x::l) (y::m)=x::mrg l (y::m):=by
 unfold mrg;rw [List.merge,if_pos (by rw [e];rfl)]
theorem mrg_r {x y:Keyed} (e:lk y x=true) (l m:List Keyed):mrg (x::l) (y::m)=y::mrg (x::l) m:=by
 unfold mrg;rw [List.merge,if_neg (by refine gw e ?_;exact wh)]
theorem mrg_a {d:List Keyed}:∀ {a:List Keyed} (c:List Keyed),(∀ x∈a,∀ y∈d,lk y x=false)->mrg (a++c) d=a++mrg c d
 | [],_,_=>rfl
 | x::a,c,h=>by
  have ih:=mrg_a (d:=d) c fun x' hx=>h x' (zj _ hx)
  cases d with
  | nil=>exact gw (mrg_nil ..) (gw (mrg_nil ..) rfl)
  | cons y d=>exact (mrg_l (h x zh y zh) _ _).trans (congrArg (x::·) ih)
theorem mrg_b {c:List Keyed}:∀ {b:List Keyed} (d:List Keyed),(∀ x∈c,∀ y∈b,lk y x=true)->mrg c (b++d)=b++mrg c d
 | [],_,_=>rfl
 | y::b,d,h=>by
  have ih:=mrg_b (c:=c) d fun x hx y' hy=>h x hx y' (zj _ hy)
  cases c with
  | nil=>exact gw (nil_mrg ..) (gw (nil_mrg ..) rfl)
  | cons x c=>exact (mrg_r (h x zh y zh) _ _).trans (congrArg (y::·) ih)
theorem mrg_z (c d:List Keyed):∀ (n:Nat) (a b:List Keyed),a.length + b.length=n->(∀ x∈a,∀ y∈d,lk y x=false)->(∀ x∈c,∀ y∈b,lk y x=true)->mrg (a++c) (b++d)=mrg a b++mrg c d
 | n,[],b,_,_,h2=>by refine gw (nil_mrg ..) ?_;exact mrg_b d h2
 | n,x::a,[],_,h1,_=>by refine gw (mrg_nil ..) ?_;exact mrg_a c h1
 | n + 1,x::a,y::b,hn,h1,h2=>by
  cases e:lk y x with
  | false=>rw [mrg_l e];exact (mrg_l e _ _).trans (congrArg (x::·) (mrg_z c d n a (y::b) ((j7 _ _).symm.trans hn |> Nat.succ.inj) (fun x' hx=>h1 x' (zj _ hx)) h2))
  | true=>rw [mrg_r e];exact (mrg_r e _ _).trans (congrArg (y::·) (mrg_z c d n (x::a) b (Nat.succ.inj hn) h1 fun x' hx y' hy=>h2 x' hx y' (zj _ hy)))
theorem mrg_za {a b c:List Keyed} (h:∀ x∈c,∀ y∈b,lk y x=true):mrg (a++c) b=mrg a b++c:=by
 have:=mrg_z c [] _ a b rfl (fun _ _ _ h=>nomatch h) h
 rwa [mrg_nil,yi] at this
theorem mrg_zb {a b d:List Keyed} (h:∀ x∈a,∀ y∈d,lk y x=false):mrg a (b++d)=mrg a b++d:=by
 have:=mrg_z [] d _ a b rfl h (fun _ h=>nomatch h)
 rwa [nil_mrg,yi] at this
theorem mrg_perm (a b:List Keyed):(mrg a b).Perm (a++b):=List.merge_perm_append ..
theorem mrg_up {a b:List Keyed} (ha:Up2 a) (hb:Up2 b):Up2 (mrg a b):=by
 have n:∀ {x y:Keyed},(!lk y x)=true↔lk y x=false:=fun {x y}=>by rw [wo]
 exact (List.pairwise_merge (le:=fun x y=>!lk y x) (fun x y z h g=>n.mpr (lk_le (n.mp h) (n.mp g))) (fun x y=>by
  cases h:lk y x
  ·rfl
  ·rw [lk_as h];rfl) a b (ha.imp n.mpr) (hb.imp n.mpr)).imp n.mp
structure Cw where
 prog:Program
 w:World
 A:Around
 E:Value->Shared->Prop
 s:Shared
noncomputable abbrev So:=StateT SortSt Sem
noncomputable def Ws (c:Cw) {α:Type} (m:So α) (Q:α->SortSt->Prop) (st:SortSt):Prop:=wpS (model c.prog c.w) c.A c.E c.s m Q st
noncomputable def nx (c:Cw) {α β:Type} (k:α->So β) (Q:β->SortSt->Prop) (a:α) (st:SortSt):Prop:=Ws c (k a) Q st
section
variable {c:Cw}{α β:Type}{st:SortSt}
theorem ws_bind {m:So α}{k:α->So β}{Q:β->SortSt->Prop} (h:Ws c m (nx c k Q) st):Ws c (m >>= k) Q st:=wpS_bind h
theorem ws_pure {a:α}{Q:α->SortSt->Prop} (h:Q a st):Ws c (pure a) Q st:=wpS_pure h
theorem ws_get {Q:SortSt->SortSt->Prop} (h:Q st st):Ws c get Q st:=wpS_get h
theorem ws_mod {f:SortSt->SortSt}{Q:PUnit->SortSt->Prop} (h:Q ⟨⟩ (f st)):Ws c (modify f) Q st:=wpS_modify h
theorem ws_set {t:SortSt}{Q:PUnit->SortSt->Prop} (h:Q ⟨⟩ t):Ws c (set t) Q st:=by
 unfold Ws wpS;refine gw (StateT.run_set ..) ?_;exact wpAny_pure ⟨rfl,h⟩
theorem ws_rule {r:String}{Q:Unit->SortSt->Prop} (h:Q () st):Ws c (liftM (rule r)) Q st:=wpS_lift (wpAny_rule ⟨rfl,h⟩)
theorem ws_if {p:Prop}{_:Decidable p}{x y:So α}{Q:α->SortSt->Prop} (h1:p->Ws c x Q st) (h2:¬p->Ws c y Q st):Ws c (if p then x else y) Q st:=by
 by_cases h:p
 ·refine gw (if_pos h ..) ?_;exact h1 h
 ·refine gw (if_neg h ..) ?_;exact h2 h
theorem ws_eq {m n:Nat}{x y:So α}{Q:α->SortSt->Prop} (h1:m=n->Ws c x Q st) (h2:¬ m=n->Ws c y Q st):Ws c (if (m == n)=true then x else y) Q st :=
 ws_if (fun e=>h1 (beq_iff_eq.mp e)) fun e=>h2 fun q=>e (beq_iff_eq.mpr q)
theorem ws_elem {arr:Array Keyed}{i:Nat}{x:Keyed}{Q:Keyed->SortSt->Prop} (hx:arr[i]?=some x) (h:Q x st):Ws c (elem' arr i) Q st:=by
 unfold Ws;refine gw (elem'_eq ..) (gw hx ?_);exact wpS_pure h
theorem ws_lt {x y:Keyed}{Q:Option Bool->SortSt->Prop} (hk:kindOf st=oneType') (hx:Kd x) (hy:Kd y) (h:Q (some (lk x y)) st):Ws c (lt' x y) Q st:=by
 obtain ⟨a,ha⟩:=hx
 obtain ⟨b,hb⟩:=hy
 have e:lk x y=SK.blt a b:=by unfold lk ky;refine gw ha (gw hb ?_);rfl
 replace h:=e▸h
 unfold Ws
 refine gw (lt'_eq ..) ?_
 refine wpS_bind (wpS_get ?_)
 refine gw hk (gw (keyLt'_oneType ..) ?_)
 exact wpS_bind (wpS_lift (wpAny_attempt (strKind_oneLt c.prog c.w c.A _ c.s _ _ a b ha hb ⟨rfl,wpS_pure h⟩)))
noncomputable def lp (γ ρ:Type) (I:Nat->γ->SortSt->Prop) (F:γ->SortSt->Prop) (D:ρ->SortSt->Prop) (i:Nat):ForInStep (Option ρ×γ)->SortSt->Prop
 | .done (some o,_),st=>D o st
 | .done (none,c),st=>F c st
 | .yield (none,c),st=>I (i + 1) c st
 | .yield (some _,_),_=>False
theorem ws_for {γ ρ:Type}{a b:Nat}{g:γ}{f:Nat->Option ρ×γ->So (ForInStep (Option ρ×γ))}{k:Option ρ×γ->So α}{Q:α->SortSt->Prop} (I:Nat->γ->SortSt->Prop) (F:γ->SortSt->Prop) (D:ρ->SortSt->Prop) (h:I a g st)
  (hs:∀ i st,a<=i->i < b->∀ g,I i g st->Ws c (f i (none,g)) (lp γ ρ I F D i) st) (he:∀ g st,I (max a b) g st->F g st) (hd:∀ o g st,D o st->Ws c (k (some o,g)) Q st) (hk:∀ st g,F g st->Ws c (k (none,g)) Q st) :
  Ws c (forIn [a:b] ((none,g):Option ρ×γ) f >>= k) Q st:=by
 refine wpS_bind (wpS_mono (wpS_forRange (I:=fun i p st=>p.1=none/\I i p.2 st) (Q:=fun p st=>match p with | (some o,_)=>D o st | (none,g)=>F g st) (fun i p st h1 h2 h3=>?_) (fun p st h3=>?_) ⟨rfl,h⟩) fun p st h3=>?_)
 ·obtain ⟨_,g⟩:=p
  obtain ⟨rfl,h3⟩:=h3
  refine wpS_mono (hs i st h1 h2 g h3) fun r st' h4=>?_
  rcases r with ⟨_ | o,g⟩ | ⟨_ | o,g⟩
  ·exact h4
  ·exact h4
  ·exact ⟨rfl,h4⟩
  ·exact h4.elim
 ·obtain ⟨_,g⟩:=p
  obtain ⟨rfl,h3⟩:=h3
  exact he g st h3
 ·obtain ⟨_ | o,g⟩:=p
  ·exact hk st g h3
  ·exact hd o g st h3
theorem cur2 {α β:Type}{P:α×β->Prop} (h:∀ a b,P (a,b)) (x:α×β):P x:=h x.1 x.2
theorem cur3 {α β γ:Type}{P:α×β×γ->Prop} (h:∀ a b c,P (a,b,c)) (x:α×β×γ):P x:=h x.1 x.2.1 x.2.2
theorem cur4 {α β γ δ:Type}{P:α×β×γ×δ->Prop} (h:∀ a b c d,P (a,b,c,d)) (x:α×β×γ×δ):P x:=h x.1 x.2.1 x.2.2.1 x.2.2.2
theorem cur5 {α β γ δ ε:Type}{P:α×β×γ×δ×ε->Prop} (h:∀ a b c d e,P (a,b,c,d,e)) (x:α×β×γ×δ×ε):P x:=h x.1 x.2.1 x.2.2.1 x.2.2.2.1 x.2.2.2.2
theorem cur6 {α β γ δ ε ζ:Type}{P:α×β×γ×δ×ε×ζ->Prop} (h:∀ a b c d e f,P (a,b,c,d,e,f)) (x:α×β×γ×δ×ε×ζ):P x:=h x.1 x.2.1 x.2.2.1 x.2.2.2.1 x.2.2.2.2.1 x.2.2.2.2.2
end
end Mine
namespace Mine
open PySem PyProof PyProof.Rows
structure Sk (xs:Array Keyed) (pn:Array (Nat×Nat×Nat)) (st:SortSt):Prop where
 kind:kindOf st=oneType'
 failed:failedOf st=none
 arr:arrOf st=xs
 pend:pendingOf st=pn
noncomputable def gal:Bool->Keyed->Array Keyed->Nat->Nat->Nat->So (Option Nat):=sortPriv% PySem.Builtin.gallop
noncomputable def mLo:Array Keyed->Array Keyed->So (Array Keyed):=sortPriv% PySem.Builtin.mergeLo
noncomputable def mHi:Array Keyed->Array Keyed->So (Array Keyed):=sortPriv% PySem.Builtin.mergeHi
section
variable {c:Cw}{α β:Type}{st:SortSt}
theorem mid_lt {a b:Nat} (h:a < b):a<=a + (b - a) / 2/\a + (b - a) / 2 < b :=
 ⟨zp _ _,Nat.lt_of_lt_of_eq (ur (Nat.div_lt_self (w0 h) (yo 1)) a) (vi (z9 h))⟩
theorem w_bin {n:Nat}{f:Nat->Option β×Nat×Nat->So (ForInStep (Option β×Nat×Nat))}{k:Option β×Nat×Nat->So α}{Q:α->SortSt->Prop} (m:Nat->Nat->Nat) (hm:∀ {a b},a < b->a<=m a b/\m a b < b) (p:Nat->Bool) (hp:∀ i j,i<=j->j < n->p j=true->p i=true)
  (hf:∀ x lo hi (R:ForInStep (Option β×Nat×Nat)->SortSt->Prop),(¬ lo < hi->R (.done (none,lo,hi)) st)->(lo < hi->m lo hi < n->(p (m lo hi)=true->R (.yield (none,m lo hi + 1,hi)) st)/\(p (m lo hi)=false->R (.yield (none,lo,m lo hi)) st))->hi<=n->Ws c (f x (none,lo,hi)) R st)
  {lo hi:Nat} (h1:lo<=hi) (h2:hi<=n) (h3:∀ i,i < lo->p i=true) (h4:∀ i,hi<=i->i < n->p i=false)
  (h:∀ r,r<=n->(∀ i,i < r->p i=true)->(∀ i,r<=i->i < n->p i=false)->Ws c (k (none,r,r)) Q st):Ws c (forIn [0:n] ((none,lo,hi):Option β×Nat×Nat) f >>= k) Q st:=by
 have out:∀ {a b:Nat},b<=a->a<=b->b<=n->(∀ i,i < a->p i=true)->(∀ i,b<=i->i < n->p i=false)->Ws c (k (none,a,b)) Q st:=fun g0 g1 g2 g3 g4=>by
  obtain rfl:=vd g1 g0
  exact h _ g2 g3 g4
 refine ws_for (I:=fun x g st'=>st'=st/\g.1<=g.2/\g.2<=n/\g.2 + x<=n + g.1/\(∀ i,i < g.1->p i=true)/\∀ i,g.2<=i->i < n->p i=false) (F:=fun g st'=>st'=st/\Ws c (k (none,g)) Q st) (D:=fun _ _=>False) ⟨rfl,h1,h2,f9 h2,h3,h4⟩ ?_ ?_ (fun _ _ _ e=>e.elim) ?_
 ·rintro x st' - hx g ⟨rfl,g1,g2,g3,g4,g5⟩
  refine hf x g.1 g.2 _ (fun e=>⟨rfl,out (uj e) g1 g2 g4 g5⟩) (fun e e0=>?_) g2
  obtain ⟨m1,m2⟩:=hm e
  refine ⟨fun ep=>⟨rfl,m2,g2,?_,fun i hi=>hp i _ (z4 hi) e0 ep,g5⟩,fun ep=>⟨rfl,m1,z9 e0,?_,g4,fun i h1 h2=>?_⟩⟩
  ·exact za (zq g3) (zq (yl m1 n))
  ·exact za (xq _ x▸yz m2 x) g3
  ·cases e:p i
   ·rfl
   ·replace ep:=(hp _ i h1 h2 e ..)▸ep;exact ep
 ·rintro g st' ⟨rfl,g1,g2,g3,g4,g5⟩
  replace g3:=(vx g.2 ..)▸(kf (z7 n) ..)▸g3
  exact ⟨rfl,out (ku g3) g1 g2 g4 g5⟩
 ·rintro st' g ⟨rfl,e⟩;exact e
theorem w_exp {n mx:Nat}{f:Nat->Option β×Nat×Nat->So (ForInStep (Option β×Nat×Nat))}{k:Option β×Nat×Nat->So α}{Q:α->SortSt->Prop} (q:Nat->Bool)
  (hf:∀ x a o (R:ForInStep (Option β×Nat×Nat)->SortSt->Prop),(¬ o < mx->R (.done (none,a,o)) st)->(o < mx->(q o=false->R (.done (none,a,o)) st)/\(q o=true->R (.yield (none,o,2 * o + 1)) st))->Ws c (f x (none,a,o)) R st)
  (h0:q 0=true) (h1:0 < mx) (h2:mx<=n) (h:∀ a o,a < min o mx->min o mx<=mx->q a=true->(min o mx=mx∨q (min o mx)=false)->Ws c (k (none,a,o)) Q st) :
  Ws c (forIn [0:n] ((none,0,1):Option β×Nat×Nat) f >>= k) Q st:=by
 have o1:∀ {a o},a < mx->a < o->q a=true->¬ o < mx->Ws c (k (none,a,o)) Q st:=fun {a o} g2 g1 g3 e=>by
  have e:=uf (uj e)
  exact h a o (by refine gw e ?_;exact g2) (ke ..) g3 (.inl e)
 refine ws_for (I:=fun x g st'=>st'=st/\g.1 < g.2/\x < g.2/\g.1 < mx/\q g.1=true) (F:=fun g st'=>st'=st/\Ws c (k (none,g)) Q st) (D:=fun _ _=>False) ⟨rfl,Nat.zero_lt_one,Nat.zero_lt_one,h1,h0⟩ ?_ ?_ (fun _ _ _ e=>e.elim) ?_
 ·rintro x st' - hx g ⟨rfl,g1,g2,g3,g4⟩
  have lt2:g.2 < 2 * g.2 + 1:=gv (Nat.le_mul_of_pos_left _ (ja 1))
  refine hf x g.1 g.2 _ (fun e=>⟨rfl,o1 g3 g1 g4 e⟩) fun e=>⟨fun e'=>⟨rfl,?_⟩,fun e'=>⟨rfl,lt2,yk g2 lt2,e,e'⟩⟩
  have m:=yf (z9 e)
  exact h g.1 g.2 (by refine gw m ?_;exact g1) (ke ..) g4 (.inr (by refine gw m ?_;exact e'))
 ·rintro g st' ⟨rfl,g1,g2,g3,g4⟩
  replace g2:=(kf (z7 n) ..)▸g2
  exact ⟨rfl,o1 g3 g1 g4 (yc.mpr (za h2 (z9 g2)))⟩
 ·rintro st' g ⟨rfl,e⟩;exact e
noncomputable def bey (l:Bool) (k x:Keyed):Bool:=if l=true then lk x k else !lk k x
theorem w_two {arr:Array Keyed}{i:Nat}{l:Bool}{k x:Keyed}{f g:Keyed->So (Option Bool)}{Q:Option Bool->SortSt->Prop} (hk:kindOf st=oneType')
  (hx:arr[i]?=some x) (hx':Kd x) (hy:Kd k) (hf:f x=lt' x k) (hg:g x=(do let r ← lt' k x;pure (r.map fun b=>!b))) (h:Q (some (bey l k x)) st) :
  Ws c (do let x ← elem' arr i;if l=true then f x else g x) Q st:=by
 refine ws_bind (ws_elem hx ?_)
 cases l
 ·show Ws _ (g x) _ _
  refine gw hg ?_;exact ws_bind (ws_lt hk hy hx' (ws_pure h))
 ·show Ws _ (f x) _ _
  refine gw hf ?_;exact ws_lt hk hx' hy h
end
section
variable {c:Cw}{st:SortSt}{l:Bool}{k:Keyed}{arr:Array Keyed}{base n hint:Nat}{Q:Option Nat->SortSt->Prop}
theorem w_gal (hk:kindOf st=oneType') (hy:Kd k) (p:Nat->Bool) (hp:∀ i,i < n->∃ x,arr[base + i]?=some x/\Kd x/\bey l k x=p i) (hm:∀ i j,i<=j->j < n->p j=true->p i=true) (hh:hint < n)
  (h:∀ r,r<=n->(∀ i,i < r->p i=true)->(∀ i,r<=i->i < n->p i=false)->Q (some r) st):Ws c (gal l k arr base n hint) Q st:=by
 have hb:∀ {i:Nat}{f g:Keyed->So (Option Bool)}{Q:Option Bool->SortSt->Prop},i < n->(∀ x,f x=lt' x k)->(∀ x,g x=(do let r ← lt' k x;pure (r.map fun b=>!b)))->Q (some (p i)) st ->
   Ws c (do let x ← elem' arr (base + i);if l=true then f x else g x) Q st:=fun hi hf hg hq=>by
  obtain ⟨x,q_h⟩:=(hp _ hi);refine an3 q_h fun hx kx e=>?_
  exact w_two hk hx kx hy (hf x) (hg x) (e▸hq)
 have hm':∀ i j,i<=j->j < n->p i=false->p j=false:=fun i j h1 h2 h3=>by
  cases e:p j
  ·rfl
  ·replace h3:=(hm i j h1 h2 e ..)▸h3;exact h3
 have hn:hint + (n - hint)=n:=vi (z9 hh)
 refine ws_bind (hb hh (fun _=>rfl) (fun _=>rfl) (ws_if (fun hr=>?_) fun hr=>?_))
 ·refine w_exp (mx:=n - hint) (fun o=>p (hint + o)) (fun x a o R h1 h2=>ws_if (p:=o ≥ n - hint) (fun e=>ws_pure (h1 (yc.mpr e))) fun e=>ws_bind (hb (i:=hint + o) (zag (xd e)) (fun _=>rfl) (fun _=>rfl) (ws_if (p:=(!p (hint + o))=true)
   (fun e2=>ws_pure ((h2 (xd e)).1 (wo _▸e2))) fun e2=>ws_pure ((h2 (xd e)).2 (Bool.not_eq_false _▸wo _▸e2))))) hr (w0 hh) (wc ..) fun a o g1 g2 g3 g4=>?_
  refine w_bin (lo:=hint + a + 1) (hi:=hint + min o (n - hint)) _ mid_lt p hm (fun x lo hi R h1 h2 h3=>ws_if (p:=lo ≥ hi) (fun e=>ws_pure (h1 (yc.mpr e))) fun e=>?_) (ur g1 hint) (za (yl g2 hint) (ya hn)) (fun i hi=>hm i (hint + a) (z4 hi) (zag (zm g1 g2)) g3) (fun i h1 h2=>?_) fun r h1 h2 h3=>ws_pure (h r h1 h2 h3)
  ·have e':=xd e
   have el:=zm (mid_lt e').2 h3
   exact ws_bind (hb el (fun _=>rfl) (fun _=>rfl) (ws_if (p:=p (lo + (hi - lo) / 2)=true) (fun e2=>ws_pure ((h2 e' el).1 e2)) fun e2=>ws_pure ((h2 e' el).2 (we.mpr e2))))
  ·rcases g4 with g | g
   ·replace h1:=hn▸g▸h1
    exact absurd h2 (yc.mpr h1)
   ·exact hm' _ i h1 h2 g
 ·have hr':p hint=false:=we.mpr hr
  refine w_exp (mx:=hint + 1) (fun o=>!p (hint - o)) (fun x a o R h1 h2=>ws_if (p:=o ≥ hint + 1) (fun e=>ws_pure (h1 (yc.mpr e))) fun e=>ws_bind (hb (i:=hint - o) (yk (wc ..) hh) (fun _=>rfl) (fun _=>rfl) (ws_if (p:=p (hint - o)=true)
   (fun e2=>ws_pure ((h2 (xd e)).1 (by refine gw e2 ?_;rfl))) fun e2=>ws_pure ((h2 (xd e)).2 (by refine gw (we.mpr e2 ..) ?_;rfl))))) (by show (!p (hint - 0))=true;refine gw (jw ..) (gw hr' ?_);rfl) (ja _) hh fun a o g1 g2 g3 g4=>?_
  have g3:p (hint - a)=false:=wo _▸g3
  refine w_bin (lo:=hint + 1 - min o (hint + 1)) (hi:=hint - a) _ mid_lt p hm (fun x lo hi R h1 h2 h3=>ws_if (p:=lo ≥ hi) (fun e=>ws_pure (h1 (yc.mpr e))) fun e=>?_) (Nat.succ_sub_succ hint a▸Nat.sub_le_sub_left g1 (hint + 1)) (za (wc ..) (z9 hh)) (fun i hi=>?_) (fun i h1 h2=>hm' (hint - a) i h1 h2 g3) fun r h1 h2 h3=>ws_pure (h r h1 h2 h3)
  ·have e':=xd e
   have el:=zm (mid_lt e').2 h3
   exact ws_bind (hb el (fun _=>rfl) (fun _=>rfl) (ws_if (p:=p (lo + (hi - lo) / 2)=true) (fun e2=>ws_pure ((h2 e' el).1 e2)) fun e2=>ws_pure ((h2 e' el).2 (we.mpr e2))))
  ·rcases g4 with g | g
   ·replace hi:=(xv ..)▸g▸hi
    exact absurd hi (y5 i)
   ·exact hm i _ (kg (z4 (Nat.add_lt_of_lt_sub hi))) (yk (wc ..) hh) (by cases e:p (hint - min o (hint + 1)) with | true=>rfl | false=>replace g:=e▸g;exact nomatch g)
structure Rn (arr:Array Keyed) (base n:Nat) (Z:List Keyed):Prop where
 z:(arr.toList.drop base).take n=Z
 l:Z.length=n
 k:∀ x∈Z,Kd x
 u:Up2 Z
theorem Rn.at {Z:List Keyed} (h:Rn arr base n Z) {i:Nat} (hi:i < n):∃ x,arr[base + i]?=some x/\Kd x/\Z[i]?=some x:=by
 obtain ⟨x,e⟩:∃ x,Z[i]?=some x:=⟨_,zf (h.l.symm▸hi)⟩
 refine ⟨x,?_,h.k _ (yr e),e⟩
 exact bw (xh ..) (bw (gl ..) (bw (wg hi ..) (gw (h.z ..) (gw e rfl))))
theorem up_at {Z:List Keyed} (h:Up2 Z) {i j:Nat}{x y:Keyed} (hij:i<=j) (hx:Z[i]?=some x) (hy:Z[j]?=some y):lk y x=false:=by
 obtain ⟨h1,rfl⟩:=zc.mp hx
 obtain ⟨h2,rfl⟩:=zc.mp hy
 rcases vz hij with h' | rfl
 ·exact kr.mp h i j h1 h2 h'
 ·exact lk_re _
theorem mem_tk {Z:List Keyed}{r:Nat}{x:Keyed} (h:x∈Z.take r):∃ i:Nat,i < r/\Z[i]?=some x:=by
 obtain ⟨i,hi⟩:=u8.mp h
 replace hi:=(List.getElem?_take ..)▸hi
 split at hi
 ·exact ⟨i,‹_›,hi⟩
 ·cases hi
theorem mem_dr {Z:List Keyed}{r:Nat}{x:Keyed} (h:x∈Z.drop r):∃ i:Nat,r<=i/\Z[i]?=some x:=by
 obtain ⟨i,hi⟩:=u8.mp h
 replace hi:=(gl ..)▸hi
 exact ⟨r + i,zp ..,hi⟩
theorem w_galB {Z:List Keyed} (hr:Rn arr base n Z) (hk:kindOf st=oneType') (hy:Kd k) (hh:hint < n) (up:∀ x y,lk y x=false->bey l k y=true->bey l k x=true)
  (h:∀ r,r<=n->(∀ x∈Z.take r,bey l k x=true)->(∀ x∈Z.drop r,bey l k x=false)->Q (some r) st):Ws c (gal l k arr base n hint) Q st:=by
 refine w_gal hk hy (fun i=>(Z[i]?).any (bey l k)) (fun i hi=>?_) (fun i j h1 h2 h3=>?_) hh fun r h0 h1 h2=>h r h0 (fun x hx=>?_) fun x hx=>?_
 ·obtain ⟨x,q_h⟩:=(hr.at hi);refine an3 q_h fun hx kx e=>?_
  exact ⟨x,hx,kx,by refine gw e ?_;rfl⟩
 ·obtain ⟨x,q_h⟩:=(hr.at (yk h1 h2));refine an3 q_h fun _ _ hx=>?_
  obtain ⟨y,q_h⟩:=(hr.at h2);refine an3 q_h fun _ _ hy=>?_
  replace h3:=hy▸h3
  refine gw hx ?_
  exact up x y (up_at hr.u h1 hx hy) h3
 ·obtain ⟨i,hi,e⟩:=mem_tk hx
  have:=h1 i hi
  replace this:=e▸this;exact this
 ·obtain ⟨i,hi,e⟩:=mem_dr hx
  have:=h2 i hi (hr.l▸(zc.mp e).1)
  replace this:=e▸this;exact this
theorem w_galR {Z:List Keyed} (hr:Rn arr base n Z) (hk:kindOf st=oneType') (hy:Kd k) (hh:hint < n)
  (h:∀ r,r<=n->(∀ x∈Z.take r,lk k x=false)->(∀ x∈Z.drop r,lk k x=true)->Q (some r) st):Ws c (gal false k arr base n hint) Q st :=
 w_galB hr hk hy hh (fun x y e e'=>by
  have e':(!lk k y)=true:=e'
  show (!lk k x)=true
  rw [wo] at e' ⊢
  exact lk_le e e') fun r h0 h1 h2=>h r h0 (fun x hx=>wo _▸h1 x hx) fun x hx=>Bool.not_eq_false' _▸h2 x hx
theorem w_galL {Z:List Keyed} (hr:Rn arr base n Z) (hk:kindOf st=oneType') (hy:Kd k) (hh:hint < n)
  (h:∀ r,r<=n->(∀ x∈Z.take r,lk x k=true)->(∀ x∈Z.drop r,lk x k=false)->Q (some r) st):Ws c (gal true k arr base n hint) Q st :=
 w_galB hr hk hy hh (fun x y e e'=>lk_lt' e e') h
end
end Mine
namespace Mine
open PySem PyProof PyProof.Rows
structure Mg (a b:Array Keyed):Prop where
 ka:∀ x∈a.toList,Kd x
 kb:∀ x∈b.toList,Kd x
 ua:Up2 a.toList
 ub:Up2 b.toList
 first:∀ x∈a.toList,∀ y,b[0]?=some y->lk y x=true
 last:∀ x,a[a.size - 1]?=some x->∀ y∈b.toList,lk y x=true
 pa:0 < a.size
 pb:0 < b.size
section
variable {a b:Array Keyed}{L:List Keyed}{out:Array Keyed}{ia ib k:Nat}{x y:Keyed}
theorem at_lt {l:Array Keyed}{i:Nat} (kd:∀ x∈l.toList,Kd x) (h:i < l.size):∃ x,l[i]?=some x/\Kd x:=⟨_,k7 h,kd _ (Array.getElem_mem_toList h)⟩
theorem drop_at {l:Array Keyed}{i:Nat}{x:Keyed} (h:l[i]?=some x):l.toList.drop i=x::l.toList.drop (i + 1):=by
 replace h:=(xh ..)▸h
 obtain ⟨h1,rfl⟩:=zc.mp h
 exact y8 h1
theorem ext_to (l:Array Keyed) (i k:Nat):(l.extract i (i + k)).toList=(l.toList.drop i).take k:=by
 exact gw (kh ..) (gw (v7 ..) (gw (xk ..) rfl))
theorem ext_end (l:Array Keyed) (i:Nat):(l.extract i l.size).toList=l.toList.drop i:=by
 refine gw (kh ..) (gw (v7 ..) ?_)
 exact y9 (by refine gw (w5 ..) (gw (yn ..) ?_);exact ze _)
noncomputable def Pm (a b:Array Keyed) (L:List Keyed) (out:Array Keyed) (ia ib:Nat):Prop:=out.toList++mrg (a.toList.drop ia) (b.toList.drop ib)=L
theorem Pm.ta (h:Pm a b L out ia ib) (hx:a[ia]?=some x) (hy:b[ib]?=some y) (e:lk y x=false):Pm a b L (out.push x) (ia + 1) ib:=by
 unfold Pm at *
 replace h:=(drop_at hy ..)▸(mrg_l e ..)▸(drop_at hy ..)▸(drop_at hx ..)▸h
 refine bw h (gw (u0 ..) (gw (zk ..) ?_));rfl
theorem Pm.tb (h:Pm a b L out ia ib) (hx:a[ia]?=some x) (hy:b[ib]?=some y) (e:lk y x=true):Pm a b L (out.push y) ia (ib + 1):=by
 unfold Pm at *
 replace h:=(drop_at hx ..)▸(mrg_r e ..)▸(drop_at hy ..)▸(drop_at hx ..)▸h
 refine bw h (gw (u0 ..) (gw (zk ..) ?_));rfl
theorem up_hd {l:Array Keyed}{i:Nat} (u:Up2 l.toList) (h:l[i]?=some x):∀ y∈l.toList.drop i,lk y x=false:=fun y hy=>by
 have u:=List.Pairwise.drop (i:=i) u
 rw [drop_at h] at u hy
 rcases zy.mp hy with rfl | hy
 ·exact lk_re _
 ·exact (jc.mp u).1 y hy
theorem Pm.as (h:Pm a b L out ia ib) (ub:Up2 b.toList) (hy:b[ib]?=some y) (hk:∀ x∈(a.toList.drop ia).take k,lk y x=false):Pm a b L (out++a.extract ia (ia + k)) (ia + k) ib:=by
 unfold Pm at *
 replace h:=(gi ..)▸(mrg_a _ fun x hx z hz=>lk_le (hk x hx) (up_hd ub hy z hz))▸(z6 k (a.toList.drop ia) ..)▸h
 refine gw (xi ..) (gw (ext_to ..) (gw (zk ..) ?_));exact h
theorem Pm.bs (h:Pm a b L out ia ib) (ua:Up2 a.toList) (hx:a[ia]?=some x) (hk:∀ y∈(b.toList.drop ib).take k,lk y x=true):Pm a b L (out++b.extract ib (ib + k)) ia (ib + k):=by
 unfold Pm at *
 replace h:=(gi ..)▸(mrg_b _ fun z hz y hy=>lk_lt (hk y hy) (up_hd ua hx z hz))▸(z6 k (b.toList.drop ib) ..)▸h
 refine gw (xi ..) (gw (ext_to ..) (gw (zk ..) ?_));exact h
theorem drop_all {l:Array Keyed}{i:Nat} (e:i=l.size):l.toList.drop i=[]:=vt (by refine gw (yn ..) (gw e ?_);exact ze _)
theorem Pm.doneA (h:Pm a b L out ia ib) (e:ia=a.size):(out++a.extract ia a.size++b.extract ib b.size).toList=L:=by
 unfold Pm at h
 replace h:=(nil_mrg ..)▸(drop_all e ..)▸h
 refine gw (xi ..) (gw (xi ..) (gw (ext_end ..) (gw (ext_end ..) (gw (drop_all e ..) (gw (yi ..) ?_)))));exact h
theorem Pm.doneB (h:Pm a b L out ia ib) (e:ib=b.size):(out++a.extract ia a.size++b.extract ib b.size).toList=L:=by
 unfold Pm at h
 replace h:=(mrg_nil ..)▸(drop_all e ..)▸h
 refine gw (xi ..) (gw (xi ..) (gw (ext_end ..) (gw (ext_end ..) (gw (drop_all e ..) (gw (yi ..) ?_)))));exact h
theorem Pm.lastA (h:Pm a b L out ia ib) (g:Mg a b) (e:ia + 1=a.size):(out++b.extract ib b.size++a.extract ia a.size).toList=L:=by
 obtain ⟨x,hx,-⟩:=at_lt g.ka (i:=ia) (e▸yo ia)
 unfold Pm at h
 have hb:=mrg_b (c:=[x]) (b:=b.toList.drop ib) [] fun z hz y hy=>by refine gw (zg.mp hz ..) ?_;exact g.last x (e▸hx) y (w9 hy)
 replace hb:=(mrg_nil ..)▸(yi ..)▸hb
 replace h:=hb▸(drop_all e ..)▸(drop_at hx ..)▸h
 refine gw (xi ..) (gw (xi ..) (gw (ext_end ..) (gw (ext_end ..) (gw (drop_at hx ..) (gw (drop_all e ..) (gw (zk ..) ?_))))));exact h
theorem Rn.dr {l:Array Keyed} (kd:∀ x∈l.toList,Kd x) (u:Up2 l.toList) (i:Nat):Rn l i (l.size - i) (l.toList.drop i):=by
 have e:(l.toList.drop i).length=l.size - i:=by exact gw (w5 ..) (gw (yn ..) rfl)
 exact ⟨y9 (ya e),e,fun x hx=>kd x (w9 hx),u.drop⟩
end
structure Mc where
 a:Array Keyed
 b:Array Keyed
 xs:Array Keyed
 pn:Array (Nat×Nat×Nat)
noncomputable def Mc.L (m:Mc):List Keyed:=mrg m.a.toList m.b.toList
noncomputable def Dn (m:Mc) (o:Array Keyed) (st:SortSt):Prop:=Sk m.xs m.pn st/\o.toList=m.L
structure Lv (m:Mc) (x:Nat) (out:Array Keyed) (ia ib:Nat) (st:SortSt):Prop where
 pm:Pm m.a m.b m.L out ia ib
 ha:ia + 1 < m.a.size
 hb:ib < m.b.size
 hx:x<=ia + ib
 sk:Sk m.xs m.pn st
noncomputable def up1 (x:Nat):Nat->Nat
 | 0=>x
 | _ + 1=>x + 1
theorem up1_ge (x:Nat):∀ y,x<=up1 x y
 | 0=>ze _
 | _ + 1=>yh _
theorem up1_pos:∀ {y:Nat},0 < y->∀ x,up1 x y=x + 1
 | _ + 1,_,_=>rfl
theorem Lv.le {m:Mc}{x:Nat}{out:Array Keyed}{ia ib y:Nat}{st:SortSt} (v:Lv m (up1 x y) out ia ib st):x<=ia + ib:=za (up1_ge x y) v.hx
section
variable {c:Cw}{α:Type}{st:SortSt}
theorem ws_both {J:Nat->So α}{p:Prop}{_:Decidable p}{m1 m2:Nat}{Q:α->SortSt->Prop} (h:∀ m,Ws c (J m) Q st):Ws c (if p then J m1 else J m2) Q st:=ws_if (fun _=>h m1) fun _=>h m2
theorem ws_jp {β γ:Type}{J:β->γ->So α}{p:Prop}{_:Decidable p}{x:So α}{o:β}{i:γ}{Q:α->SortSt->Prop} (C:β->γ->Prop) (h:∀ o i,C o i->Ws c (J o i) Q st)
  (hy:¬p->C o i) (hx:(∀ o i,C o i->Ws c (J o i) Q st)->p->Ws c x Q st):Ws c (if p then x else J o i) Q st:=ws_if (hx h) fun e=>h _ _ (hy e)
theorem lt_ne {m n:Nat} (h:m < n) (e:¬ m + 1=n):m + 1 < n:=yy h e
theorem w_lo {m:Mc} (g:Mg m.a m.b) {Q:Array Keyed->SortSt->Prop} (hs:Sk m.xs m.pn st) (h:∀ r st',Dn m r st'->Q r st'):Ws c (mLo m.a m.b) Q st:=by
 refine ws_bind (ws_rule ?_)
 obtain ⟨x0,hx0,kx0⟩:=at_lt g.ka g.pa
 obtain ⟨y0,hy0,ky0⟩:=at_lt g.kb g.pb
 have p0:Pm m.a m.b m.L #[y0] 0 1:=Pm.tb (out:=#[]) (ib:=0) rfl hx0 hy0 (g.first x0 (zap.mpr (Array.mem_of_getElem? hx0)) _ hy0)
 refine ws_bind (ws_elem hy0 (ws_eq (m:=1) (fun e=>ws_pure (h _ _ ⟨hs,p0.doneB e⟩)) fun e1=>ws_eq (m:=0 + 1) (fun e=>ws_pure (h _ _ ⟨hs,p0.lastA g e⟩)) fun e2=>ws_bind (ws_get ?_)))
 refine ws_for (I:=fun x g st=>Lv m x g.1 g.2.1 g.2.2.1 st) (F:=fun _ _=>False) (D:=Dn m) ⟨p0,lt_ne g.pa e2,lt_ne g.pb e1,z7 _,hs⟩ (fun x st _ _=>cur4 fun out ia ib mg v=>?_) ?_ (fun o g st d=>ws_pure (h o st d)) (fun _ _ e=>e.elim)
 ·refine ws_for (I:=fun y g st=>Lv m (up1 x y) g.1 g.2.1 g.2.2.1 st) (F:=fun g st=>Lv m (x + 1) g.1 g.2.1 g.2.2.1 st) (D:=Dn m) v (fun y st _ _=>cur5 fun out ia ib ac bc v=>?_) ?_ (fun o g st d=>ws_pure d) (fun st=>cur5 fun out ia ib ac bc v=>?_)
  ·obtain ⟨p,hp,kp⟩:=at_lt g.ka (xe v.ha)
   obtain ⟨q,hq,kq⟩:=at_lt g.kb v.hb
   refine ws_bind (ws_elem hq (ws_bind (ws_elem hp (ws_bind (ws_lt v.sk.kind kq kp (ws_if (fun e=>ws_bind (ws_elem hq ?_)) fun e=>ws_bind (ws_elem hp ?_)))))))
   ·have v':=v.pm.tb hp hq e
    refine ws_eq (m:=ib + 1) (fun e=>ws_pure ⟨v.sk,v'.doneB e⟩) fun e=>?_
    have w:Lv m (x + 1) (out.push q) ia (ib + 1) st:=⟨v',v.ha,lt_ne v.hb e,zq v.le,v.sk⟩
    exact ws_if (fun _=>ws_pure w) fun _=>ws_pure w
   ·have v':=v.pm.ta hp hq (we.mpr e)
    refine ws_eq (m:=ia + 1 + 1) (fun e=>ws_pure ⟨v.sk,v'.lastA g e⟩) fun e=>?_
    have w:Lv m (x + 1) (out.push p) (ia + 1) ib st:=⟨v',lt_ne v.ha e,v.hb,j7 ia ib▸zq v.le,v.sk⟩
    exact ws_if (fun _=>ws_pure w) fun _=>ws_pure w
  ·exact fun _ _ v=>up1_pos (zm (Nat.add_pos_left g.pa _) (uk ..)) x▸v
  ·refine ws_bind (ws_rule ?_)
   refine ws_for (I:=fun _ g st=>Lv m (x + 1) g.1 g.2.1 g.2.2.1 st) (F:=fun g st=>Lv m (x + 1) g.1 g.2.1 g.2.2.1 st) (D:=Dn m) v (fun y st _ _=>cur6 fun out ia ib mg ac bc v=>?_) (fun _ _ v=>v) (fun o g st d=>ws_pure d) (fun st=>cur6 fun out ia ib mg ac bc v=>?_)
   ·extract_lets -underBinder s1 o1 s2 i1 s3 b1 s4 m1 s5 a1 c1 jp
    refine ws_both (J:=jp ()) fun mm=>?_
    obtain ⟨q,hq,kq⟩:=at_lt g.kb v.hb
    have hai:=xe v.ha
    refine ws_bind (ws_mod (ws_bind (ws_elem hq (ws_bind (w_galR (Rn.dr g.ka g.ua ia) v.sk.kind kq (w0 hai) fun k hk h1 h2=>?_)))))
    have pk:=v.pm.as g.ub hq h1
    replace h2:=(gi ..)▸h2
    dsimp -zeta only [nx]
    extract_lets -underBinder ac jp2 o2 i2
    refine ws_jp (J:=jp2 ()) (fun o i=>Lv m (x + 1) o i ib st/\∀ p∈m.a.toList.drop i,lk q p=true) (fun o i ⟨v,hp⟩=>?_) (fun e=>?_) fun H _=>?_
    ·obtain ⟨p,ep,kp⟩:=at_lt g.ka (xe v.ha)
     have pb:=v.pm.tb ep hq (hp p (drop_at ep▸zh))
     refine ws_bind (ws_elem hq (ws_eq (m:=ib + 1) (fun e=>ws_pure ⟨⟨v.sk.1,v.sk.2,v.sk.3,v.sk.4⟩,pb.doneB e⟩) fun e=>?_))
     have hb:=lt_ne v.hb e
     refine ws_bind (ws_elem ep (ws_bind (w_galL (Rn.dr g.kb g.ub (ib + 1)) v.sk.kind kp (w0 hb) fun k hk h1 h2=>?_)))
     have pk:=pb.bs g.ua ep h1
     replace h2:=(gi ..)▸h2
     dsimp -zeta only [nx]
     extract_lets -underBinder bc jp3 o3 i3
     refine ws_jp (J:=jp3 ()) (fun o j=>Pm m.a m.b m.L o i j/\j < m.b.size/\ib < j/\∀ y∈m.b.toList.drop j,lk y p=false) (fun o j ⟨u1,u2,u3,u4⟩=>?_) (fun e=>?_) fun H _=>?_
     ·obtain ⟨y,hy,-⟩:=at_lt g.kb u2
      have pa:=u1.ta ep hy (u4 y (drop_at hy▸zh))
      refine ws_bind (ws_elem ep (ws_eq (m:=i + 1 + 1) (fun e=>ws_pure ⟨⟨v.sk.1,v.sk.2,v.sk.3,v.sk.4⟩,pa.lastA g e⟩) fun e=>?_))
      have w:∀ {st':SortSt},Sk m.xs m.pn st'->Lv m (x + 1) (o.push p) (i + 1) j st':=fun sk=>⟨pa,lt_ne v.ha e,u2,za v.hx (xc (yh i) (z9 u3)),sk⟩
      exact ws_if (fun _=>ws_pure (w ⟨v.sk.1,v.sk.2,v.sk.3,v.sk.4⟩)) fun _=>ws_pure (w ⟨v.sk.1,v.sk.2,v.sk.3,v.sk.4⟩)
     ·obtain rfl:k=0:=uw e
      exact ⟨pb,hb,yo _,h2⟩
     ·exact ws_eq (m:=ib + 1 + k) (fun e=>ws_pure ⟨⟨v.sk.1,v.sk.2,v.sk.3,v.sk.4⟩,pk.doneB e⟩) fun e=>H _ _ ⟨pk,yy (zah (z9 hb) hk) e,zm (yo ib) (zp ..),h2⟩
    ·obtain rfl:k=0:=uw e
     exact ⟨v,h2⟩
    ·refine ws_eq (m:=ia + k + 1) (fun e=>ws_pure ⟨⟨v.sk.1,v.sk.2,v.sk.3,v.sk.4⟩,pk.lastA g e⟩) fun e=>ws_eq (m:=ia + k) (fun e=>ws_pure ⟨⟨v.sk.1,v.sk.2,v.sk.3,v.sk.4⟩,pk.doneA e⟩) fun e2=>H _ _ ⟨⟨pk,lt_ne (yy (zah (z9 hai) hk) e2) e,v.hb,za v.hx (yz (zp ..) ib),v.sk⟩,h2⟩
   ·exact ws_bind (ws_mod (ws_pure ⟨v.pm,v.ha,v.hb,v.hx,v.sk.1,v.sk.2,v.sk.3,v.sk.4⟩))
 ·exact fun _ _ v=>absurd (za (uk ..) v.hx) (fo (Nat.add_lt_add (xe v.ha) v.hb))
end
end Mine
namespace Mine
open PySem PyProof PyProof.Rows
section
variable {a b:Array Keyed}{L R:List Keyed}{out:Array Keyed}{na nb k:Nat}{x y:Keyed}
theorem ext_cut (l:Array Keyed) (m n:Nat):(l.extract m n).toList=(l.toList.take n).drop m:=by
 exact gw (kh ..) (gw (v7 ..) (gw (List.drop_take ..) rfl))
theorem take_at {l:Array Keyed}{n:Nat} (h0:0 < n) (h:l[n - 1]?=some x):l.toList.take n=l.toList.take (n - 1)++[x]:=by
 obtain ⟨n,rfl⟩:=j8 (xt h0)
 refine gw (List.take_add_one ..) (gw (xh ..) (gw (show l[n]?=some x from h) ?_));rfl
theorem up_tl {l:Array Keyed}{n:Nat} (u:Up2 l.toList) (h0:0 < n) (h:l[n - 1]?=some x):∀ y∈l.toList.take n,lk x y=false:=fun y hy=>by
 have u:=List.Pairwise.take (i:=n) u
 rw [take_at h0 h] at u hy
 rcases z5.mp hy with hy | hy
 ·exact (wx.mp u).2.2 y hy x zh
 ·refine gw (zg.mp hy ..) ?_;exact lk_re _
noncomputable def Pl (a b:Array Keyed) (L R:List Keyed) (na nb:Nat):Prop:=mrg (a.toList.take na) (b.toList.take nb)++R=L
theorem Pl.as (h:Pl a b L R na nb) (hm:k<=na) (hk:∀ x∈(a.toList.take na).drop k,∀ y∈b.toList.take nb,lk y x=true):Pl a b L ((a.toList.take na).drop k++R) k nb:=by
 unfold Pl at *
 replace h:=(zk ..)▸(yf hm ..)▸(jf ..)▸(mrg_za hk ..)▸(z6 k (a.toList.take na) ..)▸h
 exact h
theorem Pl.bs (h:Pl a b L R na nb) (hm:k<=nb) (hk:∀ x∈a.toList.take na,∀ y∈(b.toList.take nb).drop k,lk y x=false):Pl a b L ((b.toList.take nb).drop k++R) na k:=by
 unfold Pl at *
 replace h:=(zk ..)▸(yf hm ..)▸(jf ..)▸(mrg_zb hk ..)▸(z6 k (b.toList.take nb) ..)▸h
 exact h
theorem rev_push (out:Array Keyed) (x:Keyed):(out.push x).toList.reverse=[x]++out.toList.reverse:=by refine gw (u0 ..) (gw (gc ..) ?_);rfl
theorem rev_app (out l:Array Keyed):(out++l.reverse).toList.reverse=l.toList++out.toList.reverse:=by rw [xi,gc,zaq,List.reverse_reverse]
theorem Pl.ta (h:Pl a b L out.toList.reverse na nb) (h0:0 < na) (hx:a[na - 1]?=some x) (hk:∀ y∈b.toList.take nb,lk y x=true):Pl a b L (out.push x).toList.reverse (na - 1) nb:=by
 unfold Pl at *
 rw [take_at h0 hx,mrg_za fun z hz y hy=>by rw [zg.mp hz];exact hk y hy,zk] at h
 rw [rev_push];exact h
theorem Pl.tb (h:Pl a b L out.toList.reverse na nb) (h0:0 < nb) (hy:b[nb - 1]?=some y) (hk:∀ x∈a.toList.take na,lk y x=false):Pl a b L (out.push y).toList.reverse na (nb - 1):=by
 unfold Pl at *
 rw [take_at h0 hy,mrg_zb fun x hx z hz=>by rw [zg.mp hz];exact hk x hx,zk] at h
 refine gw (rev_push ..) ?_;exact h
theorem Pl.tas (h:Pl a b L out.toList.reverse na nb) (hm:k<=na) (hk:∀ x∈(a.toList.take na).drop k,∀ y∈b.toList.take nb,lk y x=true):Pl a b L (out++(a.extract k na).reverse).toList.reverse k nb:=by
 refine gw (rev_app ..) (gw (ext_cut ..) ?_);exact h.as hm hk
theorem Pl.tbs (h:Pl a b L out.toList.reverse na nb) (hm:k<=nb) (hk:∀ x∈a.toList.take na,∀ y∈(b.toList.take nb).drop k,lk y x=false):Pl a b L (out++(b.extract k nb).reverse).toList.reverse na k:=by
 refine gw (rev_app ..) (gw (ext_cut ..) ?_);exact h.bs hm hk
theorem to_three (p q r:Array Keyed):(p++q++r.reverse).toList=p.toList++q.toList++r.toList.reverse:=by exact gw (xi ..) (gw (xi ..) (gw (zaq ..) rfl))
theorem Pl.doneA (h:Pl a b L out.toList.reverse na nb) (e:na=0):(a.extract 0 na++b.extract 0 nb++out.reverse).toList=L:=by
 unfold Pl at h
 subst e
 replace h:=(nil_mrg ..)▸(gf ..)▸h
 refine gw (to_three ..) (gw (ext_cut ..) (gw (ext_cut ..) ?_));exact h
theorem Pl.doneB (h:Pl a b L out.toList.reverse na nb) (e:nb=0):(a.extract 0 na++b.extract 0 nb++out.reverse).toList=L:=by
 unfold Pl at h
 subst e
 replace h:=(mrg_nil ..)▸(gf ..)▸h
 refine gw (to_three ..) (gw (ext_cut ..) (gw (ext_cut ..) (gw (gf ..) (gw (zav ..) (gw (yi ..) ?_)))));exact h
theorem Pl.firstB (h:Pl a b L out.toList.reverse na nb) (g:Mg a b) (e:nb=1):(b.extract 0 nb++a.extract 0 na++out.reverse).toList=L:=by
 obtain ⟨y,hy,-⟩:=at_lt g.kb g.pb
 unfold Pl at h
 subst e
 have hb:=mrg_b (c:=a.toList.take na) (b:=[y]) [] fun x hx z hz=>by refine gw (zg.mp hz ..) ?_;exact g.first x (xm hx) y hy
 replace hb:=(mrg_nil ..)▸(yi ..)▸hb
 have e1:b.toList.take 1=[y]:=take_at (n:=1) uz hy
 replace h:=hb▸e1▸h
 refine gw (to_three ..) (gw (ext_cut ..) (gw (ext_cut ..) (gw e1 ?_)));exact h
theorem Rn.tk {l:Array Keyed} (kd:∀ x∈l.toList,Kd x) (u:Up2 l.toList) {n:Nat} (h:n<=l.size):Rn l 0 n (l.toList.take n) :=
 ⟨rfl,by exact gw (yu ..) (gw (yn ..) (gw (yf h ..) rfl)),fun x hx=>kd x (xm hx),u.take⟩
theorem dec_l:∀ {m n x N:Nat},0 < m->m + n + x < N->m - 1 + n + (x + 1) < N
 | m + 1,n,x,N,_,h=>by replace h:=(j7 ..)▸(j7 ..)▸h;exact h
theorem dec_r:∀ {m n x N:Nat},0 < n->m + n + x < N->m + (n - 1) + (x + 1) < N
 | m,n + 1,x,N,_,h=>by rw [← xo,j7] at h;exact h
theorem pred_lt {m n:Nat} (h0:0 < m) (h:m<=n):m - 1 < n:=zm (gz h0 uz) h
end
structure Hv (m:Mc) (x:Nat) (out:Array Keyed) (na nb:Nat) (st:SortSt):Prop where
 pm:Pl m.a m.b m.L out.toList.reverse na nb
 ha:0 < na
 ha':na<=m.a.size
 hb:1 < nb
 hb':nb<=m.b.size
 hx:na + nb + x < m.a.size + m.b.size
 sk:Sk m.xs m.pn st
theorem Hv.le {m:Mc}{x:Nat}{out:Array Keyed}{na nb y:Nat}{st:SortSt} (v:Hv m (up1 x y) out na nb st):na + nb + x < m.a.size + m.b.size:=yk (yl (up1_ge x y) _) v.hx
section
variable {c:Cw}{st:SortSt}
theorem gt1 {n:Nat} (h:1 < n) (e:¬ n - 1=1):1 < n - 1:=yy (kg h) (Ne.symm e)
theorem w_hi {m:Mc} (g:Mg m.a m.b) {Q:Array Keyed->SortSt->Prop} (hs:Sk m.xs m.pn st) (h:∀ r st',Dn m r st'->Q r st'):Ws c (mHi m.a m.b) Q st:=by
 refine ws_bind (ws_rule ?_)
 obtain ⟨x0,hx0,kx0⟩:=at_lt g.ka (pred_lt g.pa (ze _))
 have p0:Pl m.a m.b m.L (#[x0]:Array Keyed).toList.reverse (m.a.size - 1) m.b.size :=
  Pl.ta (out:=#[]) (na:=m.a.size) (by unfold Pl;refine bw (yn ..) (bw (yn ..) (gw (zu ..) (gw (zu ..) ?_)));exact yi _) g.pa hx0 fun y hy=>g.last x0 hx0 y (xm hy)
 refine ws_bind (ws_elem hx0 (ws_eq (fun e=>ws_pure (h _ _ ⟨hs,p0.doneA e⟩)) fun e1=>ws_eq (fun e=>ws_pure (h _ _ ⟨hs,p0.firstB g e⟩)) fun e2=>ws_bind (ws_get ?_)))
 refine ws_for (I:=fun x g st=>Hv m x g.2.2.1 g.1 g.2.1 st) (F:=fun _ _=>False) (D:=Dn m) ⟨p0,v4 e1,wc ..,yy g.pb (Ne.symm e2),ze _,zar (pred_lt g.pa (ze _)) _,hs⟩ (fun x st _ _=>cur4 fun na nb out mg v=>?_) ?_ (fun o g st d=>ws_pure (h o st d)) (fun _ _ e=>e.elim)
 ·refine ws_for (I:=fun y g st=>Hv m (up1 x y) g.2.2.1 g.1 g.2.1 st) (F:=fun g st=>Hv m (x + 1) g.2.2.1 g.1 g.2.1 st) (D:=Dn m) v (fun y st _ _=>cur5 fun na nb out ac bc v=>?_) ?_ (fun o g st d=>ws_pure d) (fun st=>cur5 fun na nb out ac bc v=>?_)
  ·have vb:=xe v.hb
   obtain ⟨p,hp,kp⟩:=at_lt g.ka (pred_lt v.ha v.ha')
   obtain ⟨q,hq,kq⟩:=at_lt g.kb (pred_lt vb v.hb')
   refine ws_bind (ws_elem hq (ws_bind (ws_elem hp (ws_bind (ws_lt v.sk.kind kq kp (ws_if (fun e=>ws_bind (ws_elem hp ?_)) fun e=>ws_bind (ws_elem hq ?_)))))))
   ·have v':=v.pm.ta v.ha hp fun y hy=>lk_lt' (up_tl g.ub vb hq y hy) e
    refine ws_eq (fun e=>ws_pure ⟨v.sk,v'.doneA e⟩) fun e=>?_
    have w:Hv m (x + 1) (out.push p) (na - 1) nb st:=⟨v',v4 e,za (wc ..) v.ha',v.hb,v.hb',dec_l v.ha v.le,v.sk⟩
    exact ws_if (fun _=>ws_pure w) fun _=>ws_pure w
   ·have v':=v.pm.tb vb hq fun x hx=>lk_le (up_tl g.ua v.ha hp x hx) (we.mpr e)
    refine ws_eq (fun e=>ws_pure ⟨v.sk,v'.firstB g e⟩) fun e=>?_
    have w:Hv m (x + 1) (out.push q) na (nb - 1) st:=⟨v',v.ha,v.ha',gt1 v.hb e,za (wc ..) v.hb',dec_r vb v.le,v.sk⟩
    exact ws_if (fun _=>ws_pure w) fun _=>ws_pure w
  ·exact fun _ _ v=>up1_pos (zm (Nat.add_pos_left g.pa _) (uk ..)) x▸v
  ·refine ws_bind (ws_rule ?_)
   refine ws_for (I:=fun _ g st=>Hv m (x + 1) g.2.2.1 g.1 g.2.1 st) (F:=fun g st=>Hv m (x + 1) g.2.2.1 g.1 g.2.1 st) (D:=Dn m) v (fun y st _ _=>cur6 fun na nb out mg ac bc v=>?_) (fun _ _ v=>v) (fun o g st d=>ws_pure d) (fun st=>cur6 fun na nb out mg ac bc v=>?_)
   ·extract_lets -underBinder s1 o1 s2 i1 s3 b1 s4 m1 s5 a1 c1 jp
    refine ws_both (J:=jp ()) fun mm=>?_
    have vb:=xe v.hb
    obtain ⟨q,hq,kq⟩:=at_lt g.kb (pred_lt vb v.hb')
    have uq:=up_tl g.ub vb hq
    refine ws_bind (ws_mod (ws_bind (ws_elem hq (ws_bind (w_galR (Rn.tk g.ka g.ua v.ha') v.sk.kind kq (gz v.ha uz) fun k hk h1 h2=>?_)))))
    have pk:=v.pm.tas hk fun x hx y hy=>lk_lt' (uq y hy) (h2 x hx)
    replace h1:=(yf hk ..)▸(jf ..)▸h1
    dsimp -zeta only [nx]
    extract_lets -underBinder kk ac jp2 o2 i2
    refine ws_jp (J:=jp2 ()) (fun i o=>Hv m (x + 1) o i nb st/\∀ x∈m.a.toList.take i,lk q x=false) (fun i o ⟨v,hp⟩=>?_) (fun e=>?_) fun H _=>?_
    ·have pb:=v.pm.tb vb hq hp
     obtain ⟨p,ep,kp⟩:=at_lt g.ka (pred_lt v.ha v.ha')
     have up:=up_tl g.ua v.ha ep
     refine ws_bind (ws_elem hq (ws_eq (fun e=>ws_pure ⟨⟨v.sk.1,v.sk.2,v.sk.3,v.sk.4⟩,pb.firstB g e⟩) fun e=>?_))
     have hb:=gt1 v.hb e
     refine ws_bind (ws_elem ep (ws_bind (w_galL (Rn.tk g.kb g.ub (za (wc ..) v.hb')) v.sk.kind kp (gz (xe hb) uz) fun k hk h1 h2=>?_)))
     have pk:=pb.tbs hk fun x hx y hy=>lk_le (up x hx) (h2 y hy)
     replace h1:=(yf hk ..)▸(jf ..)▸h1
     dsimp -zeta only [nx]
     extract_lets -underBinder kk bc jp3 o3 i3
     refine ws_jp (J:=jp3 ()) (fun j o=>Pl m.a m.b m.L o.toList.reverse i j/\1 < j/\j<=nb/\∀ y∈m.b.toList.take j,lk y p=true) (fun j o ⟨u1,u2,u3,u4⟩=>?_) (fun e=>?_) fun H _=>?_
     ·have pa:=u1.ta v.ha ep u4
      refine ws_bind (ws_elem ep (ws_eq (fun e=>ws_pure ⟨⟨v.sk.1,v.sk.2,v.sk.3,v.sk.4⟩,pa.doneA e⟩) fun e=>?_))
      have w:∀ {st':SortSt},Sk m.xs m.pn st'->Hv m (x + 1) (o.push p) (i - 1) j st':=fun sk=>⟨pa,v4 e,za (wc ..) v.ha',u2,za u3 v.hb',yk (yz (xc (wc ..) u3) _) v.hx,sk⟩
      exact ws_if (fun _=>ws_pure (w ⟨v.sk.1,v.sk.2,v.sk.3,v.sk.4⟩)) fun _=>ws_pure (w ⟨v.sk.1,v.sk.2,v.sk.3,v.sk.4⟩)
     ·obtain rfl:k=nb - 1:=vd hk (jt (uw e))
      exact ⟨pb,hb,wc ..,h1⟩
     ·exact ws_eq (fun e=>ws_pure ⟨⟨v.sk.1,v.sk.2,v.sk.3,v.sk.4⟩,pk.firstB g e⟩) fun e=>ws_eq (fun e=>ws_pure ⟨⟨v.sk.1,v.sk.2,v.sk.3,v.sk.4⟩,pk.doneB e⟩) fun e2=>H _ _ ⟨pk,yy (v4 e2) (Ne.symm e),za hk (wc ..),h1⟩
    ·obtain rfl:k=na:=vd hk (jt (uw e))
     exact ⟨v,h1⟩
    ·exact ws_eq (fun e=>ws_pure ⟨⟨v.sk.1,v.sk.2,v.sk.3,v.sk.4⟩,pk.doneA e⟩) fun e=>H _ _ ⟨⟨pk,v4 e,za hk v.ha',v.hb,v.hb',yk (yz (yz hk _) _) v.hx,v.sk⟩,h1⟩
   ·exact ws_bind (ws_mod (ws_pure ⟨v.pm,v.ha,v.ha',v.hb,v.hb',v.hx,v.sk.1,v.sk.2,v.sk.3,v.sk.4⟩))
 ·exact fun _ _ v=>absurd (yk (za (uk ..) (vc ..)) v.hx) (xj _)
end
end Mine
namespace Mine
open PySem PyProof PyProof.Rows
theorem Rn.of {xs:Array Keyed}{P Z S:List Keyed} (h:xs.toList=P++(Z++S)) (hk:∀ x∈Z,Kd x) (hu:Up2 Z):Rn xs P.length Z.length Z :=
 ⟨by rw [h,List.drop_left,zai],rfl,hk,hu⟩
theorem fold_set {c:Nat}{S:List Keyed}:∀ (l:List Keyed) (n:Nat) (xs:Array Keyed) (P Z:List Keyed),xs.toList=P++(Z++S)->Z.length=l.length->P.length=c + n ->
  ((l.zipIdx n).foldl (fun a (q:Keyed×Nat)=>a.setIfInBounds (c + q.2) q.1) xs).toList=P++(l++S)
 | [],n,xs,P,Z,h,hz,hp=>by
  obtain rfl:=xz hz
  exact h
 | x::l,n,xs,P,z::Z,h,hz,hp=>by
  refine gw (List.zipIdx_cons ..) (gw (List.foldl_cons ..) ?_)
  have e:(xs.setIfInBounds (c + n) x).toList=P++[x]++(Z++S):=by
   refine gw (gu ..) (gw h (bw hp (gw (jq _ _ (ze _) ..) (gw (xv ..) (gw (zk ..) ?_)))));rfl
  rw [fold_set l (n + 1) _ (P++[x]) Z e (Nat.succ.inj hz) (by refine gw (zd ..) (gw hp ?_);rfl),zk];rfl
theorem cut_of {xs:Array Keyed}{P Z S:List Keyed} (h:xs.toList=P++(Z++S)) {c d:Nat} (hc:c=P.length) (hd:d=c + Z.length):(xs.extract c d).toList=Z:=by
 subst hd hc
 exact gw (kh ..) (gw (v7 ..) (gw h (gw (List.drop_left ..) (gw (xk ..) (gw (zai ..) rfl)))))
section
variable {c:Cw}{st:SortSt}{P X Y S:List Keyed}{i pw pw':Nat}{Q:Bool->SortSt->Prop}
theorem w_at (hk:kindOf st=oneType') (hf:failedOf st=none) (hx:(arrOf st).toList=P++(X++(Y++S)))
  (p1:(pendingOf st)[i]?=some (P.length,X.length,pw)) (p2:(pendingOf st)[i + 1]?=some (P.length + X.length,Y.length,pw')) (x0:X≠[]) (y0:Y≠[]) (ux:Up2 X) (uy:Up2 Y) (kx:∀ x∈X,Kd x) (ky:∀ x∈Y,Kd x)
  (h:∀ st' xs,Sk xs (((pendingOf st).setIfInBounds i (P.length,X.length + Y.length,pw)).eraseIdxIfInBounds (i + 1)) st'->xs.toList=P++(mrg X Y++S)->Q true st'):Ws c (mergeAt' i) Q st:=by
 refine ws_bind (ws_get ?_)
 dsimp -zeta only [nx]
 refine gw p1 (gw p2 ?_)
 refine ws_bind (ws_set ?_)
 have rx:=Rn.of hx kx ux
 have hy:(arrOf st).toList=(P++X)++(Y++S):=by exact gw hx (gw (zk ..) rfl)
 have ry:=Rn.of hy ky uy
 replace ry:=(zd ..)▸ry
 have lx:=ul.mpr x0
 have ly:=ul.mpr y0
 obtain ⟨v,q_h⟩:=(ry.at ly);refine an3 q_h fun hv kv ev=>?_
 refine ws_bind (ws_elem hv (ws_bind (w_galR rx hk kv lx fun k hk' h1 h2=>?_)))
 have vy:∀ y∈Y,lk y v=false:=fun y hm=>by
  obtain ⟨j,e⟩:=u8.mp hm
  exact up_at uy (z7 j) ev e
 have m1:=mrg_a (d:=Y) (X.drop k) fun x hx y hy=>lk_le (h1 x hx) (vy y hy)
 replace m1:=(z6 ..)▸m1
 have sk0:∀ pn:Array (Nat×Nat×Nat),Sk (arrOf st) pn (SortSt.mk' (kindOf st) (arrOf st) pn (gallopOf st) (failedOf st)):=fun pn=>⟨hk,hf,rfl,rfl⟩
 refine ws_eq (m:=X.length - k) (fun e=>ws_pure (h _ _ (sk0 _) ?_)) fun e=>?_
 ·have e:=jt e
  exact gw m1 (gw (vt e ..) (gw (nil_mrg ..) (gw (y9 e ..) (gw hx (gw (zk ..) rfl)))))
 have ek:k < X.length:=xd fun q=>e (Nat.sub_eq_zero_of_le q)
 obtain ⟨z,q_h⟩:=(rx.at (pred_lt lx (ze _)));refine an3 q_h fun hz kz ez=>?_
 have ei:P.length + k + (X.length - k) - 1=P.length + (X.length - 1):=by exact gw (xo ..) (gw (vi hk' ..) (gw (Nat.add_sub_assoc lx ..) rfl))
 refine ws_bind (ws_elem (ei.symm▸hz) (ws_bind (w_galL ry hk kz (pred_lt ly (ze _)) fun m hm g1 g2=>?_)))
 have zx:z∈X.drop k:=yr (i:=X.length - 1 - k) (by exact gw (gl ..) (gw (vi (kg ek) ..) (gw ez rfl)))
 have zl:∀ x∈X,lk z x=false:=fun x hm=>by
  obtain ⟨j,e⟩:=u8.mp hm
  exact up_at ux (kg (zc.mp e).1) e ez
 have m2:=mrg_zb (a:=X.drop k) (b:=Y.take m) (d:=Y.drop m) fun x hx y hy=>lk_le (zl x (w9 hx)) (g2 y hy)
 replace m2:=(z6 ..)▸m2
 refine ws_eq (n:=0) (fun e=>?_) fun e=>?_
 ·subst e
  exact nomatch (h2 z zx).symm.trans (g2 v (yr ev))
 have em:0 < m:=v4 e
 extract_lets -underBinder x y jp
 have hx':(arrOf st).toList=(P++X.take k)++(X.drop k++(Y++S)):=by exact gw hx (gw (zk ..) (bw (zk (X.take k) ..) (gw (z6 ..) rfl)))
 have hy':(arrOf st).toList=(P++X)++(Y.take m++(Y.drop m++S)):=by exact gw hy (bw (zk (Y.take m) ..) (gw (z6 ..) rfl))
 have lk':(P++X.take k).length=P.length + k:=by exact gw (zd ..) (gw (yu ..) (gw (yf hk' ..) rfl))
 have ex:x.toList=X.drop k:=cut_of hx' lk'.symm (by exact gw (w5 ..) (gw (xo ..) (gw (vi hk' ..) rfl)))
 have ey:y.toList=Y.take m:=cut_of hy' (zd ..).symm (by exact gw (yu ..) (gw (yf hm ..) rfl))
 have g:Mg x y:=by
  refine ⟨fun u hu=>kx u (w9 (ex▸hu)),fun u hu=>ky u (xm (ey▸hu)),ex▸ux.drop,ey▸uy.take,fun u hu t ht=>?_,fun u hu t ht=>?_,?_,?_⟩
  ·replace ht:=ev▸(wg em ..)▸ey▸(xh ..)▸ht
   exact Option.some.inj ht▸h2 u (ex▸hu)
  ·replace hu:=ez▸(g6 ..)▸(if_neg (fo ek) ..)▸(List.getLast?_drop ..)▸ex▸(g6 ..)▸(yn ..)▸(xh ..)▸hu
   exact Option.some.inj hu▸g1 t (ey▸ht)
  ·refine bw (yn ..) (gw ex (gw (w5 ..) ?_));exact w0 ek
  ·refine bw (yn ..) (gw ey (gw (yu ..) (gw (yf hm ..) ?_)));exact em
 refine (fun fin:∀ r st',Dn ⟨x,y,arrOf st,((pendingOf st).setIfInBounds i (P.length,X.length + Y.length,pw)).eraseIdxIfInBounds (i + 1)⟩ r st'->Ws c (jp r) Q st' =>
  ws_if (fun _=>ws_bind (w_lo (m:=⟨x,y,_,_⟩) g (sk0 _) fin)) fun _=>ws_bind (w_hi (m:=⟨x,y,_,_⟩) g (sk0 _) fin)) fun r st' ⟨sk,hr⟩=>?_
 refine ws_bind (ws_mod (ws_bind (ws_get (ws_pure ?_))))
 have e:(failedOf st').isNone=true:=by refine gw (sk.failed ..) ?_;rfl
 refine (congrArg (fun b=>Q b _) e).mpr (h _ _ ⟨sk.kind,sk.failed,rfl,sk.pend⟩ ?_)
 have z':(arrOf st').toList=(P++X.take k)++((X.drop k++Y.take m)++(Y.drop m++S)):=by exact gw (sk.arr ..) (gw hx' (gw (zk (X.drop k) ..) (bw (zk (Y.take m) ..) (gw (z6 ..) rfl))))
 have hr:r.toList=mrg (X.drop k) (Y.take m):=by refine bw ex (bw ey ?_);exact hr
 refine (fold_set (c:=P.length + k) r.toList 0 _ _ _ z' (by exact gw hr (gw ((mrg_perm _ _).length_eq ..) rfl)) lk').trans ?_
 exact gw hr (gw m1 (gw m2 (gw (zk ..) (gw (zk ..) (gw (zk ..) rfl)))))
end
end Mine
namespace Mine
open PySem PyProof PyProof.Rows
theorem swap_list {ys:Array Keyed}{A M T:List Keyed}{u v:Keyed}{i j:Nat} (h:ys.toList=A++(u::(M++v::T))) (hi:i=A.length) (hj:j=A.length + (M.length + 1)):(ys.swapIfInBounds i j).toList=A++(v::(M++u::T))/\(ys.swapIfInBounds j i).toList=A++(v::(M++u::T)):=by
 have hs:ys.size=A.length + (M.length + (T.length + 1) + 1):=by exact bw (yn ..) (gw h (gw (zd ..) (gw (xy ..) (gw (zd ..) (gw (xy ..) rfl)))))
 have b2:j < ys.size:=by refine gw hs (gw hj ?_);exact ur (Nat.succ_lt_succ (jg (ja _))) _
 have b1:i < ys.size:=yk (by refine gw hi (gw hj ?_);exact zp ..) b2
 have e1:ys[i]=u:=by
  have:ys[i]?=some u:=by refine bw (xh ..) (gw h (gw hi (gw (zw (ze _) ..) (gw (xv ..) ?_))));rfl
  exact Option.some.inj ((k7 b1).symm.trans this)
 have e2:ys[j]=v:=by
  have:ys[j]?=some v:=by refine bw (xh ..) (gw h (gw hj (gw (zw (zp ..) ..) (gw (xk ..) (gw (fw ..) (gw (zw (ze _) ..) (gw (xv ..) ?_)))))));rfl
  exact Option.some.inj ((k7 b2).symm.trans this)
 have s1:∀ (A B:List Keyed) (w:Keyed) (t:Keyed),(A++t::B).set A.length w=A++w::B:=fun A B w t=>by refine gw (jq _ _ (ze _) ..) (gw (xv ..) ?_);rfl
 have s2:∀ u v w:Keyed,(A++(u::(M++v::T))).set j w=A++(u::(M++w::T)):=fun u v w=>by
  have:=s1 (A++u::M) T w v
  replace this:=(zk ..)▸(zk ..)▸hj▸(xy ..)▸(zd ..)▸this
  exact this
 refine gw (fq ..) (gw (dif_pos b1 ..) (gw (dif_pos b2 ..) (gw (fq ..) (gw (dif_pos b2 ..) (gw (dif_pos b1 ..) (gw (Array.toList_swap ..) (gw (Array.toList_swap ..) (gw e1 (gw e2 (gw h (gw hi ?_)))))))))))
 exact ⟨by rw [s1,s2],by rw [s2,s1]⟩
theorem mirror_cons (xs:Array Keyed) (i j d:Nat):mirror xs i j (d + 1)=mirror (xs.swapIfInBounds i (j - 1)) (i + 1) (j - 1) d:=by
 unfold mirror
 refine gw (List.range_succ_eq_map ..) (gw (List.foldl_cons ..) (gw (List.foldl_map ..) ?_))
 have e:(fun (a:Array Keyed) (k:Nat)=>a.swapIfInBounds (i + Nat.succ k) (j - 1 - Nat.succ k))=fun a k=>a.swapIfInBounds (i + 1 + k) (j - 1 - 1 - k):=funext fun a=>funext fun k=>by exact bw (xq ..) (gw (Nat.sub_sub (j - 1) 1 k ..) (gw (vx 1 k ..) rfl))
 refine gw e ?_;rfl
theorem mirror_list:∀ (n:Nat) (U:List Keyed),U.length<=n->∀ {xs:Array Keyed}{P S:List Keyed},xs.toList=P++(U++S)->∀ {j:Nat},j=P.length + U.length->(mirror xs P.length j (U.length / 2)).toList=P++(U.reverse++S)
 | _,[],_,_,_,_,h,_,_=>h
 | _,[u],_,_,_,_,h,_,_=>by refine gw (List.length_singleton ..) (gw (Nat.div_eq_of_lt (yo 1) ..) ?_);exact h
 | n + 1,u::w::W,hn,xs,P,S,h,j,hj=>by
  obtain ⟨M,v,e⟩:∃ M v,w::W=M++[v]:=⟨_,_,(List.dropLast_concat_getLast (List.cons_ne_nil w W)).symm⟩
  rw [e] at h hj hn ⊢
  have hl:(u::(M++[v])).length=M.length + 2:=by refine gw (xy ..) (gw (zd ..) ?_);rfl
  rw [hl] at hj hn ⊢
  refine gw (Nat.add_div_right _ zay ..) (gw (mirror_cons ..) ?_)
  have h':xs.toList=P++(u::(M++v::S)):=by refine gw h (gw (List.cons_append ..) (gw (zk ..) ?_));rfl
  have s:=(swap_list h' rfl (show j - 1=P.length + (M.length + 1) by refine gw hj ?_;rfl)).1
  have q:=mirror_list n M (vm (zaa hn)) (xs:=xs.swapIfInBounds P.length (j - 1)) (P:=P++[v]) (S:=u::S) (by refine gw s (gw (zk ..) ?_);rfl) (j:=j - 1) (by refine gw hj (gw (zd ..) ?_);show P.length + (M.length + 1)=P.length + 1 + M.length;exact gw (xo ..) (gw (vx 1 ..) rfl))
  replace q:=(zd ..)▸q
  refine gw (List.reverse_cons ..) (gw (gc ..) (gw (zk ..) (gw (zk ..) ?_)))
  exact q.trans (zk ..)
theorem bubble_list {x:Keyed}:∀ (U A:List Keyed) {xs:Array Keyed}{S:List Keyed}{src:Nat},xs.toList=A++(U++x::S)->src=A.length + U.length->(bubble xs src U.length).toList=A++(x::U++S)
 | [],A,xs,S,src,h,_=>h
 | u::U,A,xs,S,src,h,hs=>by
  have q:=bubble_list U (A++[u]) (xs:=xs) (S:=S) (src:=src) (by refine gw h (gw (zk ..) ?_);rfl) (by refine gw hs (gw (zd ..) (gw (xy ..) (gw (xo ..) (gw (vx U.length ..) ?_))));rfl)
  have e:src - U.length=A.length + 1:=by exact gw hs (gw (xy ..) (bw (xo ..) (gw (je ..) (gw (Nat.add_sub_cancel ..) rfl))))
  refine gw (xy ..) (gw (bubble_succ ..) (gw e ?_))
  exact (swap_list (M:=[]) (T:=U++S) (u:=u) (v:=x) (by refine gw q (gw (zk ..) ?_);rfl) rfl rfl).2
end Mine
namespace Mine
open PySem PyProof PyProof.Rows
structure Sl (l:List Keyed) (pn:Array (Nat×Nat×Nat)) (st:SortSt):Prop where
 kind:kindOf st=oneType'
 failed:failedOf st=none
 arr:(arrOf st).toList=l
 pend:pendingOf st=pn
noncomputable def Df (l:List Keyed):Prop:=l.Pairwise fun x y=>lk x y=true∨lk y x=true
section
variable {c:Cw}{α β:Type}{st:SortSt}{P Z:List Keyed}{pn:Array (Nat×Nat×Nat)}
theorem Sl.at (h:Sl (P++Z) pn st) {i:Nat}{x:Keyed} (hx:Z[i]?=some x):(arrOf st)[P.length + i]?=some x:=by
 exact bw (xh ..) (gw (h.arr ..) (gw (zw (zp ..) ..) (gw (xk ..) (gw hx rfl))))
theorem w_ltAt {i j:Nat}{x y:Keyed}{Q:Option Bool->SortSt->Prop} (hs:Sl (P++Z) pn st) (kd:∀ x∈Z,Kd x) (hx:Z[i]?=some x) (hy:Z[j]?=some y) {i' j':Nat} (ei:i'=P.length + i) (ej:j'=P.length + j) (h:Q (some (lk x y)) st):Ws c (ltAt' i' j') Q st:=by
 subst ei ej
 exact ws_bind (ws_get (ws_bind (ws_elem (hs.at hx) (ws_bind (ws_elem (hs.at hy) (ws_lt hs.kind (kd x (yr hx)) (kd y (yr hy)) h))))))
theorem tk_at {l:List Keyed}{n:Nat}{x:Keyed} (h0:0 < n) (h:l[n - 1]?=some x):l.take n=l.take (n - 1)++[x]:=by
 have:=take_at (l:=l.toArray) h0 (w7▸h)
 exact this
theorem pw_ext {R:Keyed->Keyed->Prop}{n:Nat}{u v:Keyed} (tr:∀ x,R x u->R u v->R x v) (h:(Z.take n).Pairwise R) (h1:0 < n) (hu:Z[n - 1]?=some u) (hv:Z[n]?=some v) (e:R u v):(Z.take (n + 1)).Pairwise R:=by
 have t:=tk_at h1 hu
 refine gw (List.take_add_one ..) (gw hv ?_)
 refine wx.mpr ⟨h,wj ..,fun x hx y hy=>?_⟩
 refine gw (zg.mp hy ..) ?_
 rw [t] at hx h
 rcases z5.mp hx with hx | hx
 ·exact tr x ((wx.mp h).2.2 x hx u zh) e
 ·refine gw (zg.mp hx ..) ?_;exact e
theorem get_of {i:Nat} (h:i < Z.length):∃ u,Z[i]?=some u:=⟨_,zf h⟩
theorem sub1 {p n:Nat} (h:0 < n):p + n - 1=p + (n - 1):=Nat.add_sub_assoc h p
theorem w_asc {a N:Nat} (hN:N=Z.length) {f:Nat->Option β×Nat->So (ForInStep (Option β×Nat))}{k:Option β×Nat->So α}{Q:α->SortSt->Prop}
  (hf:∀ x n u v (R:ForInStep (Option β×Nat)->SortSt->Prop),0 < n->Z[n - 1]?=some u->Z[n]?=some v->(lk v u=true->R (.done (none,n)) st)->(lk v u=false->R (.yield (none,n + 1)) st)->Ws c (f x (none,n)) R st)
  (h1:0 < a) (ha:a<=Z.length) (hu:Up2 (Z.take a))
  (h:∀ n,a<=n->n<=Z.length->Up2 (Z.take n)->(n=Z.length∨∃ u v,Z[n - 1]?=some u/\Z[n]?=some v/\lk v u=true)->Ws c (k (none,n)) Q st):Ws c (forIn [a:N] ((none,a):Option β×Nat) f >>= k) Q st:=by
 subst hN
 refine ws_for (I:=fun x g st'=>st'=st/\g=x/\Up2 (Z.take x)) (F:=fun g st'=>st'=st/\Ws c (k (none,g)) Q st) (D:=fun _ _=>False) ⟨rfl,rfl,hu⟩ ?_ ?_ (fun _ _ _ e=>e.elim) ?_
 ·rintro _ st' hx hx' x ⟨rfl,rfl,g⟩
  have x0:=zm h1 hx
  obtain ⟨u,e1⟩:=get_of (yk (wc x 1) hx')
  obtain ⟨v,e2⟩:=get_of hx'
  exact hf x x u v _ x0 e1 e2 (fun e=>⟨rfl,h x hx (z9 hx') g (.inr ⟨u,v,e1,e2,e⟩)⟩) fun e=>⟨rfl,rfl,pw_ext (fun _=>lk_le) g x0 e1 e2 e⟩
 ·rintro g st' ⟨rfl,rfl,g⟩
  rw [kf ha] at g ⊢
  exact ⟨rfl,h _ ha (ze _) g (.inl rfl)⟩
 ·rintro st' g ⟨rfl,e⟩;exact e
theorem up_one (Z:List Keyed) {R:Keyed->Keyed->Prop}:(Z.take 1).Pairwise R:=by
 cases Z with
 | nil=>exact .nil
 | cons x Z=>exact wj ..
theorem Df.at (h:Df Z) {i j:Nat}{u v:Keyed} (hij:i < j) (hu:Z[i]?=some u) (hv:Z[j]?=some v):lk u v=true∨lk v u=true:=by
 obtain ⟨h1,rfl⟩:=zc.mp hu
 obtain ⟨h2,rfl⟩:=zc.mp hv
 exact kr.mp h i j h1 h2 hij
theorem w_count {N:Nat} (hN:N=Z.length) {Q:Option Nat->SortSt->Prop} (hs:Sl (P++Z) pn st) (kd:∀ x∈Z,Kd x) (df:Df Z) (hz:0 < Z.length)
  (h:∀ st' n Z',0 < n->n<=Z.length->Z'.Perm Z->Up2 (Z'.take n)->Sl (P++Z') pn st'->Q (some n) st'):Ws c (countRun' P.length N) Q st:=by
 subst hN
 refine w_asc rfl (fun x n u v R h1 e1 e2 r1 r2=>ws_bind (w_ltAt hs kd e2 e1 rfl (sub1 h1) (ws_if (fun e=>ws_pure (r1 e)) fun e=>ws_pure (r2 (we.mpr e))))) uz hz (up_one Z) fun n h1 h2 hu ho=>?_
 refine ws_eq (fun e=>ws_pure (h st n Z h1 h2 (.refl _) hu hs)) fun e=>?_
 refine ex2 (ho.resolve_left e) fun u v q_h=>?_;refine an3 q_h fun e1 e2 e3=>?_
 refine ws_if (p:=n > 1) (fun e=>?_) fun e=>?_
 ·obtain ⟨z,hz0⟩:=get_of hz
  have n1:0 < n - 1:=w0 e
  have up:lk u z=false:=up_at hu (i:=0) (j:=n - 1) (z7 _) (by exact gw (wg h1 ..) (gw hz0 rfl)) (by exact gw (wg (gz h1 uz) ..) (gw e1 rfl))
  have r:lk z u=true:=(df.at n1 hz0 e1).resolve_right (by refine gw up ?_;exact wh)
  exact ws_bind (w_ltAt hs kd hz0 e1 rfl (sub1 h1) (ws_if (fun _=>ws_pure (h st n Z h1 h2 (.refl _) hu hs)) fun e=>absurd r e))
 ·obtain rfl:n=1:=vd (uj e) h1
  have l2:1 < Z.length:=(zc.mp e2).1
  refine ws_bind (ws_rule ?_)
  refine ws_for (I:=fun x g st'=>st'=st/\g=(x,0)/\(Z.take x).Pairwise fun x y=>lk y x=true) (F:=fun g st'=>st'=st/\∃ n,2<=n/\n<=Z.length/\g=(n,0)/\(Z.take n).Pairwise fun x y=>lk y x=true) (D:=fun _ _=>False) ⟨rfl,rfl,pw_ext (n:=1) (fun x a b=>lk_lt' (lk_as b) a) (up_one Z) uz e1 e2 e3⟩ ?_ ?_ (fun _ _ _ e=>e.elim) ?_
  ·rintro x st' hx hx' _ ⟨rfl,rfl,g⟩
   have x0:0 < x:=xe hx
   obtain ⟨u,e1⟩:=get_of (yk (wc x 1) hx')
   obtain ⟨v,e2⟩:=get_of hx'
   refine ws_bind (w_ltAt hs kd e2 e1 rfl (sub1 x0) (ws_if (fun e=>ws_if (fun e=>absurd e (xj 0)) fun _=>ws_pure ⟨rfl,rfl,pw_ext (fun x a b=>lk_lt' (lk_as b) a) g x0 e1 e2 e⟩) fun e=>ws_bind (w_ltAt hs kd e1 e2 (sub1 x0) rfl (ws_if (fun e=>ws_pure ⟨rfl,x,hx,z9 hx',rfl,g⟩) fun e'=>?_))))
   exact absurd ((df.at (gz x0 uz) e1 e2).resolve_right e) e'
  ·rintro g st' ⟨rfl,rfl,g⟩
   rw [kf l2] at g ⊢
   exact ⟨rfl,_,l2,ze _,rfl,g⟩
  ·rintro st' _ ⟨rfl,n,n1,n2,rfl,g⟩
   refine ws_if (fun e=>absurd e (xj 0)) fun _=>ws_bind (ws_mod ?_)
   have n0:0 < n:=xe n1
   have pm:((Z.take n).reverse++Z.drop n).Perm Z:=((List.reverse_perm _).append_right _).trans (by rw [z6])
   have ln:(Z.take n).length=n:=by exact gw (yu ..) (gw (yf n2 ..) rfl)
   have mr:=mirror_list _ (Z.take n) (ze _) (xs:=arrOf st') (P:=P) (S:=Z.drop n) (by exact gw (hs.arr ..) (gw (z6 ..) rfl)) (j:=P.length + n) (by exact gw ln rfl)
   rw [ln,← xk (n:=P.length) (m:=n)] at mr
   have hs':Sl (P++((Z.take n).reverse++Z.drop n)) pn (setArr st' (mirror (arrOf st') P.length (P.length + n) ((P.length + n - P.length) / 2))):=⟨hs.kind,hs.failed,by rw [xk] at mr ⊢;exact mr,hs.pend⟩
   have kd':∀ x∈(Z.take n).reverse++Z.drop n,Kd x:=fun x hx=>kd x (pm.mem_iff.mp hx)
   refine w_asc (a:=n) (Z:=(Z.take n).reverse++Z.drop n) pm.length_eq.symm (fun x m u v R h1 e1 e2 r1 r2=>ws_bind (w_ltAt hs' kd' e2 e1 rfl (sub1 h1) (ws_if (fun e=>ws_pure (r1 e)) fun e=>ws_pure (r2 (we.mpr e))))) n0 (by rw [pm.length_eq];exact n2) ?_ fun m h1 h2 hu _=>ws_pure (h _ m _ (zm n0 h1) (by rw [← pm.length_eq];exact h2) pm hu hs')
   rw [fy (by rw [uo,ln])]
   exact List.pairwise_reverse.mpr (g.imp fun e=>lk_as e)
end
end Mine
namespace Mine
open PySem PyProof PyProof.Rows
theorem mid2 {a b:Nat} (h:a < b):a<=(a + b) / 2/\(a + b) / 2 < b :=
 ⟨(Nat.le_div_iff_mul_le zay).mpr (Nat.mul_two a▸yl (z9 h) a),(Nat.div_lt_iff_lt_mul zay).mpr (Nat.mul_two b▸zar h b)⟩
section
variable {c:Cw}{st:SortSt}{P Z:List Keyed}{pn:Array (Nat×Nat×Nat)}
theorem up_ins {T U D:List Keyed}{x:Keyed}{k:Nat} (hl:(T++U).length=k) (hu:Up2 (T++U)) (h1:∀ u∈T,lk x u=false) (h2:∀ u∈U,lk x u=true):Up2 ((T++(x::U++D)).take (k + 1)):=by
 have e:T++(x::U++D)=(T++x::U)++D:=(zk ..).symm
 rw [e,fy (by rw [zd,xy,← hl,zd];rfl)]
 obtain ⟨a1,a2,a3⟩:=wx.mp hu
 refine wx.mpr ⟨a1,jc.mpr ⟨fun u hm=>lk_as (h2 u hm),a2⟩,fun u hu v hv=>?_⟩
 rcases zy.mp hv with rfl | hv
 ·exact h1 u hu
 ·exact a3 u hu v hv
theorem w_bins {n ok:Nat}{Q:Bool->SortSt->Prop} (hs:Sl (P++Z) pn st) (kd:∀ x∈Z,Kd x) (hn:n<=Z.length) (h1:0 < ok) (h2:ok<=n) (hu:Up2 (Z.take ok))
  (h:∀ st' Z',Z'.Perm Z->Up2 (Z'.take n)->Sl (P++Z') pn st'->Q true st'):Ws c (binarySort' P.length n ok) Q st:=by
 refine ws_for (I:=fun k g st'=>∃ Z',Z'.Perm Z/\Up2 (Z'.take k)/\Sl (P++Z') pn st') (F:=fun g st'=>∃ Z',Z'.Perm Z/\Up2 (Z'.take n)/\Sl (P++Z') pn st') (D:=fun _ _=>False) ⟨Z,.refl _,by rwa [Nat.max_eq_left h1],hs⟩ ?_ ?_ (fun _ _ _ e=>e.elim) ?_
 ·rintro k st' hk hk' g ⟨Z',pm,hu,hs⟩
  have lz:k < Z'.length:=by refine gw (pm.length_eq ..) ?_;exact zm hk' hn
  obtain ⟨x,hx⟩:=get_of lz
  have kd':∀ x∈Z',Kd x:=fun x hx=>kd x (pm.mem_iff.mp hx)
  have at_k:∀ {i:Nat},i < k->(Z'.take k)[i]?=Z'[i]?:=fun hi=>wg hi
  refine w_bin _ mid2 (fun i=>(Z'[i]?).any fun u=>!lk x u) (fun i j hij hj e=>?_) (fun y lo hi R r1 r2 r3=>ws_if (p:=lo ≥ hi) (fun e=>ws_pure (r1 (yc.mpr e))) fun e=>?_) (z7 k) (ze k) (fun i hi=>absurd hi (y5 i)) (fun i a b=>absurd b (yc.mpr a)) fun r a1 a2 a3=>?_
  ·obtain ⟨u,eu⟩:=get_of (u6 (yk hij hj) lz)
   obtain ⟨v,ev⟩:=get_of (u6 hj lz)
   replace e:=ev▸e
   refine gw eu ?_
   have e:(!lk x v)=true:=e
   show (!lk x u)=true
   rw [wo] at e ⊢
   exact lk_le (up_at hu hij (by exact gw (at_k (yk hij hj) ..) (gw eu rfl)) (by exact gw (at_k hj ..) (gw ev rfl))) e
  ·have e':=xd e
   have el:=zm (mid2 e').2 r3
   obtain ⟨u,eu⟩:=get_of (u6 el lz)
   have r2:=r2 e' el
   replace r2:=eu▸r2
   exact ws_bind (w_ltAt hs kd' hx eu rfl rfl (ws_if (fun e=>ws_pure (r2.2 (congrArg not e))) fun e=>ws_pure (r2.1 (congrArg not (we.mpr e)))))
  ·have tk:(Z'.take k).take r=Z'.take r:=by exact gw (jf ..) (gw (yf a1 ..) rfl)
   have t0:=z6 r (Z'.take k)
   replace t0:=tk▸t0
   have ex:Z'.drop k=x::Z'.drop (k + 1):=by
    obtain ⟨b1,rfl⟩:=zc.mp hx
    exact y8 b1
   have e0:Z'=Z'.take r++((Z'.take k).drop r++x::Z'.drop (k + 1)):=by exact bw (zk ..) (gw t0 (bw ex (gw (z6 ..) rfl)))
   have lk':(Z'.take k).length=k:=by exact gw (yu ..) (gw (yf (z9 lz) ..) rfl)
   have lu:((Z'.take k).drop r).length=k - r:=by exact gw (w5 ..) (gw lk' rfl)
   refine ws_bind (ws_mod (ws_pure ⟨Z'.take r++(x::(Z'.take k).drop r++Z'.drop (k + 1)),?_,?_,hs.kind,hs.failed,?_,hs.pend⟩))
   ·exact ((List.perm_middle.symm).append_left _).trans (e0▸pm)
   ·refine up_ins (t0.symm▸lk') (t0.symm▸hu) (fun u hm=>?_) fun u hm=>?_
    ·obtain ⟨i,hi,e⟩:=mem_tk hm
     have:=a2 i hi
     replace this:=e▸this;exact wo _▸this
    ·obtain ⟨i,hi,e⟩:=mem_dr hm
     have ik:i < k:=lk'▸(zc.mp e).1
     have:=a3 i hi ik
     replace this:=e▸(at_k ik ..)▸this;exact Bool.not_eq_false' _▸this
   ·have b:=bubble_list ((Z'.take k).drop r) (P++Z'.take r) (xs:=arrOf st') (src:=P.length + k) (by exact gw (hs.arr ..) (gw (zk ..) (bw e0 rfl))) (by exact gw lu (gw (zd ..) (gw (yu ..) (gw (yf (za a1 (z9 lz)) ..) (gw (xo ..) (gw (vi a1 ..) rfl))))))
    replace b:=(zk ..)▸(zal P.length ..)▸lu▸b
    exact b
 ·rintro g st' ⟨Z',pm,hu,hs⟩
  replace hu:=(kf h2 ..)▸(Nat.max_eq_left h1 ..)▸hu
  exact ⟨Z',pm,hu,hs⟩
 ·rintro st' g ⟨Z',pm,hu,hs⟩
  exact ws_pure (h st' Z' pm hu hs)
end
end Mine
namespace Mine
open PySem PyProof PyProof.Rows
noncomputable def Ps:Nat->List (List Keyed)->List (Nat×Nat×Nat)->Prop
 | _,[],ps=>ps=[]
 | c,R::Rs,ps=>∃ pw q,ps=(c,R.length,pw)::q/\Ps (c + R.length) Rs q
theorem Ps.len:∀ {Rs:List (List Keyed)}{c:Nat}{ps:List (Nat×Nat×Nat)},Ps c Rs ps->ps.length=Rs.length
 | [],_,_,h=>by refine gw (h:_=[]) ?_;rfl
 | _::_,_,_,⟨_,_,e,h⟩=>by refine gw e (gw (xy ..) (gw (h.len ..) ?_));rfl
theorem Ps.snoc {R:List Keyed}{pw:Nat}:∀ {Rs:List (List Keyed)}{c:Nat}{ps:List (Nat×Nat×Nat)},Ps c Rs ps->Ps c (Rs++[R]) (ps++[(c + Rs.flatten.length,R.length,pw)])
 | [],_,_,h=>by refine gw (h:_=[]) ?_;exact ⟨pw,[],rfl,rfl⟩
 | X::Rs,c,_,⟨p,q,e,h⟩=>by
  have:=h.snoc (R:=R) (pw:=pw)
  replace this:=(zd ..)▸(xo ..)▸this
  exact ⟨p,_,by refine gw e ?_;rfl,this⟩
theorem Ps.mid {X Y Z:List Keyed}{Rs2:List (List Keyed)} (hl:Z.length=X.length + Y.length):∀ {Rs:List (List Keyed)}{c:Nat}{ps:List (Nat×Nat×Nat)},Ps c (Rs++X::Y::Rs2) ps ->
  ∃ pw pw',ps[Rs.length]?=some (c + Rs.flatten.length,X.length,pw)/\ps[Rs.length + 1]?=some (c + Rs.flatten.length + X.length,Y.length,pw')/\Ps c (Rs++Z::Rs2) ((ps.set Rs.length (c + Rs.flatten.length,X.length + Y.length,pw)).eraseIdx (Rs.length + 1))
 | [],c,_,⟨p,q,e,p',q',e',h⟩=>by
  subst e e'
  exact ⟨p,p',rfl,rfl,p,q',by refine gw hl ?_;rfl,by rwa [hl,← xo]⟩
 | R::Rs,c,_,⟨p,q,e,h⟩=>by
  subst e
  refine ex2 (Ps.mid hl h) fun pw pw' q_h=>?_;refine an3 q_h fun h1 h2 h3=>?_
  rw [xo c,← zd] at h1 h2 h3
  exact ⟨pw,pw',h1,h2,p,_,rfl,h3⟩
theorem Ps.pow {f:Nat×Nat×Nat->Nat×Nat×Nat} (hf:∀ a b c,∃ d,f (a,b,c)=(a,b,d)):∀ {Rs:List (List Keyed)}{c i:Nat}{ps:List (Nat×Nat×Nat)},Ps c Rs ps->Ps c Rs (ps.modify i f)
 | [],_,_,_,h=>by refine gw (h:_=[]) (gw (List.modify_nil ..) ?_);rfl
 | R::Rs,c,0,_,⟨p,q,e,h⟩=>by
  subst e
  obtain ⟨d,e⟩:=hf c R.length p
  exact ⟨d,q,by exact gw (List.modify_zero_cons ..) (gw e rfl),h⟩
 | R::Rs,c,i + 1,_,⟨p,q,e,h⟩=>by
  subst e
  exact ⟨p,_,by exact gw (List.modify_succ_cons ..) rfl,h.pow hf⟩
structure Rw (L:List Keyed) (Rs:List (List Keyed)) (T:List Keyed) (st:SortSt):Prop where
 sl:Sl (Rs.flatten++T) (pendingOf st) st
 pm:(Rs.flatten++T).Perm L
 up:∀ R∈Rs,R≠[]/\Up2 R
 ps:Ps 0 Rs (pendingOf st).toList
section
variable {c:Cw}{α:Type}{st:SortSt}{L T:List Keyed}{Rs:List (List Keyed)}
theorem Rw.size (h:Rw L Rs T st):(pendingOf st).size=Rs.length:=by refine bw (yn ..) ?_;exact h.ps.len
theorem split2 {α:Type}{l:List α}{i:Nat} (h:i + 1 < l.length):∃ a x y b,l=a++x::y::b/\a.length=i :=
 ⟨l.take i,l[i],l[i + 1],l.drop (i + 2),by exact bw (y8 h ..) (bw (y8 (xe h) ..) (gw (z6 ..) rfl)),by exact gw (yu ..) (gw (yf (z9 (xe h)) ..) rfl)⟩
theorem w_step {i:Nat}{Q:Bool->SortSt->Prop} (kd:∀ x∈L,Kd x) (r:Rw L Rs T st) (hi:i + 1 < Rs.length)
  (h:∀ st' Rs',Rw L Rs' T st'->Rs'.length + 1=Rs.length->Rs'.flatten.length=Rs.flatten.length->Q true st'):Ws c (mergeAt' i) Q st:=by
 refine ex4 (split2 hi) fun Rs1 X Y Rs2 q_h=>?_;obtain ⟨q_4,q_5⟩:=q_h;obtain rfl:=q_4;obtain rfl:=q_5
 have hl:(mrg X Y).length=X.length + Y.length:=by exact gw ((mrg_perm X Y).length_eq ..) (gw (zd ..) rfl)
 refine ex2 (Ps.mid hl r.ps) fun pw pw' q_h=>?_;refine an3 q_h fun h1 h2 h3=>?_
 rw [zo,xh] at h1 h2
 replace h3:=(zo ..)▸h3
 have e:(Rs1++X::Y::Rs2).flatten++T=Rs1.flatten++(X++(Y++(Rs2.flatten++T))):=by
  exact gw (km ..) (gw (ji ..) (gw (ji ..) (gw (zk ..) (gw (zk ..) (gw (zk ..) rfl)))))
 have e':(Rs1++mrg X Y::Rs2).flatten++T=Rs1.flatten++(mrg X Y++(Rs2.flatten++T)):=by
  exact gw (km ..) (gw (ji ..) (gw (zk ..) (gw (zk ..) rfl)))
 have ux:=r.up X (yp _ zh)
 have uy:=r.up Y (yp _ (zj _ zh))
 have kd':∀ x∈X++(Y++(Rs2.flatten++T)),Kd x:=fun x hx=>kd x (r.pm.mem_iff.mp (e▸yp _ hx))
 have pq:(Rs1.flatten++(mrg X Y++(Rs2.flatten++T))).Perm (Rs1.flatten++(X++(Y++(Rs2.flatten++T)))):=by
  refine bw (zk X ..) ?_
  exact ((mrg_perm X Y).append_right _).append_left _
 refine w_at r.sl.kind r.sl.failed (r.sl.arr.trans e) h1 h2 ux.1 uy.1 ux.2 uy.2 (fun x hx=>kd' x (wk _ hx)) (fun x hx=>kd' x (yp _ (wk _ hx))) fun st' xs sk ex=>h st' (Rs1++mrg X Y::Rs2) ⟨⟨sk.kind,sk.failed,by exact gw (sk.arr ..) (gw ex (gw e' rfl)),rfl⟩,by refine gw e' ?_;exact pq.trans (e▸r.pm),fun R hR=>?_,?_⟩ ?_ ?_
 ·rcases z5.mp hR with hR | hR
  ·exact r.up R (wk _ hR)
  ·rcases zy.mp hR with rfl | hR
   ·refine ⟨fun e0=>ux.1 (xz ?_),mrg_up ux.2 uy.2⟩
    replace hl:=e0▸hl
    exact (Nat.eq_zero_of_add_eq_zero hl.symm).1
   ·exact r.up R (yp _ (zj _ (zj _ hR)))
 ·refine gw (sk.pend ..) (gw (Array.toList_eraseIdxIfInBounds ..) (gw (gu ..) ?_))
  exact h3
 ·refine gw (zd ..) (gw (zd ..) ?_);rfl
 ·have:=pq.length_eq
  replace this:=(zd (as:=(Rs1++X::Y::Rs2).flatten) ..)▸(zd ..)▸e'▸e▸this
  exact Nat.add_right_cancel this
theorem pen {n:Nat} (h:1 < n):n - 2 + 1 < n:=by
 obtain ⟨m,rfl⟩:=Nat.exists_eq_add_of_le' h
 exact yo _
theorem ws_jpn {J:Nat->So α}{p:Prop}{_:Decidable p}{x:So α}{i:Nat}{Q:α->SortSt->Prop} (C:Nat->SortSt->Prop) (h:∀ st i,C i st->Ws c (J i) Q st)
  (hy:¬p->C i st) (hx:(∀ st i,C i st->Ws c (J i) Q st)->p->Ws c x Q st):Ws c (if p then x else J i) Q st:=ws_if (hx h) fun e=>h _ _ (hy e)
theorem ws_jpo {J:So α}{Q:α->SortSt->Prop} (C:SortSt->Prop) {x:So α} (h:∀ st,C st->Ws c J Q st) (hx:(∀ st,C st->Ws c J Q st)->Ws c x Q st):Ws c x Q st:=hx h
theorem Rw.push {Z:List Keyed}{m:Nat} (r:Rw L Rs Z st) (h1:0 < m) (h2:m<=Z.length) (hu:Up2 (Z.take m)) {lo:Nat} (hl:lo=Rs.flatten.length) :
  Rw L (Rs++[Z.take m]) (Z.drop m) (setPending st ((pendingOf st).push (lo,m,0))):=by
 have e:(Rs++[Z.take m]).flatten++Z.drop m=Rs.flatten++Z:=by
  exact gw (km ..) (gw (zk ..) (gw (jl ..) (gw (z6 ..) rfl)))
 have lm:(Z.take m).length=m:=by exact gw (yu ..) (gw (yf h2 ..) rfl)
 refine ⟨⟨r.sl.kind,r.sl.failed,r.sl.arr.trans e.symm,rfl⟩,e▸r.pm,fun R hR=>?_,?_⟩
 ·rcases z5.mp hR with hR | hR
  ·exact r.up R hR
  ·obtain rfl:=zg.mp hR
   exact ⟨ul.mp (lm.symm▸h1),hu⟩
 ·have:=r.ps.snoc (R:=Z.take m) (pw:=0)
  replace this:=hl▸lm▸(zo ..)▸this
  show Ps 0 _ ((pendingOf st).push (lo,m,0)).toList
  rwa [u0]
theorem len_flat:∀ {Rs:List (List Keyed)},(∀ R∈Rs,R≠[])->Rs.length<=Rs.flatten.length
 | [],_=>ze _
 | R::Rs,h=>by
  have a:=len_flat fun R' hR=>h R' (zj _ hR)
  refine gw (xy ..) (gw (ji ..) (gw (zd ..) (gw (vx ..) ?_)))
  exact xc (ul.mpr (h R zh)) a
theorem up_flat (hl:Rs.length<=1) (h:∀ R∈Rs,Up2 R):Up2 Rs.flatten:=by
 cases Rs with
 | nil=>exact .nil
 | cons R Rs =>
  obtain rfl:=xz (jm (zaa hl))
  refine gw (jl ..) ?_
  exact h R zh
theorem Rw.mk' {Z:List Keyed}{pn:Array (Nat×Nat×Nat)}{st':SortSt} (r:Rw L Rs T st) (pm:Z.Perm T) (sl:Sl (Rs.flatten++Z) (pendingOf st) st'):Rw L Rs Z st' :=
 ⟨⟨sl.kind,sl.failed,sl.arr,rfl⟩,(pm.append_left _).trans r.pm,r.up,by refine gw (sl.pend ..) ?_;exact r.ps⟩
theorem w_runs {Q:Unit->SortSt->Prop} (kd:∀ x∈L,Kd x) (df:Df L) (hs:Sl L #[] st)
  (h:∀ st' l,Sl l (pendingOf st') st'->l.Perm L->Up2 l->Q () st'):Ws c sortRuns' Q st:=by
 refine ws_bind (ws_get ?_)
 have sz:(arrOf st).size=L.length:=by exact bw (yn ..) (gw (hs.arr ..) rfl)
 dsimp -zeta only [nx]
 refine gw sz ?_
 extract_lets -underBinder size minrun lo
 refine ws_for (I:=fun x g st=>∃ Rs T,g=Rs.flatten.length/\Rw L Rs T st/\x<=Rs.flatten.length) (F:=fun g st=>∃ Rs,g=L.length/\Rw L Rs [] st) (D:=fun _ _=>False) ⟨[],L,rfl,⟨⟨hs.kind,hs.failed,hs.arr,rfl⟩,.refl _,(fun _ h=>nomatch h),by refine gw (hs.pend ..) ?_;rfl⟩,z7 _⟩ ?_ ?_ (fun _ _ _ e=>e.elim) ?_
 ·rintro x st - hx _ ⟨Rs,T,rfl,r,hl⟩
  have lT:Rs.flatten.length + T.length=L.length:=by refine bw (zd ..) ?_;exact r.pm.length_eq
  refine ws_if (p:=Rs.flatten.length ≥ L.length) (fun e=>ws_pure ⟨Rs,?_,?_⟩) fun e=>?_
  ·exact vd (lT▸zp ..) e
  ·obtain rfl:T=[]:=xz (jm (ku (lT.symm▸e:Rs.flatten.length + T.length<=Rs.flatten.length + 0)))
   exact r
  have kT:∀ x∈T,Kd x:=fun x hx=>kd x (r.pm.mem_iff.mp (yp _ hx))
  have dT:Df T:=(wx.mp ((r.pm.pairwise_iff fun h=>h.symm).mpr df)).2.1
  have eN:L.length - Rs.flatten.length=T.length:=by exact bw lT (gw (xk ..) rfl)
  have T0:0 < T.length:=eN▸w0 (xd e)
  refine ws_bind (w_count (N:=L.length - Rs.flatten.length) eN r.sl kT dT T0 fun st1 n Z' h1 h2 pm hu sl=>?_)
  dsimp -zeta only [nx]
  extract_lets -underBinder n' jp
  refine ws_jpn (J:=jp ()) (fun m st'=>∃ Z',0 < m/\m<=T.length/\Z'.Perm T/\Up2 (Z'.take m)/\Rw L Rs Z' st') ?_ ?_ ?_
  ·rintro st m ⟨Z,h1,h2,pm,hu,r⟩
   refine ws_bind (ws_get ?_)
   dsimp -zeta only [nx]
   extract_lets -underBinder jp2
   refine ws_jpo (J:=jp2 ()) (fun st=>∃ Rs',Rw L Rs' Z st/\Rs'.flatten.length=Rs.flatten.length) ?_ fun H=>?_
   ·rintro st ⟨Rs',r',e'⟩
    have l2:m<=Z.length:=by refine gw (pm.length_eq ..) ?_;exact h2
    have el:(Rs'++[Z.take m]).flatten.length=Rs.flatten.length + m:=by exact gw (km ..) (gw (zd ..) (gw e' (gw (jl ..) (gw (yu ..) (gw (yf l2 ..) rfl)))))
    exact ws_bind (ws_mod (ws_pure ⟨_,_,el.symm,r'.push h1 l2 hu e'.symm,by refine gw el ?_;exact xc hl h1⟩))
   ·generalize (pendingOf st).back?=o
    cases o with
    | none=>exact H st ⟨Rs,r,rfl⟩
    | some q =>
     refine ws_for (I:=fun _ g st=>∃ Rs',Rw L Rs' Z st/\Rs'.flatten.length=Rs.flatten.length) (F:=fun g st=>∃ Rs',Rw L Rs' Z st/\Rs'.flatten.length=Rs.flatten.length) (D:=fun _ _=>False) ⟨Rs,r,rfl⟩ ?_ (fun _ _ h=>h) (fun _ _ _ e=>e.elim) ?_
     ·rintro y st - - _ ⟨Rs',r',e'⟩
      refine ws_bind (ws_get ?_)
      dsimp -zeta only [nx]
      extract_lets -underBinder p
      generalize hg:(if p.size > 1 then p[p.size - 2]? else none)=o
      cases o with
      | none=>exact ws_pure ⟨Rs',r',e'⟩
      | some o =>
       have hp:1 < p.size:=Decidable.byContradiction fun hn=>by replace hg:=(if_neg hn ..)▸hg;exact nomatch hg
       have hq:p.size=Rs'.length:=r'.size
       exact ws_if (fun _=>ws_pure ⟨Rs',r',e'⟩) fun _=>ws_bind (w_step kd r' (hq▸pen hp) fun st' Rs'' r'' _ l2=>ws_if (fun e=>nomatch e) fun _=>ws_pure ⟨Rs'',r'',l2.trans e'⟩)
     ·rintro st _ ⟨Rs',r',e'⟩
      refine ws_bind (ws_mod (H _ ⟨Rs',⟨⟨r'.sl.kind,r'.sl.failed,r'.sl.arr,rfl⟩,r'.pm,r'.up,?_⟩,e'⟩))
      have:=r'.ps.pow (i:=(pendingOf st).size - 1) (f:=fun x=>(x.1,x.2.1,power' L.length (2 * q.1 + q.2.1) (2 * q.1 + q.2.1 + q.2.1 + m) L.length)) fun a b c=>⟨_,rfl⟩
      replace this:=(Array.toList_modify ..)▸this
      exact this
  ·exact fun _=>⟨Z',h1,h2,pm,hu,r.mk' (pn:=#[]) pm sl⟩
  ·intro H e
   have le:n<=min (L.length - Rs.flatten.length) minrun:=Nat.le_min.mpr ⟨eN.symm▸h2,z9 e⟩
   have le2:min (L.length - Rs.flatten.length) minrun<=T.length:=za (kn ..) (ya eN)
   exact ws_bind (ws_rule (ws_bind (w_bins sl (fun x hx=>kT x (pm.mem_iff.mp hx)) (n:=min (L.length - Rs.flatten.length) minrun) (by refine gw (pm.length_eq ..) ?_;exact le2) h1 le hu fun st2 Z2 pm2 hu2 sl2=>ws_if (fun e=>nomatch e) fun _=>H _ _ ⟨Z2,zm h1 le,le2,pm2.trans pm,hu2,r.mk' (pn:=#[]) (pm2.trans pm) sl2⟩)))
 ·rintro _ st ⟨Rs,T,rfl,r,hl⟩
  have lT:Rs.flatten.length + T.length=L.length:=by refine bw (zd ..) ?_;exact r.pm.length_eq
  have hl:L.length<=Rs.flatten.length:=za (uk ..) hl
  obtain rfl:T=[]:=xz (jm (ku (lT.symm▸hl:Rs.flatten.length + T.length<=Rs.flatten.length + 0)))
  exact ⟨Rs,lT,r⟩
 ·rintro st _ ⟨Rs,rfl,r⟩
  have l0:Rs.length<=L.length:=by
   have:=r.pm.length_eq
   replace this:=(yi ..)▸this
   refine bw (this ..) ?_
   exact len_flat fun R hR=>(r.up R hR).1
  refine ws_for (I:=fun y g st=>∃ Rs,Rw L Rs [] st/\(Rs.length<=1∨Rs.length + y<=L.length)) (F:=fun g st=>∃ Rs,Rw L Rs [] st/\Rs.length<=1) (D:=fun _ _=>False) ⟨Rs,r,.inr l0⟩ ?_ ?_ (fun _ _ _ e=>e.elim) ?_
  ·rintro y st - hy _ ⟨Rs,r,hl⟩
   refine ws_bind (ws_get ?_)
   dsimp -zeta only [nx]
   extract_lets -underBinder p i before i'
   have hq:p.size=Rs.length:=r.size
   refine ws_if (fun e=>ws_pure ⟨Rs,r,hq▸e⟩) fun e=>?_
   have hi:i'<=i:=by
    show (if _ then i - 1 else i)<=i
    split
    ·exact wc ..
    ·exact ze _
   exact ws_bind (w_step kd r (yk (zq hi) (hq▸pen (xd e))) fun st' Rs' r' l1 _=>ws_if (fun e=>nomatch e) fun _=>ws_pure ⟨Rs',r',hl.elim (fun q=>absurd (hq.symm▸q) e) fun q=>.inr (za (ya ((xo ..).symm.trans (je ..))) (l1.symm▸q))⟩)
  ·rintro _ st ⟨Rs,r,hl⟩
   exact ⟨Rs,r,hl.elim id fun q=>zr (uj fun q0=>absurd (za (yl (uk ..) _) q) (fo (Nat.lt_add_of_pos_left q0)))⟩
  ·rintro st _ ⟨Rs,r,hl⟩
   refine ws_pure (h st _ r.sl r.pm ?_)
   refine gw (yi ..) ?_
   exact up_flat hl fun R hR=>(r.up R hR).2
end
end Mine
namespace Mine
open PySem PyProof.Rows PySem.Calls PySem.SeqAt
section
variable {X:W}{A:Around}{d:Nat}{s s' s'' s₀:Shared}{μ μ' μ'' μ₀:List Addr}{σ σ' σ'' σ₀:H}
theorem strs_as {h:Heap}{xs:List V}{l:List Value} (r:VRs X h μ xs l):∀ {ss:List (List Nat)},strsOf xs=some ss->∃ ys,StrsAre l ys/\ss=ys.map codes/\∀ y∈ys,y.length<=Mine.lim:=by
 induction r using VRs.rec (motive_1:=fun _ _ _=>True) with
 | nil=>intro ss e;cases e;exact ⟨[],.nil,rfl,fun _ h=>absurd h z0⟩
 | cons r rs _ ih =>
  intro ss e
  cases r <;> first | (cases e;done) | skip
  rename_i x t z
  obtain ⟨b,hb,rfl⟩:=zn.mp e
  obtain ⟨ys,q_h⟩:=(ih hb);refine an3 q_h fun h1 q_2 h3=>?_;obtain rfl:=q_2
  exact ⟨x::ys,.cons x t h1,rfl,fun y hy=>(zy.mp hy).elim (fun q=>q▸z) (h3 y)⟩
 | _=>trivial
theorem strs_to {h:Heap}{l:List Value}{ys:List Str} (r:StrsAre l ys):(∀ y∈ys,y.length<=Mine.lim)->VRs X h μ ((ys.map codes).map V.str) l:=by
 induction r with
 | nil=>intro _;exact .nil
 | cons x t r ih=>intro h;exact .cons (.str x t (h x (zh ..))) (ih fun y hy=>h y (zj _ hy))
theorem up_short {l:List Keyed} (h:l.length < 2):Up2 l:=by
 cases l with
 | nil=>exact .nil
 | cons x l =>
  obtain rfl:=xz (uc.mp (zab h))
  exact wj _ _
theorem two_of {l:List Value} (h:¬ l.length < 2):∃ a b r,l=a::b::r:=by
 cases l with
 | nil=>exact absurd (by decide) h
 | cons a l =>
  cases l with
  | nil=>exact absurd (yo 1) h
  | cons b r=>exact ⟨a,b,r,rfl⟩
theorem zip_twice:∀ vs:List Value,vs.zip vs=vs.map fun v=>(v,v)
 | []=>rfl
 | v::vs=>congrArg ((v,v)::·) (zip_twice vs)
theorem df_of {vs:List Value}{ss:List Str} (hS:StrsAre vs ss) (hd:ss.Nodup):Df (vs.zip vs):=by
 refine gw (zip_twice ..) ?_
 replace hd:=(hS.strs ..)▸hd
 refine jj.mpr ((jj.mp hd).imp_of_mem fun {v w} hv hw e=>?_)
 obtain ⟨x,t,rfl⟩:=hS.all _ hv
 obtain ⟨y,u,rfl⟩:=hS.all _ hw
 show decide (codes x < codes y)=true∨decide (codes y < codes x)=true
 cases h1:decide (codes x < codes y) with
 | true=>exact .inl rfl
 | false =>
  cases h2:decide (codes y < codes x) with
  | true=>exact .inr rfl
  | false=>exact absurd (codes_inj (SK.total _ _ h1 h2)) e
theorem out_of {vs:List Value}{ss:List Str} (hS:StrsAre vs ss) {l:List Keyed} (hp:l.Perm (vs.zip vs)) (hu:Up2 l):∃ ys,StrsAre (l.map (·.2)) ys/\ys.Perm ss/\ys.map codes=sort lexLe (ss.map codes):=by
 have hm:∀ p∈l,p.1=p.2/\p.1∈vs:=fun p h=>mem_zip_self (hp.mem_iff.mp h)
 have p1:((l.map (·.2)).map strOf).Perm ss:=by
  have:=(hp.map (·.2)).map strOf
  rwa [List.map_snd_zip (ze _),hS.strs] at this
 refine ⟨_,strsAre_map _ fun v hv=>?_,p1,up_eq ((p1.map codes).trans (sort_perm _).symm) ?_ (sort_up _)⟩
 ·obtain ⟨p,h,rfl⟩:=w4.mp hv
  obtain ⟨e,h⟩:=hm p h
  exact hS.all _ (e▸h)
 ·refine gw (ug ..) (gw (ug ..) ?_)
  refine jj.mpr (hu.imp_of_mem fun {p q} hp hq e=>?_)
  obtain ⟨e1,h1⟩:=hm p hp
  obtain ⟨e2,h2⟩:=hm q hq
  obtain ⟨x,t,h1⟩:=hS.all _ h1
  obtain ⟨y,u,h2⟩:=hS.all _ h2
  show (!decide (codes (strOf q.2) < codes (strOf p.2)))=true
  refine bw e1 (bw e2 (gw h1 (gw h2 ?_)))
  unfold lk ky at e
  replace e:=h2▸h1▸e
  exact congrArg not e
theorem list_sort_strs {D:Addr}{n:Nat}{vs:List Value}{ss:List Str}{Q:Value->Shared->Prop}{E:Value->Shared->Prop} (ho:s.heap.get? D=some (seqObj "list" vs.toArray n)) (hS:StrsAre vs ss) (hd:ss.Nodup) (hz:vs.length<=sizeLine)
  (h:∀ (out:Array Value) (ys:List Str),StrsAre out.toList ys->ys.Perm ss->ys.map codes=sort lexLe (ss.map codes)->Q .none { s with heap:=sortedHeap s.heap D vs out }) :
  wpAny (Mo X) A (yd (.builtin "list.sort") [.ref D]) Q E s:=by
 have fin:∀ st':SortSt,(arrOf st').toList.Perm (vs.zip vs)->Up2 (arrOf st').toList->Q .none { s with heap:=sortedHeap s.heap D vs ((arrOf st').map (·.2)) }:=fun st' h1 h2=>by
  obtain ⟨ys,q_h⟩:=(out_of hS h1 h2);refine an3 q_h fun a1 a2 a3=>?_
  exact h _ ys (by refine gw (Array.toList_map ..) ?_;exact a1) a2 a3
 by_cases h2:vs.length < 2
 ·refine wpAny_call_entry slot_list_sort ⟨_,ho,rfl⟩ entry_list_sort (list_sort_treeK strKind_oneLt ho hS.keysOf (fun v₁ v₂ rest e=>keyKind_strs (by refine bw e ?_;exact hS)) (zm h2 (by decide)) fun st' a1 a2=>⟨_,rfl,fin st' (by refine bw (pairsOf_toList ..) ?_;exact Array.perm_iff_toList_perm.mp a1) ?_⟩) (args_list_sort _)
  exact up_short (by rw [yn,a1.size_eq,pairsOf_size];exact h2)
 ·refine ex2 (two_of h2) fun v₁ v₂ q_h=>?_;obtain ⟨rest,q_3⟩:=q_h;obtain rfl:=q_3
  generalize hv:v₁::v₂::rest=vs at *
  refine wpAny_call_entry slot_list_sort ⟨_,ho,rfl⟩ entry_list_sort ?_ (args_list_sort _)
  refine gw (list_sort_plain ..) ?_
  have ha:D < s.heap.objs.size:=yb ho
  refine wpAny_bind (listItems_at ho rfl (wpAny_bind (listUpdate_at ho rfl ?_)))
  have ho1:=get?_update_seq ho (fun _=>#[])
  refine wpAny_bind (seqEpoch_at ho1 rfl (wpAny_bind (wpAny_newTuple (wpAny_bind (wpAny_newList (wpAny_holding ?_))))))
  have h2':¬ vs.toArray.size < 2:=by refine gw (yq ..) ?_;exact h2
  have ho6:∀ (o1 o2:Obj),(((s.heap.update D (Obj.mapSeq fun _=>#[])).push o1).push o2).get? D=some (seqObj "list" #[] _):=fun o1 o2=>zz _ (zz _ ho1)
  dsimp only
  rw [if_neg h2',if_neg h2',← hv,keyKind_strs (by refine gw hv ?_;exact hS),hv]
  have hk:∀ x∈vs.zip vs,Kd x:=fun p hp=>by
   obtain ⟨x,t,e⟩:=hS.all _ (mem_zip_self hp).2
   exact ⟨_,by exact gw e rfl⟩
  refine wpAny_bind (wpAny_pure (wpAny_bind (wpAny_mono (w_runs (c:=⟨X.prog,X.w,A.in1,E,_⟩) (L:=vs.zip vs) hk (df_of hS hd) ⟨rfl,rfl,by show (vs.toArray.zip vs.toArray).toList=_;simp,rfl⟩ (Q:=fun _ st'=>(arrOf st').toList.Perm (vs.zip vs)/\failedOf st'=none/\Up2 (arrOf st').toList) fun st' l hs hp hu=>⟨hs.arr▸hp,hs.failed,hs.arr▸hu⟩) ?_ fun _ _ e=>e)))
  rintro ⟨⟨⟩,st'⟩ s' ⟨rfl,hp,hf,hu⟩
  dsimp only
  refine wpAny_bind (seqEpoch_at (ho6 _ _) rfl ?_)
  refine wpAny_bind (listUpdate_at (ho6 _ _) rfl ?_ (hsz2:=?_))
  ·refine gw hf ?_
   simp only [bne_self_eq_false,Bool.false_eq_true,if_false]
   exact wpAny_pure ⟨_,rfl,fin st' hp hu⟩
  ·have:=hp.length_eq
   replace this:=(zb ..)▸(zip_twice ..)▸(yn ..)▸this
   refine gw (Array.size_map ..) (gw (this ..) ?_)
   exact za hz (yh _)
theorem sm_collect (c:Cn X A d true s μ σ) {B:Around} (hh:B.handled=none) {i:Nat}{a:Addr} (hm:μ[i]?=some a) {xs:List V} (e:itemsV σ (.ref i)=some xs) {Q:List Value->Shared->Prop}{E:Value->Shared->Prop}
  (h:∀ h' tk acc,(∀ b o,s.heap.get? b=some o->h'.get? b=some o)->VRs X h' μ xs acc->xs.length<=lim->Q acc { s with heap:=h',toks:=tk }):wpAny (Mo X) B (collect (.ref a)) Q E s:=by
 rcases ho:σ[i]? with _ | ⟨ys⟩ | ⟨kvs⟩
 ·have:itemsV σ (.ref i)=none:=by unfold itemsV;simp only [ho]
  replace e:=(this ..)▸e;cases e
 ·have:itemsV σ (.ref i)=some ys:=by unfold itemsV;simp only [ho]
  cases this.symm.trans e
  refine ex2 (c.list ho hm) fun l n q_h=>?_;refine an3 q_h fun el rr hz=>?_
  have hk:∀ b o,s.heap.get? b=some o->((s.heap.push (seqObj "list" #[] 0)).update s.heap.objs.size (Obj.mapSeq (·++l.toArray))).get? b=some o:=fun b o e=>(xa _ _ (xt (yb e))).trans (zz _ e)
  exact collect_list ⟨_,el,rfl,_,rfl⟩ (h _ s.toks l hk (rr.mono (fun b o e _=>hk b o e) fun _ _ e=>e) (by refine gw (rr.length ..) ?_;exact hz)) hz
 ·have:itemsV σ (.ref i)=some (kvs.map fun p=>V.str p.1):=by unfold itemsV;simp only [ho]
  cases this.symm.trans e
  obtain ⟨l,q_h⟩:=(c.dict ho hm);refine an3 q_h fun D rr hz=>?_
  obtain ⟨ep,DA⟩:=D.dictAt
  exact PySem.W.kdu_collect (PySem.W.kdl_dict (ep:=ep) (c.noSys hm)) hh DA hz fun h' tk acc hk hacc=>h h' tk acc.toList hk (keys_vrs rr hacc h') (by refine gw (zb ..) (gw (rr.length ..) ?_);exact hz)
theorem sm_sorted (c:Cn X A d true s μ σ) {v:V}{u:Value} (r:VR X s.heap μ v u):Sm X (Wp X A (yd (.builtin "sorted") [u])) (biV X.ns .sorted v σ) (Rl X) s μ:=by
 cases r <;> first | exact Sm.stuck | skip
 rename_i i a hm
 show Sm X _ ((pick ((itemsV σ (.ref i)).bind sortV)).bnd newL σ) _ _ _
 cases he:itemsV σ (.ref i) with
 | none=>exact Sm.stuck
 | some xs =>
  refine gw (ww ..) ?_
  unfold sortV
  cases hs:strsOf xs with
  | none=>exact Sm.stuck
  | some ss =>
   refine gw (ww ..) ?_
   by_cases hd:ss.Nodup
   ·refine gw (if_pos hd ..) ?_
    refine newL_ok fun hl=>c.madeL hl fun Q E h=>?_
    refine call_function_entry kind_sorted plain_sorted entry_sorted (args_sorted1 _) ?_
    unfold Builtin.«sorted»
    refine wpAny_bind (m:=checkCount "sorted" 1 1 _) (wpAny_pure ?_)
    refine wpAny_bind (sized (sm_collect c (B:=A.in1) (c.rm.handled rfl) hm he fun h' tk acc hk rk hz hsz=>?_))
    obtain ⟨ys,q_h⟩:=(strs_as rk hs);refine an3 q_h fun h1 q_2 h3=>?_;obtain rfl:=q_2
    have hzl:acc.length<=sizeLine:=by refine bw (rk.length ..) ?_;exact hz
    refine wpAny_bind (wpAny_newList ?_ hzl)
    have hoL:(h'.push (seqObj "list" acc.toArray 0)).get? h'.objs.size=some (seqObj "list" acc.toArray 0):=ym _ rfl
    refine wpAny_bind (wpAny_holding (list_sort_strs (s:={ s with heap:=h'.push (seqObj "list" acc.toArray 0),toks:=tk }) hoL h1 ((jj.mp hd).imp fun h e=>h (congrArg codes e)) hzl fun out ss' a1 a2 a3=>?_))
    refine wpAny_pure ⟨_,rfl,?_⟩
    obtain ⟨e,he⟩:=sortedHeap_at (vs:=acc) (out:=out) hoL
    refine h _ _ tk e out.toList hsz (fun b o eb=>?_) (by simpa [seqObj] using he) ?_
    ·have:=yb (hk b o eb)
     exact (sortedHeap_old (yj this) (by refine gw (wf ..) ?_;exact wa this)).trans (zz _ (hk b o eb))
    ·refine bw a3 ?_
     exact strs_to a1 fun y hy=>h3 y (a2.mem_iff.mp hy)
   ·refine gw (if_neg hd ..) ?_;exact Sm.stuck
end
end Mine
namespace Mine
open PySem PyProof.Rows PySem.Calls PySem.SeqAt
section
variable {X:W}{A:Around}{d:Nat}{s:Shared}{μ:List Addr}{σ:H}
theorem ints_at {h:Heap}:∀ {xs:List V}{l:List Value}{is:List Int},intsOf xs=some is->VRs X h μ xs l->IntsAre l is:=by
 intro xs
 induction xs with
 | nil=>intro l is e r;cases r;cases e;exact .nil
 | cons x xs ih =>
  intro l is e r
  cases r with
  | cons r rs =>
   cases r <;> first | (cases e;done) | skip
   obtain ⟨is',h',rfl⟩:=zn.mp e
   exact .cons _ _ (ih h' rs)
theorem lt_ints {i j:Int}{t t':Tok}{Q:Value->Shared->Prop}{E:Value->Shared->Prop} (h:Q (.bool (decide (i < j))) s):wpAny (Mo X) A (richCompare .Lt (.int i t) (.int j t')) Q E s :=
 CmpOf.ints_lt (P:=fun k v=>∃ t,v=.int (if k=0 then i else j) t) (fun k=>if k=0 then i else j) (fun _ _ h=>h) 0 1 _ _ s Q E ⟨t,rfl⟩ ⟨t',rfl⟩ h
theorem min_name:(toString "min"++toString ".loop":String)="min.loop":=by decide
theorem min_rest {kw:List (Str×Value)}{R:Result->Shared->Prop}{a J S:Addr}{vs:List Value} (hh:A.handled=none) (hSJ:S≠J) (hSa:S≠a) (haJ:a≠J) :
  ∀ (rest:List Value) (is:List Int) (j:Nat) (s:Shared) (m:Int) (t:Tok) (c:Nat),IntsAre rest is->(∀ k,vs[j + k]?=rest[k]?)->s.heap.IsListIter J a j->s.heap.IsList a vs.toArray ->
   s.heap.get? S=some { cls:=.type "list",dict:=none,data:=.seq #[.int m t,.int m t] c,slots:=#[] } ->
   (∀ t' h' tk,(∀ b o,b≠J->b≠S->s.heap.get? b=some o->h'.get? b=some o)->R (.ok (.ret (.int (is.foldl min m) t'))) { s with heap:=h',toks:=tk }) ->
   codeAny (Mo X) A (.builtin "min.loop" ⟨[.ref J,.none,.ref S],kw⟩) R s:=by
 intro rest
 induction rest with
 | nil =>
  intro is j s m t c hi hd hJ hL hS hR
  cases hi
  refine codeAny_builtin PySem.F.entry_min_loop ?_
  refine gw (Around.under_plainId PySem.F.plain_min_loop _ ..) ?_
  show wpAny _ A.in1 (seqItems? (.ref S) >>= _) _ _ s
  refine wpAny_bind (wpAny_seqItems hS rfl ?_)
  show wpAny _ A.in1 (tryCatch (pyNext (.ref J)) _ >>= _) _ _ s
  refine wpAny_bind (wpAny_tryCatch (wpAny_pyNext_list_end hh hJ hL (by refine gw (w7 ..) ?_;exact hd 0) fun h' he=>?_))
  have hS':=he S _ hSJ hS
  show wpAny _ A.in1 (updateSeq S (fun _=>#[]) >>= _) _ _ _
  exact wpAny_bind (wpAny_updateSeq hS' rfl (wpAny_bind (wpAny_letGo (wpAny_pure (hR t _ _ fun b o hbJ hbS e=>(xa _ _ (Ne.symm hbS)).trans (he b o hbJ e))))))
 | cons v rest ih =>
  intro is j s m t c hi hd hJ hL hS hR
  cases hi with
  | cons i t' hi =>
   rename_i is
   refine codeAny_builtin PySem.F.entry_min_loop ?_
   refine gw (Around.under_plainId PySem.F.plain_min_loop _ ..) ?_
   show wpAny _ A.in1 (seqItems? (.ref S) >>= _) _ _ s
   refine wpAny_bind (wpAny_seqItems hS rfl ?_)
   show wpAny _ A.in1 (tryCatch (pyNext (.ref J)) _ >>= _) _ _ s
   refine wpAny_bind (wpAny_tryCatch (wpAny_pyNext_list_item hJ hL (x:=.int i t') (by refine gw (w7 ..) ?_;exact hd 0) fun h' hit hs=>?_))
   have keep:∀ b o,b≠J->s.heap.get? b=some o->h'.get? b=some o:=fun b o hb e=>hs.extBut b o hb e
   have hS':=keep S _ hSJ hS
   have hL':h'.IsList a vs.toArray:=hL.extBut hs.extBut haJ
   have hd':∀ k,vs[j + 1 + k]?=rest[k]?:=fun k=>by refine gw (xo ..) (gw (vx 1 k ..) ?_);exact hd (k + 1)
   show wpAny _ A.in1 (tryCatch (holding [.int i t',.int i t'] (richCompare .Lt (.int i t') (.int m t) >>= _)) _ >>= _) _ _ _
   refine wpAny_bind (wpAny_tryCatch (wpAny_holding (wpAny_bind (lt_ints (wpAny_bind (wpAny_holding (wpAny_truthy_bool (wpAny_bind (wpAny_letGo (wpAny_pure ?_))))))))))
   by_cases hb:i < m
   ·refine gw (decide_eq_true hb ..) ?_
    show wpAny _ A.in1 (updateSeq S (fun _=>#[.int i t',.int i t']) >>= _) _ _ _
    refine wpAny_bind (wpAny_updateSeq hS' rfl (wpAny_bind (wpAny_letGo ?_)))
    refine gw (min_name ..) ?_
    have keep2:∀ b o,b≠S->h'.get? b=some o->(h'.update S (Obj.mapSeq fun _=>#[.int i t',.int i t'])).get? b=some o:=fun b o hb e=>(xa _ _ (Ne.symm hb)).trans e
    refine wpAny_pure ⟨plainId_quiet PySem.F.plain_min_loop _,ih is (j + 1) _ i t' _ hi hd' (hit.at fun o e=>keep2 _ o (Ne.symm hSJ) e) (hL'.at fun o e=>keep2 _ o (Ne.symm hSa) e) (wu _ hS' rfl) fun t'' h'' tk k=>?_⟩
    have e:min m i=i:=jo (jb hb)
    replace hR:=(show (i::is).foldl min m=is.foldl min i from congrArg (fun z=>is.foldl min z) e)▸hR
    exact hR t'' h'' tk fun b o hbJ hbS eb=>k b o hbJ hbS (keep2 b o hbS (keep b o hbJ eb))
   ·refine gw (decide_eq_false hb ..) ?_
    show wpAny _ A.in1 (letGo _ _ >>= _) _ _ _
    refine wpAny_bind (wpAny_letGo ?_)
    refine gw (min_name ..) ?_
    refine wpAny_pure ⟨plainId_quiet PySem.F.plain_min_loop _,ih is (j + 1) _ m t c hi hd' hit hL' hS' fun t'' h'' tk k=>?_⟩
    have e:min m i=m:=j0 (u9.mp hb)
    replace hR:=(show (i::is).foldl min m=is.foldl min m from congrArg (fun z=>is.foldl min z) e)▸hR
    exact hR t'' h'' tk fun b o hbJ hbS eb=>k b o hbJ hbS (keep b o hbJ eb)
theorem args_minD (a v:Value):argsOk "min" ⟨[a],[("default",v)]⟩:=by unfold argsOk;kernel_rfl
theorem min_call {dv:Value}{a:Addr}{vs:List Value}{is:List Int}{Q:Value->Shared->Prop}{E:Value->Shared->Prop} (hh:A.handled=none) (hL:s.heap.IsList a vs.toArray) (hi:IntsAre vs is)
  (hQ:∀ v h' tk,(match is with | []=>v=dv | i::r=>∃ t,v=.int (r.foldl min i) t)->(∀ b o,s.heap.get? b=some o->h'.get? b=some o)->Q v { s with heap:=h',toks:=tk }) :
  wpAny (Mo X) A (yd (.builtin "min") [.ref a] [("default",dv)]) Q E s:=by
 refine kmk_tree PySem.F.kind_min PySem.F.plain_min PySem.F.entry_min (args_minD _ _) ?_
 show wpAny _ A.in1 (Builtin.Builtins.bindParams "min" ["key","default"] 0 ⟨[],[("default",dv)]⟩ >>= _) _ _ s
 refine wpAny_bind (wpAny_of_eq (show Builtin.Builtins.bindParams "min" ["key","default"] 0 ⟨[],[("default",dv)]⟩=pure [none,some dv] from rfl) ?_)
 refine wpAny_bind (wpAny_pure ?_)
 refine wpAny_bind (wpAny_pyIter_list hL (wpAny_bind (wpAny_newObj_type ?_)))
 refine gw (min_name ..) ?_
 have haJ:a≠s.heap.objs.size:=by obtain ⟨_,e,_⟩:=hL;exact yj (yb e)
 generalize hh1:s.heap.push { cls:=.type "list_iterator",data:=.fields #[.ref a,.int 0 0] }=h1
 have hz:h1.objs.size=s.heap.objs.size + 1:=by exact bw hh1 (gw (wf ..) rfl)
 have hSJ:h1.objs.size≠s.heap.objs.size:=by refine gw hz ?_;exact fj _
 have hSa:h1.objs.size≠a:=by obtain ⟨_,e,_⟩:=hL;refine gw hz ?_;exact xt (wa (yb e))
 have k1:∀ b o,s.heap.get? b=some o->h1.get? b=some o:=fun b o e=>hh1▸zz _ e
 have gJ:h1.IsListIter s.heap.objs.size a 0:=hh1▸⟨_,ym _ rfl,rfl,rfl⟩
 have old:∀ {b o},s.heap.get? b=some o->b≠s.heap.objs.size/\b≠h1.objs.size:=fun e=>⟨yj (yb e),by refine gw hz ?_;exact yj (wa (yb e))⟩
 refine wpAny_pure ⟨plainId_quiet PySem.F.plain_min_loop _,?_⟩
 generalize hh2:h1.push { cls:=.type "list",dict:=none,data:=.seq #[],slots:=#[] }=h2
 have k2:∀ b o,h1.get? b=some o->h2.get? b=some o:=fun b o e=>hh2▸zz _ e
 have gS:h2.get? h1.objs.size=some { cls:=.type "list",dict:=none,data:=.seq #[],slots:=#[] }:=hh2▸ym _ rfl
 have J2:h2.IsListIter s.heap.objs.size a 0:=gJ.at fun o e=>k2 _ o e
 have L2:h2.IsList a vs.toArray:=hL.at fun o e=>k2 _ o (k1 _ o e)
 refine codeAny_builtin PySem.F.entry_min_loop ?_
 refine gw (Around.under_plainId PySem.F.plain_min_loop _ ..) ?_
 show wpAny _ A.in1 (seqItems? (.ref h1.objs.size) >>= _) _ _ _
 refine wpAny_bind (wpAny_seqItems gS rfl ?_)
 show wpAny _ A.in1 (tryCatch (pyNext (.ref s.heap.objs.size)) _ >>= _) _ _ _
 cases hi with
 | nil =>
  refine wpAny_bind (wpAny_tryCatch (wpAny_pyNext_list_end hh J2 L2 rfl fun h' he=>?_))
  show wpAny _ A.in1 (rule _ >>= _) _ _ _
  exact wpAny_bind (wpAny_rule (wpAny_pure (hQ dv _ _ rfl fun b o e=>he b o (old e).1 (k2 _ _ (k1 _ _ e)))))
 | cons i t hi =>
  rename_i vs is
  refine wpAny_bind (wpAny_tryCatch (wpAny_pyNext_list_item J2 L2 (x:=.int i t) rfl fun h' hit hs=>?_))
  have keep:∀ b o,b≠s.heap.objs.size->h2.get? b=some o->h'.get? b=some o:=fun b o hb e=>hs.extBut b o hb e
  have S3:=keep _ _ hSJ gS
  show wpAny _ A.in1 (updateSeq h1.objs.size (fun _=>#[.int i t,.int i t]) >>= _) _ _ _
  refine wpAny_bind (wpAny_updateSeq S3 rfl ?_)
  refine gw (min_name ..) ?_
  have keep2:∀ b o,b≠h1.objs.size->h'.get? b=some o->(h'.update h1.objs.size (Obj.mapSeq fun _=>#[.int i t,.int i t])).get? b=some o:=fun b o hb e=>(xa _ _ (Ne.symm hb)).trans e
  refine wpAny_pure ⟨plainId_quiet PySem.F.plain_min_loop _,min_rest (vs:=.int i t::vs) hh hSJ hSa haJ vs is 1 _ i t _ hi (fun k=>by refine gw (vx ..) ?_;rfl) (hit.at fun o e=>keep2 _ o (Ne.symm hSJ) e) (L2.at fun o e=>keep2 _ o (Ne.symm hSa) (keep _ o haJ e)) (wu _ S3 rfl) fun t' h'' tk k=>?_⟩
  exact hQ _ h'' tk ⟨t',rfl⟩ fun b o e=>k b o (old e).1 (old e).2 (keep2 b o (old e).2 (keep b o (old e).1 (k2 _ _ (k1 _ _ e))))
theorem sm_mm (c:Cn X A d true s μ σ) {k:Bool}{v w:V}{u z:Value} (r:VR X s.heap μ v u) (r':VR X s.heap μ w z):Sm X (Wp X A (mmCall k u z)) (mmV k v w σ) (Rl X) s μ:=by
 cases k with
 | true =>
  refine sm_asR r fun i a e0 hm=>?_
  subst e0
  refine sm_onL c hm fun xs l n ho e rr hz=>sm_pick fun w he=>?_
  obtain ⟨is,h2,rfl⟩:=zn.mp he
  refine Sm.ok fun Q E hQ=>sized (min_call (dv:=z) (c.rm.handled rfl) ⟨_,e,rfl,_,rfl⟩ (ints_at h2 rr) fun v h' tk hv k hz'=>?_)
  have S:Step X s μ { s with heap:=h',toks:=tk } μ σ:=Step.grow c k hz' rfl rfl
  cases is with
  | nil=>cases hv;exact hQ _ _ _ S (S.vr c.hr r')
  | cons i r=>obtain ⟨t,rfl⟩:=hv;exact hQ _ _ _ S (.int _ _)
 | false =>
  refine sm_i2 r r' fun x t y t' e1 e2=>?_
  subst e1 e2
  refine Sm.ok fun Q E hQ=>sized (min_two_ints (c.rm.handled rfl) fun h' tk k hz'=>?_)
  have S:Step X s μ { s with heap:=h',toks:=tk } μ σ:=Step.grow c k hz' rfl rfl
  by_cases h:y < x
  ·refine gw (if_pos h ..) ?_;exact hQ _ _ _ S (by refine gw (jo (jb h) ..) ?_;exact .int _ _)
  ·refine gw (if_neg h ..) ?_;exact hQ _ _ _ S (by refine gw (j0 (u9.mp h) ..) ?_;exact .int _ _)
end
end Mine
namespace Mine
open PySem PyProof.Rows PySem.Calls PySem.SeqAt
theorem str_digs:∀ n:Nat,n < 1000->codes (Str.ofString (toString (n:Int)))=digs n:=by decide +kernel
section
open Builtin.Str StrLaws
theorem occ_one (x y:Str) (hi f:Nat) (k:Nat):∀ l:List Nat,(forIn l (#[k],f) (occBody x y hi 1)).run.fst=#[k]
 | []=>rfl
 | a::l=>by
  refine gw (j6 ..) ?_
  unfold occBody
  rw [if_neg (fun h=>absurd h.1.1.1 (by simp))]
  exact occ_one x y hi f k l
noncomputable def hitOf (l:List Nat):Int:=match l with | i::_=>(i:Int) | []=>-1
theorem find_at (x:Str) (c:Nat):∀ (m k:Nat),k + m=x.length + 1->hitOf (forIn (List.range' k m) (#[],0) (occBody x ⟨#[c]⟩ x.length 1)).run.fst.toList=findN c ((codes x).drop k) k
 | 0,k,e=>by
  rw [vt (by rw [codes_length];(first | lia | omega))];rfl
 | m + 1,k,e=>by
  refine gw (List.range'_succ ..) (gw (j6 ..) ?_)
  have hs:=subAt_one x c k
  by_cases h:x.cps.toList[k]?=some c
  ·have h1:=hs.mpr h
   have hd:(codes x).drop k=c::(codes x).drop (k + 1):=by
    obtain ⟨hk,e⟩:=zc.mp h
    exact (y8 hk).trans (by refine gw e ?_;rfl)
   unfold occBody
   refine gw (if_pos ⟨⟨⟨by simp,z7 _⟩,h1.1⟩,h1.2⟩ ..) (gw hd ?_)
   show hitOf (forIn (List.range' (k + 1) m) (#[k],_) (occBody x ⟨#[c]⟩ x.length 1)).run.fst.toList=_
   refine gw (occ_one ..) ?_
   show (k:Int)=if c=c then (k:Int) else _
   exact gw (if_pos rfl ..) rfl
  ·unfold occBody
   refine gw (if_neg (fun q=>h (hs.mp ⟨q.1.2,q.2⟩))) ?_
   refine (find_at x c m (k + 1) (by (first | lia | omega))).trans ?_
   by_cases hk:k < (codes x).length
   ·refine gw (y8 hk ..) ?_
    show _=if (codes x)[k]=c then (k:Int) else findN c ((codes x).drop (k + 1)) (k + 1)
    exact gw (if_neg (show ¬ (codes x)[k]=c from fun q=>h (zc.mpr ⟨hk,q⟩))) rfl
   ·refine gw (vt (by (first | lia | omega)) ..) (gw (vt (by (first | lia | omega)) ..) ?_);rfl
theorem find_one (x:Str) (c:Nat):(match occurrences x ⟨#[c]⟩ 0 x.length 1 with | i::_=>(i:Int) | []=>-1)=findN c (codes x) 0:=by
 have:=find_at x c (x.length + 1) 0 (by (first | lia | omega))
 refine gw (occ_eq ..) ?_
 exact this
end
section
variable {X:W}{A:Around}{d:Nat}{s s' s'' s₀:Shared}{μ μ' μ'' μ₀:List Addr}{σ σ' σ'' σ₀:H}
theorem sm_str (c:Cn X A d true s μ σ) {v:V}{u:Value} (r:VR X s.heap μ v u):Sm X (Wp X A (yd (.type "str") [u])) (biV X.ns .str v σ) (Rl X) s μ:=by
 cases r <;> first | exact Sm.stuck | skip
 rename_i i t
 show Sm X _ ((if 0<=i/\i < 1000 then M.ret (V.str (digs i.toNat)) else stuck:M V) σ) _ _ _
 split
 ·rename_i hi
  obtain ⟨n,rfl⟩:=uu hi.1
  have hn:n < 1000:=by (first | lia | omega)
  have e:=str_digs n hn
  have hl:lim=16777216:=rfl
  have hd:(digs n).length<=3:=by unfold digs;split <;> (try split) <;> simp
  refine c.ok0 (v:=.str (digs n)) (u:=.str (Str.ofString (toString (n:Int))) s.toks) (by refine bw e ?_;exact .str _ _ (by refine bw (codes_length ..) (gw e ?_);(first | lia | omega))) fun Q E h=>P.str_of_int ?_ (h _)
  show (n:Int).natAbs.log2 < 1920
  refine gw (Int.natAbs_natCast ..) ?_
  have:=Nat.log2_le_self n
  (first | lia | omega)
 ·exact Sm.stuck
end
end Mine
namespace Mine
open PySem PyProof.Rows PySem.Calls PySem.SeqAt
noncomputable def MeL (m:Me) (id:String):Prop:=match m with | .append=>id="list.append" | .insert=>id="list.insert" | .index=>id="list.index" | _=>False
noncomputable def MeD (m:Me) (id:String):Prop:=match m with | .get=>id="dict.get" | .update=>id="dict.update" | .setdefault=>id="dict.setdefault" | _=>False
theorem pre_starts:∀ (y x:List Nat),pre y x=true↔∃ z,x=y++z
 | [],x=>⟨fun _=>⟨x,rfl⟩,fun _=>rfl⟩
 | a::y,[]=>⟨fun h=>(nomatch h),fun ⟨_,h⟩=>(nomatch h)⟩
 | a::y,b::x=>by
  show (a == b && pre y x)=true↔_
  rw [vq,beq_iff_eq,pre_starts y x]
  constructor
  ·rintro ⟨rfl,z,rfl⟩;exact ⟨z,rfl⟩
  ·rintro ⟨z,h⟩;injection h with h1 h2;exact ⟨h1.symm,z,h2⟩
theorem stored_nodup {l:List (Str×Value)} (hn:(l.map (·.1)).Nodup) (k:Str) (v:Value):((stored l k v).map (·.1)).Nodup:=by
 unfold stored
 split
 ·refine gw (ug ..) ?_
  have:l.map ((fun p:Str×Value=>p.1) ∘ fun kv=>if kv.1=k then (kv.1,v) else kv)=l.map (·.1):=wq fun p _=>by
   show (if p.1=k then (p.1,v) else p).1=p.1
   split <;> rfl
  refine gw (this ..) ?_;exact hn
 ·rename_i h
  rw [yg,vk]
  refine ⟨hn,wj _ _,fun a ha b hb e=>h (ui.mpr ?_)⟩
  obtain ⟨p,hp,q⟩:=w4.mp ha
  exact ⟨p,hp,decide_eq_true (q.trans (e.trans (zg.mp hb)))⟩
section
variable {X:W}{A:Around}{d:Nat}{s s' s'' s₀:Shared}{μ μ' μ'' μ₀:List Addr}{σ σ' σ'' σ₀:H}{env:zt}{cx cx':Cx}{ρ ρ' ρ₀:Env}{C:Calls}{G:GT}
theorem ERs.puts {h:Heap}:∀ {qs:List (List Nat×V)}{m:List (Str×Value)}{kvs:List (List Nat×V)}{l:List (Str×Value)},ERs X h μ qs m->ERs X h μ kvs l->(l.map (·.1)).Nodup->ERs X h μ (dputs kvs qs) (merged l m)
 | [],[],_,_,_,r,_=>r
 | [],_::_,_,_,⟨e,_,_⟩,_,_=>nomatch e
 | _::_,[],_,_,⟨e,_,_⟩,_,_=>nomatch e
 | (k,v)::qs,(x,u)::m,_,l,⟨e,hl,hv⟩,r,hn=>by
  injection e with e1 e2
  obtain rfl:k=codes x:=e1
  cases hv with
  | cons r1 r2 =>
   show ERs X h μ (dputs (dput _ (codes x) v) qs) (merged (stored l x u) m)
   exact ERs.puts ⟨e2,fun p hp=>hl p (zj _ hp),r2⟩ (r.put hn x (hl _ (zh ..)) r1) (stored_nodup hn x u)
theorem put_dict (c:Cn X A d true s μ σ) {i:Nat}{a:Addr} (hi:μ[i]?=some a) {kvs:List (List Nat×V)}{l l':List (Str×Value)} (hd:s.heap.DictOf (strKind X.prog X.w) a l) (r:ERs X s.heap μ kvs l') (hz:kvs.length<=lim)
  {h':Heap}{t:Nat} (hd':h'.DictOf (strKind X.prog X.w) a l') (hs:Heap.SameBut a s.heap h'):Step X s μ { s with heap:=h',toks:=t } μ (σ.set i (.dict kvs)):=by
 have hk':∀ b o,s.heap.get? b=some o->Solid X b o->h'.get? b=some o:=fun b o eb hS=>(hs.2 b fun q=>by
  refine ex3 (hd) fun od _ _ q_h=>?_;refine an3 q_h fun e hc _=>?_
  replace eb:=e▸q▸eb;cases eb;exact hS.offList (.inr hc.1)).trans eb
 exact Step.put c (s':={ s with heap:=h',toks:=t }) hi hs rfl rfl (o:=.dict kvs) (.dict hd' (by refine bw (r.length ..) ?_;exact hz) (r.like fun q=>q.mono hk' fun _ _ e=>e))
theorem sm_meth {T id:String}{name:Str}{es:List Expr}{ts:List E}{p:Pos}{u:Value}{k:List V->M V} (pa:PlainAttrs T) (slot:Slot T name id) (hty:typeOf (.builtin id)=pure (.type "method_descriptor")) (c:Cn X A d true s μ σ) (F:FR X env cx ρ s.heap μ)
  (hT:s.TypeIs u T) (hd:∀ a,u=.ref a->∃ ob,s.heap.get? a=some ob/\ob.dict=none) (ht:Ts G ts cx es)
  (ha:∀ (s:Shared) (μ:List Addr) (σ:H),Cn X A d true s μ σ->FR X env cx ρ s.heap μ->Sm X (Wp X A (spliced (backTo p (starEach es env)))) (evEs X.ns C ρ ts σ) (Rls X) s μ)
  (h:∀ vs us s₁ μ₁ σ₁,Cn X A d true s₁ μ₁ σ₁->Step X s μ s₁ μ₁ σ₁->VRs X s₁.heap μ₁ vs us->Sm X (Wp X A (yd (.builtin id) ([u]++us))) (k vs σ₁) (Rl X) s₁ μ₁) :
  Sm X (fun Q E s=>MethodOnS X.prog X.w A E name u p (backTo p (starEach es env)) Q s) ((evEs X.ns C ρ ts).bnd k σ) (Rl X) s μ :=
 (Sm.go c F (ha s μ σ c F) fun vs σ₁ us s₁ μ₁ c1 _ S1 r=>h vs us s₁ μ₁ σ₁ c1 S1 r).imp fun Q E hq=>⟨T,id,pa,slot,hty,hT,hd,callWith_free ht rfl hq⟩
theorem sm_starts (c:Cn X A d true s μ σ) {x y:Str}{t u:Tok}:Sm X (Wp X A (yd (.builtin "str.startswith") [.str x t,.str y u])) (.ok (.bool (pre (codes y) (codes x))) σ) (Rl X) s μ:=by
 have e:(decide (0 + y.length<=x.length) && Builtin.Str.subAt x y 0)=pre (codes y) (codes x):=by
  rw [StrLaws.subAt_eq,jz,pre_starts,vq,decide_eq_true_eq,beq_iff_eq,List.drop_zero,zo]
  have hx:x.cps.toList=codes x:=rfl
  have hy:y.cps.toList=codes y:=rfl
  rw [hx,hy,← codes_length,← codes_length]
  constructor
  ·rintro ⟨_,h⟩
   exact ⟨(codes x).drop (codes y).length,by conv=>lhs;rw [← z6 (codes y).length (codes x),h]⟩
  ·rintro ⟨z,h⟩
   refine gw h (gw (zd ..) ?_);exact ⟨zp _ _,zai⟩
 refine c.ok0 (.bool _) fun Q E h=>?_
 refine call_gives PySem.F.slot_str_startswith (typeIs_str _ _ _) PySem.F.entry_str_startswith (PySem.F.args_str_startswith_2 _ _) (gives_str_startswith x y t u) ?_
 refine gw e ?_;exact h _
theorem sm_find (c:Cn X A d true s μ σ) {x y:Str}{t u:Tok}{k:Nat} (hy:codes y=[k]):Sm X (Wp X A (yd (.builtin "str.find") [.str x t,.str y u])) (.ok (.int (findN k (codes x) 0)) σ) (Rl X) s μ:=by
 obtain rfl:y=⟨#[k]⟩:=by
  obtain ⟨⟨l⟩⟩:=y
  exact congrArg (fun l=>Str.mk (fu l)) hy
 refine c.ok0 (.int _ s.toks) fun Q E h=>?_
 refine call_gives PySem.F.slot_str_find (typeIs_str _ _ _) PySem.F.entry_str_find (PySem.F.args_str_find_2 _ _) (gives_str_find x ⟨#[k]⟩ t u) ?_
 exact Eq.mpr (congrArg (fun z=>(Made.int z).post Q s) (find_one x k)) (h _)
theorem sm_meS {x:Str}{t:Tok} (hz:x.length<=lim) {m:Me}{ts:List E}{es:List Expr}{p:Pos} (c:Cn X A d true s μ σ) (F:FR X env cx ρ s.heap μ) (ht:Ts G ts cx es)
  (ha:∀ (s:Shared) (μ:List Addr) (σ:H),Cn X A d true s μ σ->FR X env cx ρ s.heap μ->Sm X (Wp X A (spliced (backTo p (starEach es env)))) (evEs X.ns C ρ ts σ) (Rls X) s μ) :
  Sm X (fun Q E s=>MethodOnS X.prog X.w A E (meName m) (.str x t) p (backTo p (starEach es env)) Q s) ((meK m (.str (codes x))).bnd (fun _=>(evEs X.ns C ρ ts).bnd fun vs=>meV (.str (codes x)) m vs) σ) (Rl X) s μ:=by
 cases m <;> first | exact Sm.stuck | skip
 ·refine sm_meth PySem.F.plainAttrs_str PySem.F.slot_str_find PySem.F.type_str_find c F (typeIs_str _ _ _) (fun b hb=>by cases hb) ht ha fun vs us s₁ μ₁ σ₁ c1 S1 r1=>?_
  refine sm_arg1 r1 fun v u e r=>?_
  subst e
  refine sm_asS r fun y u e hy=>?_
  subst e
  rcases e:codes y with _ | ⟨k,_ | ⟨_,_⟩⟩
  ·exact Sm.stuck
  ·exact sm_find c1 e
  ·exact Sm.stuck
 ·refine sm_meth PySem.F.plainAttrs_str PySem.F.slot_str_startswith PySem.F.type_str_startswith c F (typeIs_str _ _ _) (fun b hb=>by cases hb) ht ha fun vs us s₁ μ₁ σ₁ c1 S1 r1=>?_
  refine sm_arg1 r1 fun v u e r=>?_
  subst e
  refine sm_asS r fun y u e hy=>?_
  subst e
  exact sm_starts c1
theorem first_at {h:Heap}{a:V}{u:Value} (ha:VR X h μ a u) (A:Around) (s:Shared) {xs:List V}:∀ {l:List Value}{i j:Nat},firstEq a xs i=some j->VRs X h μ xs l ->
  ∃ m,j=i + m/\(∃ y,l[m]?=some y/\ceq y u=true)/\(∀ k y,k < m->l[k]?=some y->ceq y u=false)/\∀ y∈l,EqAt A s y u (ceq y u):=by
 induction xs with
 | nil=>intro l i j e;cases e
 | cons x xs ih =>
  intro l i j e r
  cases r with
  | cons r rs =>
   unfold firstEq at e
   split at e
   ·rename_i b hf
    obtain ⟨h1,h2,-⟩:=feq_at hf r ha A s
    split at e
    ·rename_i hb
     obtain ⟨q,hq,rfl⟩:=zn.mp e
     exact ⟨0,rfl,⟨_,rfl,h1.symm.trans hb⟩,fun k y hk=>absurd hk (y5 _),fun y hy=>(zy.mp hy).elim (fun q=>q▸h2) fun hy=>(anyEq_at ha hq rs).1 y hy A s⟩
    ·rename_i hb
     obtain ⟨m,rfl,hc,h3,h4⟩:=ih e rs
     exact ⟨m + 1,je i 1 m,hc,fun k z hk hz=>by
      cases k with
      | zero=>cases hz;exact h1.symm.trans (we.mpr hb)
      | succ k=>exact h3 k z (zab hk) hz,fun y hy=>(zy.mp hy).elim (fun q=>q▸h2) (h4 y)⟩
   ·cases e
theorem inserted (l:List Value) (k:Nat) (y:Value):(l.toArray.extract 0 (min k l.toArray.size)).push y++l.toArray.extract (min k l.toArray.size)=(insAt l k y).toArray:=by
 unfold insAt
 refine gw (yq ..) ?_
 apply Array.ext'
 by_cases h:k<=l.length
 ·refine gw (yf h ..) ?_;simp [y9]
 ·refine gw (uf (by (first | lia | omega)) ..) (gw (y9 (by (first | lia | omega)) ..) (gw (List.drop_of_length_le (by (first | lia | omega)) ..) ?_));simp
theorem upd_list {h:Heap}{a:Addr}{l:List Value}{n:Nat} (e:IsL h a l.toArray n) (f:Array Value->Array Value) {l':List Value} (hf:f l.toArray=l'.toArray) :
  ∃ n',IsL (h.update a (Obj.mapSeq f)) a l'.toArray n':=⟨_,hf▸e.update f⟩
theorem sm_meL (c:Cn X A d true s μ σ) {i:Nat}{a:Addr}{xs:List V} (ho:σ[i]?=some (.list xs)) (hm:μ[i]?=some a) {m:Me}{id:String} (hid:MeL m id)
  {vs:List V}{us:List Value} (r:VRs X s.heap μ vs us):Sm X (Wp X A (yd (.builtin id) ([.ref a]++us))) (meL i xs m vs σ) (Rl X) s μ:=by
 refine ex2 (c.list ho hm) fun l n q_h=>?_;refine an3 q_h fun e rr hz=>?_
 have hl:lim=16777216:=rfl
 cases m <;> first | exact hid.elim | skip
 ·
  cases hid
  refine sm_arg1 r fun v w e0 r1=>?_
  subst e0
  refine sm_putL c hm e (rr.append (.cons r1 .nil)) (fun _ _=>.none) fun hz' Q E h=>call_meets PySem.F.slot_list_append ⟨_,e,rfl⟩ PySem.F.entry_list_append (PySem.F.args_list_append_2 _ _) (list_append a l.toArray n w (by refine gw (yq ..) ?_;exact hz)) ⟨e,?_⟩
  obtain ⟨n',e'⟩:=upd_list e (fun x=>x.push w) (l':=l++[w]) (by simp)
  exact h _ _ _ e' (Heap.SameBut.update ..)
 ·
  cases hid
  refine sm_arg2 r fun k v u w e0 r1 r2=>?_
  subst e0
  refine sm_asI r1 fun k t e0=>?_
  subst e0
  show Sm X _ ((if 0<=k/\k < 9223372036854775808 then putL i (insAt xs k.toNat v) else stuck:M V) σ) _ _ _
  split
  ·rename_i hk
   have rI:VRs X s.heap μ (insAt xs k.toNat v) (insAt l k.toNat w):=(rr.take _).append (.cons r2 (rr.drop _))
   refine sm_putL c hm e rI (fun _ _=>.none) fun hz' Q E h=>call_meets PySem.F.slot_list_insert ⟨_,e,rfl⟩ PySem.F.entry_list_insert (PySem.F.args_list_insert_3 _ _ _) (AutoSeq1.list_insert_list_int_val_1 a l.toArray n k t w ?_ (by refine gw (yq ..) ?_;exact hz)) ⟨e,?_⟩
   ·have:Builtin.List.listFitsIndex k=true:=by
     show (decide (-(2 ^ 63:Int)<=k) && decide (k < 2 ^ 63))=true
     refine gw (decide_eq_true (by (first | lia | omega)) ..) (gw (decide_eq_true (by (first | lia | omega)) ..) ?_);rfl
    refine gw (this ..) ?_;decide
   ·obtain ⟨n',e'⟩:=upd_list e (fun xs=>have k:=if k < 0 then (k + (xs.size:Int)).toNat else min k.toNat xs.size;(xs.extract 0 k).push w++xs.extract k) (l':=insAt l k.toNat w) (by
     have q:=inserted l k.toNat w
     show (l.toArray.extract 0 (if k < 0 then _ else _)).push w++l.toArray.extract (if k < 0 then _ else _)=_
     refine gw (if_neg (u9.mpr hk.1) ..) ?_
     exact q)
    exact h _ _ _ e' (Heap.SameBut.update ..)
  ·exact Sm.stuck
 ·
  cases hid
  refine sm_arg1 r fun v w e0 r1=>?_
  subst e0
  refine sm_pick fun q hq=>?_
  obtain ⟨j,hf,rfl⟩:=zn.mp hq
  obtain ⟨m,rfl,⟨y,hy,h1⟩,h2,h3⟩:=first_at r1 A.in1 s hf rr
  obtain ⟨hj,rfl⟩:=zc.mp hy
  refine gw (zo ..) ?_
  refine c.ok0 (.int m s.toks) fun Q E h=>?_
  exact call_meets PySem.F.slot_list_index ⟨_,e,rfl⟩ PySem.F.entry_list_index (PySem.F.args_list_index_2 _ _) (list_indexAt a l.toArray n none #[] w (fun y=>ceq y w) m hj (by (first | lia | omega)) h1 fun k hm' hlt=>h2 k _ hlt (zf hm')) ⟨e,fun y hy=>h3 y (List.mem_toArray.mp hy),h _⟩
theorem sm_meD (c:Cn X A d true s μ σ) {i:Nat}{a:Addr}{kvs:List (List Nat×V)} (ho:σ[i]?=some (.dict kvs)) (hm:μ[i]?=some a) {m:Me}{id:String} (hid:MeD m id)
  {vs:List V}{us:List Value} (r:VRs X s.heap μ vs us):Sm X (Wp X A (yd (.builtin id) ([.ref a]++us))) (meD i kvs m vs σ) (Rl X) s μ:=by
 obtain ⟨l,q_h⟩:=(c.dict ho hm);refine an3 q_h fun D rr hz=>?_
 have hl:lim=16777216:=rfl
 cases m <;> first | exact hid.elim | skip
 ·
  cases hid
  have hg:∀ {v w x},VR X s.heap μ v w->VR X s.heap μ ((dget kvs (codes x)).getD v) ((valueAt l x).getD w):=fun {v w x} r2=>by
   rcases rr.get x with ⟨h1,h2⟩ | ⟨v,u,h1,h2,h3⟩
   ·refine gw h1 (gw h2 ?_);exact r2
   ·refine gw h1 (gw h2 ?_);exact h3
  have two:∀ {vs us},VRs X s.heap μ vs us->Sm X (Wp X A (yd (.builtin "dict.get") ([.ref a]++us))) (arg2 vs (fun a v=>asS a fun x=>.ret ((dget kvs x).getD v)) σ) (Rl X) s μ:=fun r=>by
   refine sm_arg2 r fun v w u z e r1 r2=>?_
   subst e
   refine sm_asS r1 fun x t e hx=>?_
   subst e
   exact c.ok0 (hg r2) fun Q E h=>call_meetsIn PySem.F.slot_dict_get D.typeIs PySem.F.entry_dict_get (PySem.F.args_dict_get_3 _ _ _) (meets_dict_get_default _ a (strKind_is X.prog X.w x t) (c.noSys hm) z) ⟨_,D.mapOf,h _⟩
  rcases r with _ | ⟨r,_ | ⟨r2,rs⟩⟩
  ·exact Sm.stuck
  ·refine sm_asS r fun x t e hx=>?_
   subst e
   exact c.ok0 (hg .none) fun Q E h=>call_meetsIn PySem.F.slot_dict_get D.typeIs PySem.F.entry_dict_get (PySem.F.args_dict_get_2 _ _) (meets_dict_get _ a (strKind_is X.prog X.w x t) (c.noSys hm)) ⟨_,D.mapOf,h _⟩
  ·exact two (.cons r (.cons r2 rs))
 ·
  cases hid
  refine sm_arg1 r fun v u e0 r1=>?_
  subst e0
  refine sm_asR r1 fun j b e0 hj=>?_
  subst e0
  show Sm X _ ((if j=i then stuck else onD j fun qs=>if kvs.length + qs.length<=lim then putD i (dputs kvs qs) else stuck:M V) σ) _ _ _
  split
  ·exact Sm.stuck
  ·rename_i hne
   refine sm_onD c hj fun qs m _ Do ro _=>?_
   split
   ·rename_i hlen
    unfold putD
    split
    ·rename_i hz'
     have hab:a≠b:=fun q=>hne (getElem?_nodup c.hr.nodup (q▸hj) hm)
     refine Sm.ok (a:=V.none) fun Q E hQ=>?_
     exact call_meetsIn PySem.F.slot_dict_update D.typeIs PySem.F.entry_dict_update (PySem.F.args_dict_update_2 _ _) (meets_dict_update _ a b hab (c.noSys hj)) ⟨l,m,D,Do,by refine bw (rr.length ..) (bw (ro.length ..) ?_);exact hlen,fun h' hd' _ hs=>hQ _ _ _ (put_dict (t:=s.toks) c hm D (ro.puts rr (dict_nodup D)) hz' hd' hs) .none⟩
    ·exact Sm.stuck
   ·exact Sm.stuck
 ·
  cases hid
  refine sm_arg2 r fun x v u w e0 r1 r2=>?_
  subst e0
  refine sm_asS r1 fun x t e0 hx=>?_
  subst e0
  show Sm X _ ((match dget kvs (codes x) with | some u=>M.ret u | none=>(putD i (dput kvs (codes x) v)).bnd fun _=>.ret v:M V) σ) _ _ _
  rcases rr.get x with ⟨h1,h2⟩ | ⟨v,u,h1,h2,h3⟩
  ·refine gw h1 ?_
   show Sm X _ ((putD i (dput kvs (codes x) v)).bnd (fun _=>.ret v) σ) _ _ _
   unfold putD
   split
   ·rename_i hz'
    refine Sm.ok (a:=v) (σ:=σ.set i (.dict (dput kvs (codes x) v))) fun Q E hQ=>?_
    refine call_meetsIn PySem.F.slot_dict_setdefault D.typeIs PySem.F.entry_dict_setdefault (PySem.F.args_dict_setdefault_3 _ _ _) (kt_meets_setdefault _ a (strKind_is X.prog X.w x t) (c.noSys hm) w) ⟨l,D,hz,(fun u' hu=>by replace hu:=h2▸hu;cases hu),fun _ h' hd' hs=>?_⟩
    have S:=put_dict (t:=s.toks + 1) c hm D (rr.put (dict_nodup D) x hx r2) hz' hd' hs
    exact hQ _ _ _ S (S.vr c.hr r2)
   ·exact Sm.stuck
  ·refine gw h1 ?_
   exact c.ok0 h3 fun Q E h=>call_meetsIn PySem.F.slot_dict_setdefault D.typeIs PySem.F.entry_dict_setdefault (PySem.F.args_dict_setdefault_3 _ _ _) (kt_meets_setdefault _ a (strKind_is X.prog X.w x t) (c.noSys hm) w) ⟨l,D,hz,(fun u' hu=>by replace hu:=h2▸hu;cases hu;exact h _),fun q=>by replace q:=h2▸q;cases q⟩
theorem sm_me (m:Me) (x:V) (u:Value) (ts:List E) (es:List Expr) (p:Pos) (c:Cn X A d true s μ σ) (F:FR X env cx ρ s.heap μ) (r:VR X s.heap μ x u) (ht:Ts G ts cx es)
  (ha:∀ (s:Shared) (μ:List Addr) (σ:H),Cn X A d true s μ σ->FR X env cx ρ s.heap μ->Sm X (Wp X A (spliced (backTo p (starEach es env)))) (evEs X.ns C ρ ts σ) (Rls X) s μ) :
  Sm X (fun Q E s=>MethodOnS X.prog X.w A E (meName m) u p (backTo p (starEach es env)) Q s) ((meK m x).bnd (fun _=>(evEs X.ns C ρ ts).bnd fun vs=>meV x m vs) σ) (Rl X) s μ:=by
 cases r with
 | str x t hz=>exact sm_meS hz c F ht ha
 | @ref i a hi =>
  rcases ho:σ[i]? with _ | ⟨xs⟩ | ⟨kvs⟩
  ·refine gw (bnd_stuck (by unfold meK;simp only [ho]) ..) ?_;exact Sm.stuck
  ·refine ex2 (c.list ho hi) fun l n q_h=>?_;refine an3 q_h fun e _ _=>?_
   by_cases hk:meOn m=1
   ·refine gw (bnd_ok (a:=V.none) (σ':=σ) (by unfold meK;simp only [ho,hk,if_true]) ..) ?_
    have go:∀ {id:String} (slot:Slot "list" (meName m) id) (hty:typeOf (.builtin id)=pure (.type "method_descriptor")) (hid:MeL m id),
      Sm X (fun Q E s=>MethodOnS X.prog X.w A E (meName m) (.ref a) p (backTo p (starEach es env)) Q s) ((evEs X.ns C ρ ts).bnd (fun vs=>meV (.ref i) m vs) σ) (Rl X) s μ:=fun slot hty hid=>by
     refine sm_meth PySem.F.plainAttrs_list slot hty c F ⟨_,e,rfl⟩ (fun b hb=>by cases hb;exact ⟨_,e,rfl⟩) ht ha fun vs us s₁ μ₁ σ₁ c1 S1 r1=>?_
     show Sm X _ (match σ₁[i]? with | some (.list xs)=>meL i xs m vs σ₁ | some (.dict kvs)=>meD i kvs m vs σ₁ | none=>.stuck) _ _ _
     rcases ho1:σ₁[i]? with _ | ⟨ys⟩ | ⟨kvs⟩
     ·exact Sm.stuck
     ·exact sm_meL c1 ho1 (S1.get _ _ hi) hid r1
     ·cases m <;> first | exact hid.elim | exact Sm.stuck
    cases m <;> first | (cases hk;done) | skip
    ·exact go PySem.F.slot_list_append PySem.F.type_list_append rfl
    ·exact go PySem.F.slot_list_insert PySem.F.type_list_insert rfl
    ·exact go PySem.F.slot_list_index PySem.F.type_list_index rfl
   ·refine gw (bnd_stuck (by unfold meK;simp only [ho,hk,if_false]) ..) ?_;exact Sm.stuck
  ·obtain ⟨l,q_h⟩:=(c.dict ho hi);refine an3 q_h fun D _ _=>?_
   by_cases hk:meOn m=2
   ·refine gw (bnd_ok (a:=V.none) (σ':=σ) (by unfold meK;simp only [ho,hk,if_true]) ..) ?_
    have go:∀ {id:String} (slot:Slot "dict" (meName m) id) (hty:typeOf (.builtin id)=pure (.type "method_descriptor")) (hid:MeD m id),
      Sm X (fun Q E s=>MethodOnS X.prog X.w A E (meName m) (.ref a) p (backTo p (starEach es env)) Q s) ((evEs X.ns C ρ ts).bnd (fun vs=>meV (.ref i) m vs) σ) (Rl X) s μ:=fun slot hty hid=>by
     refine sm_meth PySem.F.plainAttrs_dict slot hty c F D.typeIs D.mapOf.noDict ht ha fun vs us s₁ μ₁ σ₁ c1 S1 r1=>?_
     show Sm X _ (match σ₁[i]? with | some (.list xs)=>meL i xs m vs σ₁ | some (.dict kvs)=>meD i kvs m vs σ₁ | none=>.stuck) _ _ _
     rcases ho1:σ₁[i]? with _ | ⟨ys⟩ | ⟨kvs⟩
     ·exact Sm.stuck
     ·cases m <;> first | exact hid.elim | exact Sm.stuck
     ·exact sm_meD c1 ho1 (S1.get _ _ hi) hid r1
    cases m <;> first | (cases hk;done) | skip
    ·exact go PySem.F.slot_dict_get PySem.F.type_dict_get rfl
    ·exact go PySem.F.slot_dict_update PySem.F.type_dict_update rfl
    ·exact go PySem.F.slot_dict_setdefault PySem.F.type_dict_setdefault rfl
   ·refine gw (bnd_stuck (by unfold meK;simp only [ho,hk,if_false]) ..) ?_;exact Sm.stuck
 | _=>exact Sm.stuck
end
end Mine
namespace Mine
open PySem PyProof.Rows PySem.Calls PySem.SeqAt
structure Own1 (X:W) (G:GT) (T:Tab):Prop where
 mlook:∀ (x:V) (u:Value) (nm:Str) (pl:Sem Bool) (A:Around) (d:Nat) (s:Shared) (μ:List Addr) (σ:H),Cn X A d true s μ σ->VR X s.heap μ x u ->
  Sm X (Wp X A (getMethod u nm pl)) (mlookOf T x (codes nm) σ) (fun _ _ i p=>p=(.ref (X.fa i),[u])/\PySem.W.keepIn X.K (.ref (X.fa i))=true) s μ
 attr:∀ (x:V) (u:Value) (nm:Str) (A:Around) (d:Nat) (s:Shared) (μ:List Addr) (σ:H),nm∈G.att->Cn X A d true s μ σ->VR X s.heap μ x u->Sm X (Wp X A (getAttr u nm true)) (attrV x (codes nm) σ) (Rl X) s μ
 seta:∀ (x v:V) (u w:Value) (nm:Str) (A:Around) (d:Nat) (s:Shared) (μ:List Addr) (σ:H),nm∈G.att->nm.length<=4096->Cn X A d true s μ σ->VR X s.heap μ x u->VR X s.heap μ v w->Sm X (Wp X A (setAttr u nm w)) (setaV x (codes nm) v σ) (fun _ _ _ _=>True) s μ
 new:∀ (k:Nat) (p:Nat×List (List Nat×Nat)),T.cls[k]?=some p->∀ (f:List V->M V) (d:Nat),
  (∀ (vs:List V) (us:List Value) (A:Around) (s:Shared) (μ:List Addr) (σ:H),Cn X A (d + 1) true s μ σ->VRs X s.heap μ vs us->Sm X (Pc X (upA A 1) (.ref (X.fa p.1)) us) (f vs σ) (Rl X) s μ) ->
  ∀ (vs:List V) (us:List Value) (A:Around) (s:Shared) (μ:List Addr) (σ:H),Cn X A (d + 1) true s μ σ->VRs X s.heap μ vs us->Sm X (Wp X A (yd (.ref (X.co k)) us)) ((f (.inst k σ.length::vs)).bnd (backI k σ.length) (σ++[.dict []])) (Rl X) s μ
structure Wd (X:W) (G:GT) (T:Tab):Prop where
 nm:Nm X G
 fns:∀ i fn,T.fns[i]?=some fn->FnOk X G i fn
 lim:X.h₀.NoLimit
 sl:SLeaf X G T.sub
 own:Own1 X G T
section
variable {X:W}{A:Around}{d:Nat}{s s' s'' s₀:Shared}{μ μ' μ'' μ₀:List Addr}{σ σ' σ'' σ₀:H}{env:zt}{cx cx':Cx}{ρ ρ' ρ₀:Env}{C:Calls}{G:GT}{T:Tab}
theorem sm_bi (c:Cn X A d true s μ σ) (b:Bi) {v:V}{u:Value} (r:VR X s.heap μ v u):Sm X (Wp X A (yd (biVal b) [u])) (biV X.ns b v σ) (Rl X) s μ:=by
 cases b with
 | len=>exact sm_len c r
 | list=>exact sm_list c r
 | sorted=>exact sm_sorted c r
 | dict=>exact sm_dict c r
 | str=>exact sm_str c r
 | any=>exact sm_any c r
 | all=>exact sm_all c r
theorem leaf_of (w:Wd X G T) (h2:C.sub=T.sub)
  (hc:∀ (f:Nat) (vs:List V) (us:List Value) (A:Around) (s:Shared) (μ:List Addr) (σ:H),Cn X A d true s μ σ->VRs X s.heap μ vs us->Sm X (Wp X A (yd (.ref (X.fa f)) us)) (C.call f vs σ) (Rl X) s μ)
  (hw:∀ (k:Nat) (vs:List V) (us:List Value) (A:Around) (s:Shared) (μ:List Addr) (σ:H),Cn X A d true s μ σ->VRs X s.heap μ vs us->Sm X (Wp X A (yd (.ref (X.co k)) us)) (C.new k vs σ) (Rl X) s μ)
  (hm:∀ (x:V) (u:Value) (nm:Str) (pl:Sem Bool) (A:Around) (s:Shared) (μ:List Addr) (σ:H),Cn X A d true s μ σ->VR X s.heap μ x u ->
   Sm X (Wp X A (getMethod u nm pl)) (C.mlook x (codes nm) σ) (fun _ _ i p=>p=(.ref (X.fa i),[u])/\PySem.W.keepIn X.K (.ref (X.fa i))=true) s μ):Leaf X G C d where
 nm:=w.nm
 call:=hc
 bi:=fun b v u A s μ σ c r=>sm_bi c b r
 me:=fun m x u ts es p cx A env ρ s μ σ c F r ht ha=>sm_me m x u ts es p c F r ht ha
 mm:=fun mx v w u u' A s μ σ c r r'=>sm_mm c r r'
 new:=hw
 mlook:=hm
 attr:=fun x u nm A s μ σ h c r=>w.own.attr x u nm A d s μ σ h c r
 seta:=fun x v u y nm A s μ σ h hl c r r'=>w.own.seta x v u y nm A d s μ σ h hl c r r'
 isi:=fun t v u A s μ σ c r=>sm_isi c r
theorem sub_of (ns:List Int) (T:Tab) (n:Nat):(callsOf ns T n).sub=T.sub:=by cases n <;> rfl
theorem leafs {X:W} (w:∀ b,Wd (X.wb b) G T) (n:Nat):∀ (b:Addr->Prop),Leaf (X.wb b) G (callsOf X.ns T n) n:=by
 induction n with
 | zero=>exact fun b=>leaf_of (w b) rfl (fun _ _ _ _ _ _ _ _ _=>Sm.stuck) (fun _ _ _ _ _ _ _ _ _=>Sm.stuck) fun x u nm pl A s μ σ c r=>(w b).own.mlook x u nm pl A 0 s μ σ c r
 | succ n ih =>
  intro b
  have L:LL (X.wb b) G (callsOf X.ns T n) n:=⟨fun b'=>ih b',fun b'=>by refine gw (sub_of ..) ?_;exact (w b').sl⟩
  have fn_ok:∀ (u:Nat),u<=2->∀ {f:Nat}{fn:Fn},T.fns[f]?=some fn->∀ (vs:List V) (us:List Value) (A:Around) (s:Shared) (μ:List Addr) (σ:H),Cn (X.wb b) A (n + 1) true s μ σ->VRs (X.wb b) s.heap μ vs us->Sm (X.wb b) (Pc (X.wb b) (upA A u) (.ref (X.fa f)) us) (evF X.ns (callsOf X.ns T n) fn vs σ) (Rl (X.wb b)) s μ :=
   fun u hu _ _ hf vs us A s μ σ c r=>sim_fn u hu ((w b).fns _ _ hf) (w b).lim (sim_stmts _ L) c r
  refine leaf_of (w b) rfl (fun f vs us A s μ σ c r=>?_) (fun k vs us A s μ σ c r=>?_) fun x u nm pl A s μ σ c r=>(w b).own.mlook x u nm pl A (n + 1) s μ σ c r
  ·show Sm _ _ ((match T.fns[f]? with | some fn=>evF X.ns (callsOf X.ns T n) fn vs | none=>stuck:M V) σ) _ _ _
   cases hf:T.fns[f]? with
   | none=>exact Sm.stuck
   | some fn=>exact (fn_ok 0 (z7 _) hf vs us A s μ σ c r).imp fun Q E h=>wpAny_call h
  ·show Sm _ _ ((match T.cls[k]? with | some p=>(match T.fns[p.1]? with | some fn=>fun σ=>(evF X.ns (callsOf X.ns T n) fn (.inst k σ.length::vs)).bnd (backI k σ.length) (σ++[.dict []]) | none=>stuck) | none=>stuck:M V) σ) _ _ _
   cases hk:T.cls[k]? with
   | none=>exact Sm.stuck
   | some p =>
    show Sm _ _ ((match T.fns[p.1]? with | some fn=>fun σ=>(evF X.ns (callsOf X.ns T n) fn (.inst k σ.length::vs)).bnd (backI k σ.length) (σ++[.dict []]) | none=>stuck:M V) σ) _ _ _
    cases hf:T.fns[p.1]? with
    | none=>exact Sm.stuck
    | some fn=>exact (w b).own.new k p hk (evF X.ns (callsOf X.ns T n) fn) n (fn_ok 1 (by decide) hf) vs us A s μ σ c r
end
end Mine
namespace Mine
open PySem PyProof.Rows PySem.Calls PySem.SeqAt
theorem zip_lookup:∀ {names:List Str}{vals:List Value},vals.length=names.length->∀ n∈names,((names.zip vals).lookup n).isSome=true
 | [],_,_,_,h=>nomatch h
 | m::names,[],e,_,_=>nomatch e
 | m::names,v::vals,e,n,h=>by
  refine gw (xx ..) (gw (yx ..) ?_)
  cases hx:n == m with
  | true=>rfl
  | false=>exact (zy.mp h).elim (fun q=>absurd (beq_iff_eq.mpr q) (by refine gw hx ?_;exact wh)) fun q=>zip_lookup (Nat.succ.inj e) n q
theorem zip_same:∀ {names:List Str}{vals:List Value}{S:List (Str×Value)},vals.length=names.length->(∀ (k:Nat) (n:Str) (v:Value),names[k]?=some n->vals[k]?=some v->S.lookup n=some v)->names.filterMap (fun n=>(S.lookup n).map (n,·))=names.zip vals
 | [],[],_,_,_=>rfl
 | [],_::_,_,e,_=>nomatch e
 | m::names,[],_,e,_=>nomatch e
 | m::names,v::vals,S,e,h=>by
  refine gw (gb ..) (gw (h 0 m v rfl rfl ..) (gw (xx ..) ?_))
  show (m,v)::_=_
  exact gw (zip_same (Nat.succ.inj e) fun k n w h1 h2=>h (k + 1) n w h1 h2) rfl
theorem zip_at:∀ {names:List Str}{vals:List Value},names.Nodup->∀ (k:Nat) (n:Str) (v:Value),names[k]?=some n->vals[k]?=some v->(names.zip vals).lookup n=some v
 | [],_,_,_,_,_,h,_=>nomatch h
 | m::names,[],_,_,_,_,_,h=>nomatch h
 | m::names,w::vals,hn,0,n,v,h1,h2=>by
  cases h1;cases h2
  exact gw (xx ..) (gw (yx ..) (gw (beq_self_eq_true ..) rfl))
 | m::names,w::vals,hn,k + 1,n,v,h1,h2=>by
  refine gw (xx ..) (gw (yx ..) ?_)
  have hm:n∈names:=yr h1
  have hb:(n == m)=false:=beq_eq_false_iff_ne.mpr fun q=>(xg.mp hn).1 (q▸hm)
  refine gw hb ?_
  exact zip_at (xg.mp hn).2 k n v h1 h2
theorem bp {fd:FuncData}{vals:List Value} (h1:fd.params.posonlyargs=[]) (h2:fd.params.vararg=none) (h3:fd.params.kwonlyargs=[]) (h4:fd.params.kwarg=none) (h5:fd.defaults=.none) (hl:vals.length=(fd.params.args.map (·.arg)).length)
  (hmiss:((fd.params.args.map (·.arg)).filter fun n=>((fd.params.args.map (·.arg)).zip vals |>.lookup n).isNone)=[]) (hsame:(fd.params.args.map (·.arg)).filterMap (fun n=>(((fd.params.args.map (·.arg)).zip vals).lookup n).map (n,·))=(fd.params.args.map (·.arg)).zip vals):bindArgs fd ⟨vals,[]⟩=pure ((fd.params.args.map (·.arg)).zip vals):=by
 obtain ⟨n1,n2,⟨po,ar,va,ko,ka,df,kd⟩,b,sc,g,cl,d1,d2,d3,d4,d5,d6,d7,d8⟩:=fd
 dsimp only at *
 subst h1 h2 h3 h4 h5
 generalize hN:zam (fun x:Arg=>x.arg) ar=names at *
 have hg:¬ (decide (vals.length > names.length) && true)=true:=by refine gw hl (gw (decide_eq_false (xj _) ..) ?_);decide
 have hm:¬ (!((names.take (names.length - (([]:List Value).drop (([]:List Value).length - names.length)).length)).filter fun n=>((names.zip vals).lookup n).isNone).isEmpty)=true:=by refine gw (zav ..) (gw (List.length_nil ..) (gw (jw ..) (gw (zu ..) (gw (hmiss ..) ?_))));decide
 subst hN
 have e1:(Pure.pure (((zam (fun x:Arg=>x.arg) ar)++[]).filterMap (fun n=>(((zam (fun x:Arg=>x.arg) ar).zip vals).lookup n).map (n,·))):Sem (List (Str×Value)))=Pure.pure ((zam (fun x:Arg=>x.arg) ar).zip vals):=by exact gw (yi ..) (gw (hsame ..) rfl)
 refine (if_neg (α:=Sem (List (Str×Value))) hg).trans ((if_neg (α:=Sem (List (Str×Value))) hm).trans ?_)
 dsimp only
 rw [show ∀ k,List.drop k ((none:Option (Array Value)).getD #[]).toList=[] from fun k=>zav,List.zip_nil_right]
 exact e1
theorem bind_plain {fd:FuncData}{vals:List Value} (h1:fd.params.posonlyargs=[]) (h2:fd.params.vararg=none) (h3:fd.params.kwonlyargs=[]) (h4:fd.params.kwarg=none) (h5:fd.defaults=.none) (hl:vals.length=fd.params.args.length)
  (hnd:(fd.params.args.map (·.arg)).Nodup):bindArgs fd ⟨vals,[]⟩=pure ((fd.params.args.map (·.arg)).zip vals):=by
 have hl':vals.length=(fd.params.args.map (·.arg)).length:=by refine gw (zb ..) ?_;exact hl
 have hmiss:((fd.params.args.map (·.arg)).filter fun n=>((fd.params.args.map (·.arg)).zip vals |>.lookup n).isNone)=[]:=by
  rw [f8]
  intro n hn
  have:=zip_lookup hl' n hn
  simp only [g7]
  intro q;replace this:=q▸this;cases this
 have hsame:=zip_same hl' (zip_at (vals:=vals) hnd)
 exact bp h1 h2 h3 h4 h5 hl' hmiss hsame
theorem slots_sub:∀ (l:List (Str×NameKind)) (i:Nat),((slotsOf l i).map (·.1)).Sublist (l.map (·.1))
 | [],_=>.refl _
 | (y,kd)::l,i=>by cases kd <;> first | exact (slots_sub l _).cons_cons _ | exact (slots_sub l _).cons _
theorem fn_nodup {G:GT}{fn:Fn}{a:Arguments}{body:List Stmt}{sc:Scope} (h:TFn G fn a body sc):(a.args.map (·.arg)).Nodup:=by
 refine bw (h.1 ..) ?_
 exact .sublist (jh _ _) (.sublist (slots_sub _ _) h.2.1)
noncomputable def FnAt (h:Heap) (G:GT) (a:Addr) (fn:Fn):Prop:=∃ o fd body,h.get? a=some o/\o.data=.func fd/\h.CodeRec fd.code fd.qualname/\fd.body=.stmts body/\fd.closure=[]/\fd.globals=mainGlobals/\fd.builtins=builtinsNs /\
 (∀ vals:List Value,vals.length=fd.params.args.length->bindArgs fd ⟨vals,[]⟩=pure ((fd.params.args.map (·.arg)).zip vals))/\TFn G fn fd.params body fd.scope
noncomputable def nonV (v:Value):Ok (v=.none):=match v with
 | .none=>⟨true,fun _=>rfl⟩
 | _=>.no
noncomputable def emp {α:Type} (l:List α):Ok (l=[]):=⟨l.isEmpty,List.isEmpty_iff.mp⟩
noncomputable def non {α:Type} (o:Option α):Ok (o=none):=⟨o.isNone,g7.mp⟩
noncomputable def got {α:Type} (o:Option α):Option { x:α // o=some x }:=match o with
 | some x=>some ⟨x,rfl⟩
 | .none=>.none
noncomputable def fnData (d:Data):Option { fd:FuncData // d=.func fd }:=match d with
 | .func fd=>some ⟨fd,rfl⟩
 | _=>.none
noncomputable def flData (d:Data):Option { vs:Array Value // d=.fields vs }:=match d with
 | .fields fd=>some ⟨fd,rfl⟩
 | _=>.none
noncomputable def refV (v:Value):Option { a:Addr // v=.ref a }:=match v with
 | .ref a=>some ⟨a,rfl⟩
 | _=>.none
noncomputable def isStrV (v:Value) (q:Str):Ok (∃ t,v=.str q t):=match v with
 | .str q' t=>.dec (q'=q) fun e=>⟨t,e▸rfl⟩
 | _=>.no
noncomputable def codeAt (K:PySem.W.Frag) (c:Value) (q:Str):Ok (∀ h:Heap,K.In h->h.CodeRec c q) :=
 .on (refV c) fun a=>.on (got (K.lookup a.1)) fun o=>.on (flData o.1.data) fun vs=>.on (got (vs.1[1]?)) fun v=>(isStrV v.1 q).map fun ⟨t,e⟩ h kx=>⟨a.1,o.1,vs.1,t,a.2,kx _ _ o.2,vs.2,e▸v.2⟩
noncomputable def bodyOf (b:FuncBody):Option { l:List Stmt // b=.stmts l }:=match b with
 | .stmts l=>some ⟨l,rfl⟩
 | _=>.none
noncomputable def kFnAt (K:PySem.W.Frag) (G:GT) (fn:Fn) (a:Addr):Ok (∀ h:Heap,K.In h->FnAt h G a fn) :=
 .on (got (K.lookup a)) fun o=>.on (fnData o.1.data) fun q=>.on (bodyOf q.1.body) fun b=>.iff (q.1.globals=mainGlobals/\q.1.builtins=builtinsNs) fun h =>
  ((codeAt K q.1.code q.1.qualname).and (kFn G fn q.1.params b.1 q.1.scope) And.intro).and
   (((emp q.1.closure).and (nonV q.1.defaults) And.intro).and (((emp q.1.params.posonlyargs).and (non q.1.params.vararg) And.intro).and ((emp q.1.params.kwonlyargs).and (non q.1.params.kwarg) And.intro) And.intro) And.intro)
   fun h1 h2 hp kx=>⟨o.1,q.1,b.1,kx _ _ o.2,q.2,h1.1 hp kx,b.2,h2.1.1,h.1,h.2,fun vals hl=>bind_plain h2.2.1.1 h2.2.1.2 h2.2.2.1 h2.2.2.2 h2.1.2 hl (fn_nodup h1.2),h1.2⟩
end Mine
namespace Mine
open PySem PyProof.Rows PySem.Calls PySem.SeqAt
open PySem.W (Frag)
noncomputable def kAll {α:Type}{P:Nat->α->Prop} (f:∀ i x,Ok (P i x)):(l:List α)->(k:Nat)->Ok (∀ i x,l[i]?=some x->P (k + i) x)
 | [],k=>⟨true,fun _ i x h=>nomatch h⟩
 | a::l,k=>(f k a).and (kAll f l (k + 1)) fun h1 h2 i x h=>match i,h with
  | 0,h=>by cases h;exact h1
  | i + 1,h=>by have:=h2 i x h;exact (je k 1 i)▸this
noncomputable def kMem {α:Type}{P:α->Prop} (f:∀ x,Ok (P x)):(l:List α)->Ok (∀ x∈l,P x)
 | []=>⟨true,fun _ x h=>nomatch h⟩
 | a::l=>(f a).and (kMem f l) fun h1 h2 x h=>(zy.mp h).elim (fun e=>e▸h1) (h2 x)
noncomputable def isLit (v:V) (u:Value):Ok (∀ (X:W) (h:Heap) (μ:List Addr),VR X h μ v u):=match v with
 | .none=>match u with | .none=>⟨true,fun _ _ _ _=>.none⟩ | _=>.no
 | .bool b=>match u with | .bool c=>.dec (b=c) fun e _ _ _=>e▸.bool _ | _=>.no
 | .int i=>match u with | .int j t=>.dec (i=j) fun e _ _ _=>e▸.int _ _ | _=>.no
 | .str x=>match u with | .str y t=>.dec (x=codes y/\y.length<=lim) fun e _ _ _=>e.1▸.str _ _ e.2 | _=>.no
 | _=>.no
structure NmK (K:Frag) (G:GT) (fns cas cos:List Addr):Prop where
 fns:∀ i x,G.fns[i]?=some x->PySem.W.nsIn K mainGlobals x=some (some (.ref (fns.getD (0 + i) 0)))/\PySem.W.keepIn K (.ref (fns.getD (0 + i) 0))=true
 cls:∀ i x,G.cls[i]?=some x->PySem.W.nsIn K mainGlobals x=some (some (.ref (cas.getD (0 + i) 0)))
 own:∀ i x,G.own[i]?=some x->PySem.W.nsIn K mainGlobals x=some (some (.ref (cos.getD (0 + i) 0)))/\PySem.W.keepIn K (.ref (cos.getD (0 + i) 0))=true
 bi:∀ p∈biTab,PySem.W.nsIn K mainGlobals p.1=some none
 con:∀ p∈G.con,∃ u,PySem.W.nsIn K mainGlobals p.1=some (some u)/\∀ (X:W) (h:Heap) (μ:List Addr),VR X h μ p.2 u
noncomputable def oo {α:Type} (o:Option (Option α)):Option { x:α // o=some (some x) }:=match o with
 | some (some x)=>some ⟨x,rfl⟩
 | _=>.none
noncomputable def kNm (K:Frag) (G:GT) (fns cas cos:List Addr):Ok (NmK K G fns cas cos) :=
 (((kAll (fun i x=>.dec (PySem.W.nsIn K mainGlobals x=some (some (.ref (fns.getD i 0)))/\PySem.W.keepIn K (.ref (fns.getD i 0))=true) id) G.fns 0).and
  (kAll (fun i x=>.dec (PySem.W.nsIn K mainGlobals x=some (some (.ref (cas.getD i 0)))) id) G.cls 0) And.intro).and
  ((kAll (fun i x=>.dec (PySem.W.nsIn K mainGlobals x=some (some (.ref (cos.getD i 0)))/\PySem.W.keepIn K (.ref (cos.getD i 0))=true) id) G.own 0).and
   (kMem (fun p=>.dec (PySem.W.nsIn K mainGlobals p.1=some none) id) biTab) And.intro) And.intro).and
  (kMem (fun p=>.on (oo (PySem.W.nsIn K mainGlobals p.1)) fun u=>(isLit p.2 u.1).map fun h=>⟨u.1,u.2,h⟩) G.con)
  fun h1 h2=>⟨h1.1.1,h1.1.2,h1.2.1,h1.2.2,h2⟩
theorem boot_bi:∀ p∈biTab,p.1≠"__name__"/\bootBuiltins p.1=some p.2:=by decide +kernel
theorem nm_of {X:W}{G:GT}{p:Program}{loose:List Str}{mg mb:Str->Option Value}{fns cas cos:List Addr} (k:NmK X.K G fns cas cos) (kx:X.K.In X.h₀) (t:PySem.W.TopRead p loose mg mb X.h₀) (hf:∀ i,X.fa i=fns.getD i 0) (hc:∀ i,i < G.cls.length->X.ca i=cas.getD i 0) (ho:∀ i,i < G.own.length->X.co i=cos.getD i 0):Nm X G where
 kin:=kx
 ns:=by
  refine ⟨mg,mb,t.g,t.b,fun x i e=>?_,fun x i e=>?_,fun x v e=>?_,fun x v e=>?_,fun x i e=>?_⟩
  ·refine gw (hc i (zc.mp e).1 ..) ?_
   have:=PySem.W.mg_of kx t.g (k.cls i x e);replace this:=(zo ..)▸this;exact this
  ·rw [hf]
   have:=k.fns i x e;rw [zo] at this
   exact ⟨PySem.W.mg_of kx t.g this.1,this.2⟩
  ·obtain ⟨h1,h2⟩:=boot_bi _ e
   exact ⟨PySem.W.mg_none_of kx t.g (k.bi _ e),(t.builtins x h1).trans h2⟩
  ·obtain ⟨u,h1,h2⟩:=k.con _ e
   exact ⟨u,PySem.W.mg_of kx t.g h1,fun h μ=>h2 X h μ⟩
  ·refine gw (ho i (zc.mp e).1 ..) ?_
   have:=k.own i x e;replace this:=(zo ..)▸this
   exact ⟨PySem.W.mg_of kx t.g this.1,this.2⟩
noncomputable def sub0 (a b:Nat):Bool:=a == b || b == 0
structure XK (K:Frag) (cas:List Addr) (n c:Nat):Prop where
 k:∀ c'∈xf n,PySem.W.mroIn K (cas.getD c 0) (.ref (cas.getD c' 0))=some (sub0 c c')
noncomputable def kX (K:Frag) (cas:List Addr) (n c:Nat):Ok (XK K cas n c):=(kMem (fun c'=>.dec (PySem.W.mroIn K (cas.getD c 0) (.ref (cas.getD c' 0))=some (sub0 c c')) id) (xf n)).map fun h=>⟨h⟩
structure XObj (h:Heap) (C:Addr) (x:XD):Prop where
 obj:h.get? C=some (x.obj C)
 ns:h.Ns x.N x.mN
 ini:x.mN "__init__"=none
 tail:OwnTailQ h bmV x.bm
theorem XObj.keeps {h h':Heap}{C:Addr}{x:XD} (z:XObj h C x) (k:∀ b o,h.get? b=some o->h'.get? b=some o):XObj h' C x:=⟨k _ _ z.obj,z.ns.keeps k,z.ini,z.tail.keeps k⟩
noncomputable def kXObj (h:Heap) (top:Str) (x:Str) (chain:List Str) (C:Addr):Ok (∃ x,XObj h C x) :=
 .iff (h.nsMap mainGlobals x=some (.ref C)/\h.ownExcOk x chain bmV "ValueError.__new__"=true/\h.quietOk x=true) fun a=>(kMem (fun n=>Ok.dec (h.ownExcOk n [] bmV "ValueError.__new__"=true/\h.quietOk n=true) id) chain).map fun g=>by
  obtain ⟨C',N,nm,q,bs,hdct,sn,sub,ab,col,dd,k0,k1,k2,k3,k5,hb,hC,hN,hq⟩:=Heap.ownExcQ_of_ok a.2.1 a.2.2
  replace hb:=(a.1 ..)▸hb
  cases hb
  exact ⟨⟨_,N,nm,q,bs,hdct,sn,sub,ab,col,dd,k0,k1,k2,k3,k5,_⟩,hC,hN,hq _ (.head _),.of_chain chain fun n hn=>⟨⟨_,_,_,(g n hn).1⟩,(g n hn).2⟩⟩
structure XsK (h:Heap) (K:Frag) (cas:List Addr) (n:Nat):Prop where
 pos:0 < n
 x:∀ c∈xf n,XK K cas n c/\∃ x,XObj h (cas.getD c 0) x
noncomputable def chainOf (cls:List Str) (c:Nat):List Str:=if c=0 then [] else [cls.getD 0 ""]
noncomputable def kXs (h:Heap) (K:Frag) (cls:List Str) (cas:List Addr):Ok (XsK h K cas cls.length) :=
 (Ok.dec (0 < cls.length) id).and (kMem (fun c=>(kX K cas cls.length c).and (kXObj h (cls.getD 0 "") (cls.getD c "") (chainOf cls c) (cas.getD c 0)) And.intro) (xf cls.length)) fun h1 h2=>⟨h1,h2⟩
noncomputable def ixc (n c:Nat):Nat:=if c < n then c else 0
theorem ixc_lt {n:Nat} (h:0 < n) (c:Nat):ixc n c < n:=by unfold ixc;split;assumption;exact h
theorem sub_ix {n c c':Nat} (h:c' < n):sub0 c c'=sub0 (ixc n c) c':=by
 unfold ixc
 split
 ·rfl
 ·rename_i q
  unfold sub0
  have:(c == c')=false:=beq_eq_false_iff_ne.mpr (by (first | lia | omega))
  refine gw (this ..) (gw (Bool.false_or ..) ?_)
  cases c' with
  | zero=>rfl
  | succ k=>rfl
section
variable {X:W}{G:GT}{cas:List Addr}
theorem sl_of {h:Heap} (x:XsK h X.K cas G.cls.length) (kx:X.K.In X.h₀) (k:∀ b o,h.get? b=some o->X.h₀.get? b=some o) (hc:∀ i,X.ca i=cas.getD (ixc G.cls.length i) 0):SLeaf X G sub0 where
 cls:=fun c=>by
  have hk:=ixc_lt x.pos c
  obtain ⟨y,z,hz⟩:=x.x _ (vo.mpr hk)
  replace hz:=hz.keeps k
  rw [← hc] at hz
  have h1:=hz.obj
  refine ⟨z,⟨h1,hz.ns,hz.ini,hz.tail.tail⟩,fun c' h'=>?_⟩
  have e:=y.k c' (vo.mpr h')
  rw [← hc,← sub_ix h'] at e
  have e2:cas.getD c' 0=X.ca c':=by rw [hc,show ixc G.cls.length c'=c' from if_pos h']
  replace e:=e2▸e
  obtain ⟨cd,a1,a2⟩:=y6.mp e
  unfold PySem.W.clsIn at a1
  split at a1
  ·rename_i ho
   have:=kx _ _ ho
   replace this:=h1▸this
   cases this
   cases a1
   split at a2
   ·cases a2
   ·exact (Option.some.inj a2).symm
  ·cases a1
end
end Mine
namespace Mine
open PySem PyProof.Rows PySem.Calls
open PySem.W
noncomputable def fragOf (h:Heap):Frag:=(xf h.objs.size).filterMap fun a=>(h.get? a).map fun o=>(a,o)
theorem lookup_memA:∀ {l:Frag}{a:Addr}{o:Obj},l.lookup a=some o->(a,o)∈l
 | [],_,_,e=>nomatch e
 | (b,x)::l,a,o,e=>by
  rw [yx] at e
  cases hb:a == b with
  | true=>replace e:=hb▸e;cases e;refine gw (beq_iff_eq.mp hb ..) ?_;exact zh
  | false=>replace e:=hb▸e;exact zj _ (lookup_memA e)
theorem fragOf_in (h:Heap):(fragOf h).In h:=by
 intro a o e
 obtain ⟨b,_,e1⟩:=gj.mp (lookup_memA e)
 obtain ⟨x,e2,e3⟩:=zn.mp e1
 cases e3;exact e2
noncomputable def globRef (K:Frag) (x:Str):Addr:=match nsIn K mainGlobals x with
 | some (some (.ref a))=>a
 | _=>0
noncomputable def methRef (K:Frag) (p:Str×Str):Addr:=match clsIn K (globRef K p.1) with
 | some cd=>match nsIn K cd.ns p.2 with
  | some (some (.ref a))=>a
  | _=>0
 | .none=>0
structure Said (G:GT) (T:Tab) (more:Frag->List Addr->List Addr->Bool) (K:Frag) (fns cas cos:List Addr) (h:Heap):Prop where
 kx:K.In h
 nm:NmK K G fns cas cos
 fn:∀ i fn,T.fns[i]?=some fn->∀ h:Heap,K.In h->FnAt h G (fns.getD (0 + i) 0) fn
 xs:XsK h K cas G.cls.length
 mo:more K fns cos=true
noncomputable def kSaid (G:GT) (T:Tab) (more:Frag->List Addr->List Addr->Bool) (h:Heap) (K:Frag) (fns cas cos:List Addr):Ok (K.In h->Said G T more K fns cas cos h) :=
 ((kNm K G fns cas cos).and (kXs h K G.cls cas) And.intro).and ((kAll (fun i fn=>kFnAt K G fn (fns.getD i 0)) T.fns 0).and (Ok.dec (more K fns cos=true) id) And.intro) fun a b kx=>⟨kx,a.1,b.1,a.2,b.2⟩
noncomputable def lookAt (G:GT) (T:Tab) (ms:List (Str×Str)) (more:Frag->List Addr->List Addr->Bool) (h:Heap) (K:Frag):Bool :=
 (kSaid G T more h K (G.fns.map (globRef K)++ms.map (methRef K)) (G.cls.map (globRef K)) (G.own.map (globRef K))).b
noncomputable def Says (G:GT) (T:Tab) (more:Frag->List Addr->List Addr->Bool) (h:Heap):Prop:=∃ K fns cas cos,Said G T more K fns cas cos h
theorem says_of {G:GT}{T:Tab}{ms:List (Str×Str)}{more:Frag->List Addr->List Addr->Bool}{h:Heap} (e:lookAt G T ms more h (fragOf h)=true):Says G T more h :=
 ⟨_,_,_,_,(kSaid G T more h (fragOf h) _ _ _).h e (fragOf_in h)⟩
theorem Says.keeps {G:GT}{T:Tab}{more:Frag->List Addr->List Addr->Bool}{h h':Heap} (x:Says G T more h) (k:∀ b o,h.get? b=some o->h'.get? b=some o):Says G T more h':=by
 refine ex3 (x) fun K fns cas q_h=>?_;obtain ⟨cos,s⟩:=q_h
 exact ⟨K,fns,cas,cos,s.kx.keeps k,s.nm,s.fn,⟨s.xs.pos,fun c hc=>⟨(s.xs.x c hc).1,(s.xs.x c hc).2.imp fun _ z=>z.keeps k⟩⟩,s.mo⟩
theorem run_uni {prog p : Program} {w : World} {G : GT} {T : Tab} {more : Frag -> List Addr -> List Addr -> Bool} {K : Frag} {fns cas cos : List Addr} {loose : List Str} {mg mb : Str -> Option Value} {s : Shared} {scr : Addr} {vs : List Value} {ns : List Int} (S : Said G T more K fns cas cos s.heap) (t : TopRead p loose mg mb s.heap) (hg : s.gens = #[])
    (L : s.heap.IsList scr vs.toArray) (hi : IntsAre vs ns) (hn : ns.length <= 63) (hsub : T.sub = sub0) {law : Nat} {lx : Str} (hx : G.fns[law]? = some lx) {fa : Addr} (hlaw : mg lx = some (.ref fa)) {n : Nat} (hn12 : n <= 14) {σ : H}
    (hown : ∀ X : W, X.K = K -> X.h₀ = s.heap -> (∀ i, X.fa i = fns.getD i 0) -> (∀ i, X.co i = cos.getD (ixc G.own.length i) 0) -> Nm X G -> Own1 X G T)
    (hrun : (callsOf ns T n).call law [.scr] [] = .ok (.bool true) σ) :
    wpAny (model prog w) callerA (yd (.ref fa) [.ref scr]) (fun v s' => v = .bool true /\ (∀ b o, s.heap.get? b = some o -> s'.heap.get? b = some o) /\ s'.os = s.os /\ s'.gens = #[]) (fun _ _ => False) s := by
  let X : W := ⟨prog, w, s.heap, scr, ns, fun i => cas.getD (ixc G.cls.length i) 0, fun i => cos.getD (ixc G.own.length i) 0, fun i => fns.getD i 0, K, fun _ => False⟩
  have wd : ∀ b, Wd (X.wb b) G T := fun b => by
    have nm : Nm (X.wb b) G := nm_of (X := X.wb b) S.nm S.kx t (fun _ => rfl) (fun i h => by show cas.getD (ixc _ i) 0 = _; exact gw (show ixc G.cls.length i = i from if_pos h) rfl) fun i h => by show cos.getD (ixc _ i) 0 = _; exact gw (show ixc G.own.length i = i from if_pos h) rfl
    exact {
      nm := nm
      fns := fun i fn e => by have := S.fn i fn e s.heap S.kx; replace this := (zo ..) ▸ this; exact this
      lim := t.nolimit
      sl := by refine gw (hsub ..) ?_; exact sl_of (X := X.wb b) S.xs S.kx (fun _ _ e => e) fun _ => rfl
      own := hown (X.wb b) rfl rfl (fun _ => rfl) (fun _ => rfl) nm }
  have hfa : X.fa law = fa := by
    have := S.nm.fns law lx hx
    replace this := (zo ..) ▸ this
    have := mg_of S.kx t.g this.1
    replace this := (hlaw ..) ▸ this
    cases this; rfl
  have hlow : sysModules < s.heap.objs.size := by
    have e : ∃ o, K.lookup mainGlobals = some o := by
      have h6 := S.nm.bi ("len", .builtin "len") (by decide +kernel)
      unfold nsIn at h6
      cases ho : K.lookup mainGlobals with
      | none => replace h6 := ho ▸ h6; cases h6
      | some o => exact ⟨o, rfl⟩
    obtain ⟨o, e⟩ := e
    exact u6 (by decide +kernel) (yb (S.kx _ _ e))
  have c : Cn (X.wb X.bad) callerA n true s [] [] := {
    rm := { depth := by show 1 + claimMargin + 4 * n + 4 < recursionLimit; simp only [claimMargin, recursionLimit]; (first | lia | omega)
            units := by show 4 + 40 * n + 40 < cLine; simp only [cLine]; (first | lia | omega)
            handled := fun _ => rfl
            nb := by intro h; cases h }
    hr := ⟨rfl, .nil, (fun _ h => nomatch h), (fun i o a e => nomatch e)⟩
    base := ⟨fun _ _ e => e, ze _, hlow⟩
    fs := ⟨[], rfl, trivial⟩
    scr := ⟨vs, L, hi, by refine gw (hi.length ..) ?_; exact za hn (by decide)⟩
    bad := fun a h => h.elim }
  subst hfa
  refine (leafs (X := X) wd n X.bad).call law [.scr] [.ref scr] callerA s [] [] c (.cons .scr .nil) (by refine gw (show (callsOf X.ns T n).call law [.scr] [] = _ from hrun) ?_; intro q; cases q) _ _ (fun a σ' b s' μ' e S r => ?_) fun c σ' e s' μ' q => by replace q := (show (callsOf X.ns T n).call law [.scr] [] = _ from hrun) ▸ q; cases q
  · replace e := (show (callsOf X.ns T n).call law [.scr] [] = _ from hrun) ▸ e
    cases e
    cases r
    exact ⟨rfl, S.base.keep, S.os, S.gens.trans hg⟩
noncomputable def topRunT (tb:String->Option Builtin) (p:Program) (w:World) (n₀:Nat) (ann:Option Value):Nat->SharedT->Thread->Option SharedT
 | 0,_,_=>none
 | n + 1,s,t=>match through t with
  | true=>some s
  | false=>match stepOk n₀ ann t with
   | false=>none
   | true=>match stepT (denote tb) p w s t with
    | some (s',t')=>topRunT tb p w n₀ ann n s' t'
    | none=>none
theorem topRun_of {tb:String->Option Builtin}{p:Program}{w:World}{n₀:Nat}{ann:Option Value}:∀ {n:Nat}{s s':SharedT}{t:Thread},topRunT tb p w n₀ ann n s t=some s'->topRun tb p w n₀ ann n s.abs t=some s'.abs
 | 0,_,_,_,h=>nomatch h
 | n + 1,s,s',t,h=>by
  unfold topRunT at h
  unfold topRun
  cases he:through t with
  | true=>replace h:=he▸h;cases h;rfl
  | false =>
   replace h:=he▸h
   cases hk:stepOk n₀ ann t with
   | false=>replace h:=hk▸h;cases h
   | true =>
    replace h:=hk▸h
    cases hs:stepT (denote tb) p w s t with
    | none=>replace h:=hs▸h;cases h
    | some r=>obtain ⟨s₂,t₂⟩:=r;replace h:=hs▸h;refine gw (stepT_spec hs ..) ?_;exact topRun_of h
noncomputable def topRunQ (p:Program) (w:World) (n₀:Nat) (ann:Option Value):Nat->SharedT->Thread->Option SharedT
 | 0,_,_=>none
 | n + 1,s,t=>match through t with
  | true=>some s
  | false=>match PySem.W.Fast.tw6613529449190102663 n₀ ann t with
   | false=>none
   | true=>match PySem.W.Fast.tw10156331382660048174 (PySem.W.Fast.tw11892475500146522536 PySem.W.Fast.tw14364793385576792824) p w s t with
    | some (s',t')=>topRunQ p w n₀ ann n s' t'
    | none=>none
theorem topRunQ_eq {p:Program}{w:World}{n₀:Nat}{ann:Option Value}:∀ (n:Nat) (s:SharedT) (t:Thread),topRunQ p w n₀ ann n s t=topRunT treeTable p w n₀ ann n s t
 | 0,_,_=>rfl
 | n + 1,s,t=>by
  unfold topRunQ topRunT
  refine bw (PySem.W.Fast.te6613529449190102663 ..) (bw (PySem.W.Fast.te10156331382660048174 ..) (bw (PySem.W.Fast.te11892475500146522536 ..) (bw (PySem.W.Fast.te14364793385576792824 ..) ?_)))
  cases through t with
  | true=>rfl
  | false =>
   cases stepOk n₀ ann t with
   | false=>rfl
   | true =>
    cases stepT (denote treeTable) p w s t with
    | none=>rfl
    | some r=>obtain ⟨s',t'⟩:=r;exact topRunQ_eq n s' t'
noncomputable def tree0 (P:Params):BT:=((((((((((((BT.nil).ins 0 (boot_o_0 P)).ins 1 (boot_o_1 P)).ins 2 (boot_o_2 P)).ins 3 (boot_o_3 P)).ins 4 (boot_o_4 P)).ins 5 (boot_o_5 P)).ins 6 (boot_o_6 P)).ins 7 (boot_o_7 P)).ins 8 (boot_o_8 P)).ins 9 (boot_o_9 P)).ins 10 (boot_o_10 P))
noncomputable def start0 (P:Params) (os:OsState):SharedT:=⟨tree0 P,11,(boot_heap P).life,fu [],boot_drawn,boot_toks,os⟩
theorem start0_abs (P:Params) (os:OsState):(start0 P os).abs=⟨boot_heap P,fu [],boot_drawn,boot_toks,os⟩:=by kernel_rfl
theorem boot_size (P:Params):((boot_heap P).isNs mainGlobals && (fu []:Array GenState).size == 0,(boot_heap P).objs.size,(boot_heap P).nsMap mainGlobals "__annotations__")=(true,11,some (.ref 6)):=by kernel_rfl
theorem left_of {p q:Program}{loose:List Str}{Xt:Shared->Bool}{α:Type}{Yf:Shared->α}{Ya:World->α}{N M:Nat} (e:opening p=plainProg p.main.scope.names) (hN:fc 600 N=true) (f:∀ s,fenceModules? p s=some s) (le:fc M N=true)
  (run:∀ (w:World) (os:OsState),(topRunQ p w 11 (some (.ref 6)) M (start0 w.params os) (topStub p)).map (fun T=>((staticsOk (importedModules p.main.body) (boot_heap w.params) T.abs.heap && namesBound p T.abs.heap && gensDone T.abs && laidKept (boot_heap w.params) T.abs.heap),
    openSeen q loose (importedModules p.main.body) Xt true T.abs))=some (true,openGood q loose)) (runY:∀ (w:World) (os:OsState),(topRunQ p w 11 (some (.ref 6)) M (start0 w.params os) (topStub p)).map (fun T=>Yf T.abs)=some (Ya w)):LeftO p q loose Xt Yf Ya N:=fun w=>by
 obtain ⟨⟨h,gs,d,k,os⟩,e,e'⟩:=zn.mp (boot_open (N:=N) e hN f w)
 obtain ⟨rfl,rfl,rfl,rfl⟩:h=boot_heap w.params/\gs=fu []/\d=boot_drawn/\k=boot_toks:=by
  injection e' with a b;injection b with b c;injection c with c d;exact ⟨a,b,c,d⟩
 obtain ⟨z1,z2,z3⟩:_/\_/\_:=by
  have z:=boot_size w.params
  injection z with a b;injection b with b c;exact ⟨a,b,c⟩
 obtain ⟨T,hT,l⟩:=zn.mp (run w os)
 obtain ⟨l1,l2⟩:_/\_:=by injection l with a b;exact ⟨a,b⟩
 have l3:=runY w os
 replace l3:=Option.some.inj (hT▸l3)
 replace hT:=(topRunQ_eq ..)▸hT
 have r:=topRun_of hT
 replace r:=(start0_abs ..)▸r
 have r:=topRun_mono (N - M) _ _ _ _ r
 replace r:=(show M + (N - M)=N by have:=xu le;(first | lia | omega))▸r
 have t:topFrom treeTable p w N ⟨boot_heap w.params,fu [],boot_drawn,boot_toks,os⟩=some T.abs:=by
  unfold topFrom
  dsimp only
  refine gw z1 (gw z2 (gw z3 (gw r ?_)))
  show (match staticsOk (importedModules p.main.body) (boot_heap w.params) T.abs.heap && namesBound p T.abs.heap && gensDone T.abs && laidKept (boot_heap w.params) T.abs.heap with | true=>_ | false=>_)=_
  exact gw l1 rfl
 unfold openEnds
 refine gw e ?_
 show (topFrom treeTable p w N _).map _=_
 refine gw t ?_
 exact congrArg some (Prod.ext l2 l3)
theorem kAll_app {α:Type}{P:Nat->α->Prop} (f:∀ i x,Ok (P i x)):∀ (l l':List α) (k:Nat),(kAll f (l++l') k).b=((kAll f l k).b && (kAll f l' (k + l.length)).b)
 | [],_,_=>(Bool.true_and _).symm
 | a::l,l',k=>by
  show ((f k a).b && (kAll f (l++l') (k + 1)).b)=(((f k a).b && (kAll f l (k + 1)).b) && (kAll f l' (k + (l.length + 1))).b)
  rw [kAll_app f l l' (k + 1),Bool.and_assoc,xo,vx 1]
end Mine
namespace Mine
open PySem PyProof.Rows PySem.Calls
open PySem.W
structure OK1 (K:Frag) (fns:List Addr) (att:List Str) (C:Addr) (p:Nat×List (List Nat×Nat)):Prop where
 ga:findIn K (.ref C) "__getattribute__"=some (some (.builtin "object.__getattribute__"))
 gn:findIn K (.ref C) "__getattr__"=some none
 sa:findIn K (.ref C) "__setattr__"=some (some (.builtin "object.__setattr__"))
 mks:makesIn K C=true
 ini:findIn K (.ref C) "__init__"=some (some (.ref (fns.getD p.1 0)))
 inf:typeIn K (.ref (fns.getD p.1 0))=some (.type "function")
 ov:plainOver K C=true
 hd:(clsIn K C).any (·.hasDict)=true
 att:∀ nm∈att,findIn K (.ref C) nm=some none
 me:∀ q∈p.2,findIn K (.ref C) ⟨q.1.toArray⟩=some (some (.ref (fns.getD q.2 0)))/\typeIn K (.ref (fns.getD q.2 0))=some (.type "function")/\keepIn K (.ref (fns.getD q.2 0))=true
noncomputable def kOwn1 (K:Frag) (fns:List Addr) (att:List Str) (C:Addr) (p:Nat×List (List Nat×Nat)):Ok (OK1 K fns att C p) :=
 .iff ((findIn K (.ref C) "__getattribute__"=some (some (.builtin "object.__getattribute__"))/\findIn K (.ref C) "__getattr__"=some none/\findIn K (.ref C) "__setattr__"=some (some (.builtin "object.__setattr__"))/\makesIn K C=true) /\
  findIn K (.ref C) "__init__"=some (some (.ref (fns.getD p.1 0)))/\typeIn K (.ref (fns.getD p.1 0))=some (.type "function")/\plainOver K C=true/\(clsIn K C).any (·.hasDict)=true) fun h =>
  (kMem (fun nm=>.dec (findIn K (.ref C) nm=some none) id) att).and (kMem (fun q=>.dec (findIn K (.ref C) ⟨q.1.toArray⟩=some (some (.ref (fns.getD q.2 0)))/\typeIn K (.ref (fns.getD q.2 0))=some (.type "function")/\keepIn K (.ref (fns.getD q.2 0))=true) id) p.2)
   fun h1 h2=>⟨h.1.1,h.1.2.1,h.1.2.2.1,h.1.2.2.2,h.2.1,h.2.2.1,h.2.2.2.1,h.2.2.2.2,h1,h2⟩
noncomputable def kOwn (att:List Str) (cls:List (Nat×List (List Nat×Nat))) (K:Frag) (fns cos:List Addr):Bool:=(kAll (fun i p=>kOwn1 K fns att (cos.getD i 0) p) cls 0).b
theorem kOwn_of {att:List Str}{cls:List (Nat×List (List Nat×Nat))}{K:Frag}{fns cos:List Addr} (h:kOwn att cls K fns cos=true) {i:Nat}{p:Nat×List (List Nat×Nat)} (e:cls[i]?=some p):OK1 K fns att (cos.getD i 0) p:=by
 have:=(kAll (fun i p=>kOwn1 K fns att (cos.getD i 0) p) cls 0).h h i p e
 replace this:=(zo ..)▸this;exact this
section
variable {X:W}{A:Around}{d:Nat}{s:Shared}{μ:List Addr}{σ:H}{G:GT}{T:Tab}{fns:List Addr}
theorem isStr_is (nm:Str) (v:Value):v.isStr nm=(strKind X.prog X.w).is nm v:=((strKind X.prog X.w).strs nm nm 0 v (strKind_is X.prog X.w nm 0)).symm
theorem lookup_mem' {α:Type}:∀ {l:List (List Nat×α)}{m:List Nat}{a:α},l.lookup m=some a->(m,a)∈l
 | [],_,_,e=>nomatch e
 | (b,x)::l,m,a,e=>by
  rw [yx] at e
  cases hb:m == b with
  | true=>replace e:=hb▸e;cases e;refine gw (beq_iff_eq.mp hb ..) ?_;exact zh
  | false=>replace e:=hb▸e;exact zj _ (lookup_mem' e)
theorem look_own {h:Heap}{δ:Addr}{l:List (Str×Value)} (D:h.DictOf (strKind X.prog X.w) δ l) (nm:Str):∃ o,h.get? δ=some o/\lookIn nm o=some (valueAt l nm):=by
 refine ex3 (D) fun o es ep q_h=>?_;refine an6 q_h fun ho hc hdat hk hp hn=>?_
 refine ⟨o,ho,?_⟩
 unfold lookIn
 refine gw (hdat ..) ?_
 dsimp only
 have e:(fun x:DictEntry=>x.key.isStr nm)=fun x=>(strKind X.prog X.w).is nm x.key:=funext fun x=>isStr_is nm x.key
 refine gw e (bw (hp.find nm ..) ?_)
 cases hf:es.toList.find? (fun x=>(strKind X.prog X.w).is nm x.key) with
 | some en=>rfl
 | none =>
  dsimp only
  have:es.toList.any (·.refKey)=false:=gx.mpr fun x hx q=>by
   obtain ⟨k,h1,_⟩:=hk x (zap.mp hx)
   obtain ⟨t,ht⟩:=Value.isStrOf_shape h1
   unfold DictEntry.refKey at q
   replace q:=ht▸q
   cases q
  refine gw (this ..) ?_;rfl
theorem inst_at {a δ:Addr}{c:Nat}{sl:Array (Option Value)}{o:Obj} (e:s.heap.get? a=some ⟨.ref (X.co c),some δ,.plain,sl⟩) (ho:s.heap.get? δ=some o):InstAt s.heap a ⟨.ref (X.co c),some δ,.plain,sl⟩ (X.co c) (some o):=⟨e,rfl,rfl,ho⟩
theorem any_has {α:Type}{p:α->Bool}{x:Option α} (e:x.any p=true):∃ a,x=some a/\p a=true:=by cases x with | none=>cases e | some a=>exact ⟨a,rfl,e⟩
theorem own_mlook (nm':Nm X G) (hf:∀ k p,T.cls[k]?=some p->OK1 X.K fns G.att (X.co k) p) (hfa:∀ i,X.fa i=fns.getD i 0) (x:V) (u:Value) (nm:Str) (pl:Sem Bool) (c:Cn X A d true s μ σ) (r:VR X s.heap μ x u) :
  Sm X (Wp X A (getMethod u nm pl)) (mlookOf T x (codes nm) σ) (fun _ _ i p=>p=(.ref (X.fa i),[u])/\PySem.W.keepIn X.K (.ref (X.fa i))=true) s μ:=by
 cases r <;> first | exact Sm.stuck | skip
 rename_i k dd a δ sl e hm
 refine sm_onD c hm fun kvs l ho D rr hz=>?_
 obtain ⟨o,h1,h2⟩:=look_own D nm
 rcases rr.get nm with ⟨q1,q2⟩ | ⟨v,u,q1,_⟩
 ·refine gw q1 ?_
  refine sm_pick fun i hi=>?_
  obtain ⟨p,hp,hl⟩:=y6.mp hi
  have Y:=hf k p hp
  obtain ⟨y1,y2,y3⟩:=Y.me _ (lookup_mem' hl)
  rw [← hfa] at y1 y2 y3
  replace h2:=q2▸h2
  refine Sm.ok fun Q E hQ=>method_fn (c.kin nm') (inst_at e h1) Y.ga Y.gn (show findIn X.K (.ref (X.co k)) nm=_ from y1) y2 (by show (lookIn nm o).map _=_;refine gw h2 ?_;rfl) (hQ _ _ _ (Step.refl c.hr c.base) ⟨rfl,y3⟩)
 ·refine gw q1 ?_;exact Sm.stuck
theorem own_attr (nm':Nm X G) (hf:∀ k,∃ p,OK1 X.K fns G.att (X.co k) p) (x:V) (u:Value) (nm:Str) (ha:nm∈G.att) (c:Cn X A d true s μ σ) (r:VR X s.heap μ x u) :
  Sm X (Wp X A (getAttr u nm true)) (attrV x (codes nm) σ) (Rl X) s μ:=by
 cases r <;> first | exact Sm.stuck | skip
 rename_i k dd a δ sl e hm
 obtain ⟨p,Y⟩:=hf k
 refine sm_onD c hm fun kvs l ho D rr hz=>?_
 obtain ⟨o,h1,h2⟩:=look_own D nm
 refine sm_pick fun v hv=>?_
 rcases rr.get nm with ⟨q1,q2⟩ | ⟨v',u',q1,q2,q3⟩
 ·replace hv:=q1▸hv;cases hv
 ·replace hv:=q1▸hv;cases hv
  replace h2:=q2▸h2
  obtain ⟨cd,z1,z2⟩:=any_has Y.hd
  have hfo:findObj X.K (X.co k) (some o) nm=some (.value u'):=by
   unfold findObj
   refine gw z1 (gw (ww ..) (gw (Y.att nm ha ..) (gw (ww ..) (gw (ww ..) (gw (ww ..) ?_)))))
   dsimp only
   unfold PySem.W.ownOf
   refine gw (if_pos z2 ..) ?_
   dsimp only
   refine gw h2 ?_;rfl
  refine Sm.ok fun Q E hQ=>get_value (c.kin nm') (inst_at e h1) Y.ga hfo (by cases q3 <;> rfl) (hQ _ _ _ (c.same _) (((c.same (s.toks + 1)).vr c.hr q3)))
theorem put_own {δ:Addr}{l:List (Str×Value)}{o:Obj}{es:Array DictEntry}{ep:Nat}{nm:Str}{t:Tok}{v:Value}{h:Heap} (ho:h.get? δ=some o) (hc:o.ExactDict) (hdat:o.data=.dict es ep) (hk:KeysOf (strKind X.prog X.w) es) (hp:Pairs (strKind X.prog X.w) es.toList l) (hn:(l.map (·.1)).Nodup) :
  ∃ o' es' n,(h.update δ (Obj.putName nm (hashStr X.w nm) (.str nm t) v)).get? δ=some o'/\o'.data=.dict es' n/\es'.size<=es.size + 1/\(h.update δ (Obj.putName nm (hashStr X.w nm) (.str nm t) v)).DictOf (strKind X.prog X.w) δ (stored l nm v):=by
 obtain ⟨c,dd,dt,sl⟩:=o
 have hdat:dt=.dict es ep:=hdat
 subst hdat
 have e:(fun x:DictEntry=>x.key.isStr nm)=fun x=>(strKind X.prog X.w).is nm x.key:=funext fun x=>isStr_is nm x.key
 have hidx:(es.findIdx? fun x=>(strKind X.prog X.w).is nm x.key)=l.findIdx? fun kv=>decide (kv.1=nm):=by
  rw [← hp.findIdx nm];obtain ⟨q⟩:=es;simp
 cases hi:es.findIdx? (fun x=>x.key.isStr nm) with
 | some i =>
  have hput:Obj.putName nm (hashStr X.w nm) (.str nm t) v ⟨c,dd,.dict es ep,sl⟩=⟨c,dd,.dict (es.modify i fun x=>{ x with val:=v }) ep,sl⟩:=by simp only [Obj.putName_eq,Obj.putNameByArray,hi]
  have hg:(h.update δ (Obj.putName nm (hashStr X.w nm) (.str nm t) v)).get? δ=some ⟨c,dd,.dict (es.modify i fun x=>{ x with val:=v }) ep,sl⟩:=by
   exact gw (wu _ ho (by rw [hput];rfl) ..) (gw (hput ..) rfl)
  replace hi:=e▸hi
  refine ⟨_,_,_,hg,rfl,by refine gw (Array.size_modify ..) ?_;exact yh _,_,_,_,hg,⟨hc.1,hc.2.1,hc.2.2⟩,rfl,hk.modify _ _,?_,?_⟩
  ·rw [stored,if_pos (any_of_findIdx_some (hidx▸hi))]
   have hl:(es.toList.findIdx? fun x=>(strKind X.prog X.w).is nm x.key)=some i:=by refine bw hi ?_;obtain ⟨q⟩:=es;simp
   have:=hp.modify hn hl v
   obtain ⟨q⟩:=es
   simpa using this
  ·rw [stored,if_pos (any_of_findIdx_some (hidx▸hi)),keys_map_store];exact hn
 | none =>
  have hput:Obj.putName nm (hashStr X.w nm) (.str nm t) v ⟨c,dd,.dict es ep,sl⟩=⟨c,dd,.dict (es.push ⟨hashStr X.w nm,.str nm t,v⟩) (ep + 1),sl⟩:=by simp only [Obj.putName_eq,Obj.putNameByArray,hi]
  have hg:(h.update δ (Obj.putName nm (hashStr X.w nm) (.str nm t) v)).get? δ=some ⟨c,dd,.dict (es.push ⟨hashStr X.w nm,.str nm t,v⟩) (ep + 1),sl⟩:=by
   exact gw (wu _ ho (by rw [hput];rfl) ..) (gw (hput ..) rfl)
  replace hi:=e▸hi
  have hnot:nm∉l.map (·.1):=not_mem_of_findIdx_none (hidx▸hi)
  have hany:¬ (l.any fun kv=>decide (kv.1=nm))=true:=by
   rw [ui];rintro ⟨kv,hkv,he⟩
   exact hnot (w4.mpr ⟨kv,hkv,of_decide_eq_true he⟩)
  refine ⟨_,_,_,hg,rfl,by refine gw (Array.size_push ..) ?_;exact ze _,_,_,_,hg,⟨hc.1,hc.2.1,hc.2.2⟩,rfl,hk.push (strKind_is X.prog X.w nm t) _,?_,?_⟩
  ·rw [stored,if_neg hany]
   have:=hp.append (strKind_is X.prog X.w nm t) (hashStr X.w nm) v
   obtain ⟨q⟩:=es
   simpa using this
  ·rw [stored,if_neg hany,yg,vk]
   refine ⟨hn,by simp,?_⟩
   intro a ha b hb
   simp only [xn,List.map_nil,zg] at hb
   subst hb
   exact fun e=>hnot (e▸ha)
theorem own_seta (nm':Nm X G) (hf:∀ k,∃ p,OK1 X.K fns G.att (X.co k) p) (x v:V) (u w:Value) (nm:Str) (ha:nm∈G.att) (hnl:nm.length<=4096) (c:Cn X A d true s μ σ) (r:VR X s.heap μ x u) (r':VR X s.heap μ v w) :
  Sm X (Wp X A (setAttr u nm w)) (setaV x (codes nm) v σ) (fun _ _ _ _=>True) s μ:=by
 cases r <;> first | exact Sm.stuck | skip
 rename_i k dd a δ sl e hm
 obtain ⟨p,Y⟩:=hf k
 refine sm_onD c hm fun kvs l ho D rr hz=>?_
 refine sm_putD c hm D (rr.put (dict_nodup D) nm (za hnl (by decide)) r') fun Q E hQ=>?_
 refine ex3 (D) fun o es ep q_h=>?_;refine an6 q_h fun h1 hc hdat hk hp hn=>?_
 obtain ⟨cd,z1,z2⟩:=any_has Y.hd
 have I:=inst_at e h1
 have ht:takerIn X.K (X.co k) nm=some none:=by unfold takerIn;refine gw (Y.att nm ha ..) ?_;rfl
 refine PySem.W.set_plain (c.kin nm') I Y.sa (osa_open (s:={ s with toks:=s.toks + 1 }) (c.kin nm') I Y.ov ht fun b=>?_)
 refine wpAny_bind (wpAny_pure (wpAny_bind (wpAny_bind (wpAny_loadPart e (wpAny_bind ((looks_clsIn (c.kin nm') z1).here (s:={ s with toks:=s.toks + 1 }) ?_))))))
 refine gw z2 ?_
 refine wpAny_pure (a:=some δ) (wpAny_bind (wpAny_pure (wpAny_bind ?_)))
 unfold nsSet
 refine wpAny_bind (wpAny_bind (wpAny_askSetting (wpAny_pure (wpAny_bind (wpAny_mkText (wpAny_bind (wpAny_loadPart h1 ?_)))))))
 refine gw (hdat ..) ?_
 dsimp only
 have hany:es.any (·.refKey)=false:=by
  rw [Array.any_eq_false']
  intro x hx q
  obtain ⟨k',h1,_⟩:=hk x hx
  obtain ⟨t,ht⟩:=Value.isStrOf_shape h1
  unfold DictEntry.refKey at q
  replace q:=ht▸q
  cases q
 refine gw (aRefKeyMayBeTheName_at ..) (gw (hany ..) (gw (Bool.and_false ..) ?_))
 refine ex3 (put_own (nm:=nm) (t:=s.toks + 1) (v:=w) h1 hc hdat hk hp hn) fun o' es' n q_h=>?_;refine an4 q_h fun g1 g2 g3 g4=>?_
 refine wpAny_updatePart h1 ?_
 have hes:es.size=l.length:=by refine bw (yn ..) ?_;exact hp.length
 refine wpAny_bind (wpAny_lookBehind g1 (by refine gw g2 ?_;exact pastItsLine_dict (by have:lim=sizeLine:=rfl;(first | lia | omega))) ?_)
 exact wpAny_pure (hQ _ _ g4 (Heap.SameBut.update ..))
theorem under_make (A:Around) (C:Addr) (us:List Value):A.under (.builtin "type.__call__" ⟨.ref C::us,[]⟩)=upA A 1:=by
 have h1:(Code.builtin "type.__call__" ⟨.ref C::us,[]⟩).weight=1:=by kernel_rfl
 have h2:(Code.builtin "type.__call__" ⟨.ref C::us,[]⟩).cUnits=1:=by kernel_rfl
 have h3:(Code.builtin "type.__call__" ⟨.ref C::us,[]⟩).envs=[]:=by kernel_rfl
 have h4:(Code.builtin "type.__call__" ⟨.ref C::us,[]⟩).guards=[]:=by kernel_rfl
 unfold Around.under upA
 rw [h1,h2,h3,h4]
 obtain ⟨a,b,c,d,e⟩:=A
 cases c <;> cases d <;> rfl
theorem own_make (nm':Nm X G) (hf:∀ k p,T.cls[k]?=some p->OK1 X.K fns G.att (X.co k) p) (hfa:∀ i,X.fa i=fns.getD i 0) (k:Nat) (p:Nat×List (List Nat×Nat)) (hp:T.cls[k]?=some p) (f:List V->M V) (d:Nat)
  (hF:∀ (vs:List V) (us:List Value) (A:Around) (s:Shared) (μ:List Addr) (σ:H),Cn X A (d + 1) true s μ σ->VRs X s.heap μ vs us->Sm X (Pc X (upA A 1) (.ref (X.fa p.1)) us) (f vs σ) (Rl X) s μ)
  (vs:List V) (us:List Value) (A:Around) (s:Shared) (μ:List Addr) (σ:H) (c:Cn X A (d + 1) true s μ σ) (r:VRs X s.heap μ vs us) :
  Sm X (Wp X A (yd (.ref (X.co k)) us)) ((f (.inst k σ.length::vs)).bnd (backI k σ.length) (σ++[.dict []])) (Rl X) s μ:=by
 have Y:=hf k p hp
 have S1:=Step.alloc (X:=X) (o:={ cls:=.type "dict",data:=.dict #[] }) (x:=.dict []) c s.toks dict_new
 have c1:=c.step S1
 have S2:=Step.push c1 (instObj (X.co k) s.heap.objs.size) s.toks
 have S12:=S1.trans S2
 have c2:=c.step S12
 have rI:VR X ((s.heap.push emptyDict).push (instObj (X.co k) s.heap.objs.size)) (μ++[s.heap.objs.size]) (.inst k σ.length) (.ref (s.heap.objs.size + 1)) :=
  .inst (sl:=#[]) (by have:=ym (s.heap.push emptyDict) (o:=instObj (X.co k) s.heap.objs.size) rfl;rw [wf] at this;exact this) (c.newRef _)
 have z:=hF (.inst k σ.length::vs) (.ref (s.heap.objs.size + 1)::us) A _ _ _ c2 (.cons rI (S12.vrs c.hr r))
 intro hne Q E hQ hE
 have hi:=Y.ini
 rw [← hfa] at hi
 have ht:=Y.inf
 rw [← hfa] at ht
 obtain ⟨hh,gg,dr,t,os⟩:=s
 refine wpAny_call (make_core (makes_of (c.kin nm') Y.mks) (looks_findIn (c.kin nm') hi) (fun self=>bind_fn (c.kin nm') self ht) (.inl rfl) ?_)
 refine gw (under_make ..) ?_
 refine codeAny_mono (z (fun q=>hne (bnd_stuck q)) (fun v s'=>v=.none/\Q (.ref (hh.objs.size + 1)) s') E (fun a σ' b s' μ' e S' r'=>?_) fun cc σ' y s' μ' e S' x'=>hE cc σ' y s' μ' (bnd_exc e) (S12.trans S') (x'.le S12.pers)) fun rr s' h=>?_
 ·rw [bnd_ok e] at hne hQ
  cases r' <;> first | exact absurd rfl hne | skip
  exact ⟨rfl,hQ _ σ' _ s' μ' rfl (S12.trans S') (S'.vr c2.hr rI)⟩
 ·rcases rr with y | (v | _ | _ | _) <;> first | exact h | exact h.elim
theorem own_of {K:Frag}{h:Heap}{cas cos:List Addr} (nm':Nm X G) (S:Said G T (kOwn G.att T.cls) K fns cas cos h) (hK:X.K=K) (hfa:∀ i,X.fa i=fns.getD i 0) (hco:∀ i,X.co i=cos.getD (ixc G.own.length i) 0) (hl:G.own.length=T.cls.length) (h0:0 < G.own.length):Own1 X G T:=by
 subst hK
 have h1:∀ k p,T.cls[k]?=some p->OK1 X.K fns G.att (X.co k) p:=fun k p e=>by
  have:k < G.own.length:=by refine gw hl ?_;exact (zc.mp e).1
  rw [hco,show ixc G.own.length k=k from if_pos this]
  exact kOwn_of S.mo e
 have h2:∀ k,∃ p,OK1 X.K fns G.att (X.co k) p:=fun k=>by
  have lt:=ixc_lt h0 k
  rw [hco]
  exact ⟨_,kOwn_of S.mo (zf (by rw [← hl];exact lt))⟩
 exact ⟨fun x u nm pl A d s μ σ c r=>own_mlook nm' h1 hfa x u nm pl c r,fun x u nm A d s μ σ ha c r=>own_attr nm' h2 x u nm ha c r,fun x v u w nm A d s μ σ ha hl c r r'=>own_seta nm' h2 x v u w nm ha hl c r r',fun k p hp f d hF vs us A s μ σ c r=>own_make nm' h1 hfa k p hp f d hF vs us A s μ σ c r⟩
end
end Mine
open PySem PySem.W PyProof.Rows
namespace Mine.L13
noncomputable def q:Program:=view PySem.Challenge.pw_uf030017_13 [58]
noncomputable def conN:List (Str×V):=[("SIGNS",.str [97,98,99,100,101,102,103,104,105,106,107,108,109,110,111,112,113,114,115,116,117,118,119,120,121,122,48,49,50,51,52,53,54,55,56,57,46]),("MOST_SIGNS",.int 12),("GREATEST",.int 1000000000000000000000000000000)]
noncomputable def attN:List Str:=["start","state","kept_at","written","said","seen","heads","stock","dealings","row"]
noncomputable def G:GT:=⟨fnN,exN,conN,attN,owN⟩
noncomputable def T:Tab:=⟨fs,cls,sub0⟩
noncomputable def loose:List Str:=fnN.dropLast++exN++owN++conN.map (·.1)
noncomputable def seenAt (s:Shared):Bool:=lookAt G T meN (kOwn attN cls) s.heap (fragOf s.heap)
noncomputable abbrev fnA (K:Frag):List Addr:=G.fns.map (Mine.globRef K)++meN.map (Mine.methRef K)
noncomputable abbrev caA (K:Frag):List Addr:=G.cls.map (Mine.globRef K)
noncomputable abbrev coA (K:Frag):List Addr:=G.own.map (Mine.globRef K)
noncomputable abbrev Ru (f:Heap->Frag->Bool):Prop:=∀ (w:World) (os:OsState),(Mine.topRunQ PySem.Challenge.pw_uf030017_13 w 11 (some (.ref 6)) 12000 (Mine.start0 w.params os) (topStub PySem.Challenge.pw_uf030017_13)).map (fun T=>f T.abs.heap (Mine.fragOf T.abs.heap))=some true
set_option maxHeartbeats 0 in
theorem y1:Ru fun h K=>((Mine.kNm K G (fnA K) (caA K) (coA K)).and (Mine.kXs h K G.cls (caA K)) And.intro).b:=by intro w os;kernel_rfl
set_option maxHeartbeats 0 in
theorem y2:Ru fun h K=>(Mine.kAll (fun i fn=>Mine.kFnAt K G fn ((fnA K).getD i 0)) (fs.take 36) 0).b:=by intro w os;kernel_rfl
set_option maxHeartbeats 0 in
theorem y3:Ru fun h K=>(Mine.kAll (fun i fn=>Mine.kFnAt K G fn ((fnA K).getD i 0)) (fs.drop 36) 36).b:=by intro w os;kernel_rfl
set_option maxHeartbeats 0 in
theorem y4:Ru fun h K=>decide (Mine.kOwn attN cls K (fnA K) (coA K)=true):=by intro w os;kernel_rfl
theorem seen_all:Ru fun h K=>Mine.lookAt G T meN (Mine.kOwn attN cls) h K:=fun w os=>by
 obtain ⟨t,e,h1⟩:=zn.mp (y1 w os)
 have h2:=y2 w os
 have h3:=y3 w os
 have h4:=y4 w os
 rw [e] at h2 h3 h4 ⊢
 have h:=Mine.kAll_app (fun i fn=>Mine.kFnAt (Mine.fragOf t.abs.heap) G fn ((fnA (Mine.fragOf t.abs.heap)).getD i 0)) (fs.take 36) (fs.drop 36) 0
 refine congrArg some ?_
 show (_ && ((Mine.kAll (fun i fn=>Mine.kFnAt (Mine.fragOf t.abs.heap) G fn ((fnA (Mine.fragOf t.abs.heap)).getD i 0)) (fs.take 36++fs.drop 36) 0).b && _))=true
 rw [h]
 exact yt.mpr ⟨h1,yt.mpr ⟨yt.mpr ⟨Option.some.inj h2,Option.some.inj h3⟩,Option.some.inj h4⟩⟩
set_option maxHeartbeats 0 in
theorem left:LeftO PySem.Challenge.pw_uf030017_13 q loose (fun s=>xlAt q [] s && recOk [] s) seenAt (fun _=>true) 12000 :=
 left_of (M:=12000) (by kernel_rfl) (by decide +kernel) (fun s=>by kernel_rfl) (by decide +kernel) (by intro w os;kernel_rfl) seen_all
end Mine.L13
theorem Mine.L13.holds (hpure:∀ ns:List Int,ns.length<=63->∃ σ,(Mine.callsOf ns Mine.L13.T 12).call 36 [.scr] []=.ok (.bool true) σ):PySem.Challenge.rw_uf030017_13.Holds:=by
 w_on
 refine holds_law (by kernel_rfl) fun said=>?_
 refine holds_open (q:=Mine.L13.q) (loose:=Mine.L13.loose) (Xt:=fun s=>xlAt Mine.L13.q [] s && recOk (RowW.records _) s) (XP:=XL Mine.L13.q []) (Yf:=Mine.L13.seenAt) (Ya:=fun _=>true) (YP:=fun _ h=>Mine.Says Mine.L13.G Mine.L13.T (Mine.kOwn Mine.L13.attN Mine.L13.cls) h) (N:=12000) ?hl (fun _ s e=>Mine.says_of e) (fun _ h h' x k=>x.keeps k) (fun s e=>xl_of s (yt.mp e).1) XL.keeps (by rfl) (by rfl) (by rfl) (fun s e=>recFacts_of (yt.mp e).2) (by rfl) (by first | assumption | decide +kernel) (by decide +kernel) ⟨rfl,rfl,rfl,rfl,rfl,by decide +kernel⟩ ?hw ?hc
 case hl=>exact Mine.L13.left
 case hw=>w_witness2
 case hc =>
  intro w s₀ s₁ mg mb G Y fa o pm cd doc dV kV ho hd hcd hD hmg hg args vals as hpre hlay hrd hwl hlo
  obtain ⟨K,fns,cas,cos,SA⟩:=Y
  refine Ground.open G ?_
  intro T B D TE TW
  have TR:=topRead_of T
  clear hcd hD hd ho
  wrow_args hpre hlay hrd hwl hlo
  rename_i ns _ _ _ _ _ _ _ scr vs _ L _ _ _ hI _ hlen _
  obtain ⟨σ,hrun⟩:=hpure ns (by (first | lia | omega))
  refine wpAny_mono (Mine.run_uni (lx:="law") SA TR hg L hI (by (first | lia | omega)) rfl (by kernel_rfl) hmg (by decide) (fun X hK _ hfa hco nm=>Mine.own_of nm SA hK hfa hco rfl (by decide)) hrun) (fun v s' h=>?_) fun _ _ h=>h.elim
  obtain ⟨rfl,hk,ho,hg'⟩:=h
  exact GoodW.toG ⟨.inl ⟨_,.bool true,[],rfl,fun _=>rfl,ReadsW.bool _,by first | kernel_rfl | decide +kernel | (simp [PySem.Challenge.rw_uf030017_13];done),fun _=>⟨vp,fun _ h=>nomatch h⟩⟩,hk,ho,hg'⟩
theorem PySem.Challenge.cw_uf030017_13_holds : PySem.Challenge.rw_uf030017_13.Holds := by
  exact Mine.L13.holds fun ns h => Mine.L13.pure ns h
