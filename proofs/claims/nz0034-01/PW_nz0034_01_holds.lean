import PyProof.Rows.All
import Wide.All
import OpenK.AllK
import Wide.FinOn
import PySem.Challenge.RW_nz0034_01
open Nat renaming le_of_ble_eq_true->a5,le_trans->a6,add_le_add_right->ai,le_add_right->an,add_le_add_left->ay,eq_of_beq_eq_true->az,add_right_comm->aH,le_refl->aI,le_of_eq->aJ,lt_of_le_of_lt->aL,beq->aT,mul_le_mul_left->aU,not_lt->aW,ne_of_lt->aY,zero_le->aZ,le_of_lt->bf,add_assoc->bh,succ_le_succ->bj,lt_succ_self->br,succ->bz,zero_add->bB,le_antisymm->bC,le_of_lt_succ->bE,not_succ_le_self->bF,ne_of_beq_eq_false->bG,lt_of_lt_of_le->bH,add_le_add->bL,le_succ_of_le->bP,lt_irrefl->bQ,not_lt_zero->bR,lt_succ_of_lt->bT,le_of_succ_le->bU,le_add_left->bV,le_succ->cb,succ_pos->ck,ble->cA,add_comm->cB,lt_or_eq_of_le->cG,ne_of_gt->cL,lt_of_succ_lt_succ->cM,lt_add_right->cQ,not_succ_le_zero->cS,sub_self->cZ,mul_succ->d0,lt_of_lt_of_eq->d9,lt_of_le_of_ne->da,min_le_right->dr,sub_eq_zero_iff_le->dx,le_of_succ_le_succ->dy,blt->dz,lt_succ_of_le->dP,succ_lt_succ->dX,sub_lt->e8,lt_one_iff->e9,sub_lt_left_of_lt_add->eD,succ_pred_eq_of_pos->eI,lt_add_of_pos_right->eJ,add_sub_cancel_left->eK,lt_trans->eP,testBit->f7,sub_succ_lt_self->f8,pow_le_pow_right->f9,one_pos->fg,mul_le_mul_right->fh,mod_lt->fH,lt_min->fJ,sub_pos_of_lt->fO,lt_of_succ_le->fQ,succ_ne_self->fX,min_eq_left->gr
open List renaming length_map->a7,getElem?_eq_getElem->a8,getD_eq_getElem?_getD->a9,length_append->aa,getElem?_eq_some_iff->ac,getElem?_map->ae,mem_singleton->af,map_append->ah,mem_cons->aj,length_filter_le->ak,length_cons->am,range->ao,mem_filter->aq,mem_map->au,map_map->av,size_toArray->aw,contains_iff_mem->ax,all_eq_true->aA,mem_range->aC,map_cons->aD,nodup_cons->aE,mem_of_getElem?->aF,mem_append_left->aK,append_nil->aM,not_mem_nil->aN,mem_append->aO,getElem_mem->aP,replicate->aQ,lookup_cons->aR,getElem?_append_left->aS,countP_eq_length_filter->aV,length_range->be,append_assoc->bg,mem_append_right->bm,length_singleton->bn,length_nil->bo,getElem?_append_right->bt,getElem?_append->bu,idxOf_lt_length_iff->bx,getElem?_eq_none->bA,getElem?_range->bI,getElem?_set->bK,all_cons->bM,nodup_append->bN,length_eq_countP_add_countP->bS,getElem_idxOf->bW,mem_map_of_mem->c7,map_congr_left->c8,pairwise_iff_getElem->c9,map_nil->ca,getElem_of_mem->cf,mem_flatMap->cg,getElem_map->ci,pairwise_cons->cj,foldl_cons->cq,getElem?_toArray->cv,length->cy,ext_getElem->cz,zip_cons_cons->cD,length_eq_zero_iff->cH,filter_eq_nil_iff->cI,filter_congr->cJ,countP_congr->cK,length_replicate->cP,getLast?_concat->cR,length_set->cW,length_pos_iff->cX,cons->d5,contains_cons->d6,reverse_cons->df,length_erase_of_mem->dg,Pairwise->dh,filter_cons_of_pos->dk,filter_cons_of_neg->dp,cons_ne_nil->dq,map_set->dt,length_pos_of_mem->du,getElem?_set_self->dv,find?_cons_of_neg->dw,all_append->dA,dropLast_eq_take->dD,mem_erase_of_ne->dE,dropLast_concat->dF,map_replicate->dI,lookup_append->dJ,getElem_range->dK,Nodup->dL,getElem?_inj->dN,nodup_range->dT,isEmpty_iff->dU,drop_length->dW,range'->dY,forIn_cons->dZ,mem_take_iff_getElem->ee,drop_eq_getElem_cons->eA,sum_cons->eE,any_cons->eG,pairwise_singleton->eH,length_eq_one_iff->eM,find?_cons_of_pos->eO,range_eq_range'->eX,length_take_le'->eY,replicate_succ->fj,map_eq_nil_iff->fk,filter_sublist->fm,filter_eq_self->fq,mem_filterMap->fB,map_inj_right->fE,count->fF,flatMap_cons->fK,length_take->fR,countP_cons->fS,range_succ->fY,of_mem_zip->fZ,countP_map->gc,map->gu,forIn_nil->gw,foldl_nil->gy
open Option renaming some->ab,isSome_iff_exists->bw,getD_some->cN,map_eq_some_iff->dj,map_some->dS,map->eW
open Bool renaming and_eq_true->aB,not_eq_true'->bO,false_eq_true->bX,and_true->cu,false_ne_true->cE,false_and->d7,and_false->d8,eq_iff_iff->dC,true_and->dH,eq_false_iff->dO,or_eq_true->e7
open Int renaming le_trans->aG,natCast_nonneg->aX,ofNat->bp,ofNat_lt->bq,ofNat_le->bv,not_lt->bD,toNat_of_nonneg->bJ,lt_of_le_of_lt->bY,sub_nonneg_of_le->bZ,toNat_natCast->c4,eq_ofNat_of_zero_le->c6,le_of_lt->cn,le_antisymm->cr,toNat_lt->cC,add_le_add_right->cU,sub_le_self->cY,sub_add_cancel->db,not_le->dc,max_le->dd,add_comm->dB,le_sub_one_of_lt->dG,add_sub_cancel->dM,sub_zero->dQ,ne_of_lt->dR,le_min->eB,le_add_of_nonneg_right->eC,zero_add->eQ,toNat_le->eS,lt_toNat->eT,lt_asymm->eU,le_of_eq->eV,sub_nonpos_of_le->ft,sub_le_sub_right->fu,neg_neg->fy,neg_le_of_neg_le->fz,mul_one->fA,toNat_of_nonpos->fG,sub_eq_add_neg->fL,neg_pos_of_neg->fM,lt_of_lt_of_le->fN,lt_trichotomy->fU,min_eq_right->gh,max_eq_right->gm,le_max_right->gq,min_le_left->gz,min_eq_left->gA,le_max_left->gB
open Array renaming getElem?_toList->cO,getElem?_eq_getElem->de,length_toList->eZ,size_push->fW
open PySem PySem.W PySem.Calls PyProof.Rows PyProof.V PySem.Spec
set_option maxRecDepth 8000
set_option maxHeartbeats 1000000
set_option linter.all false
set_option tactic.hygienic false
set_option genInjectivity false
set_option genSizeOf false
set_option backward.match.sparseCases false
set_option compiler.extract_closed false
set_option bootstrap.genMatcherCode false
namespace Mine.Internal
noncomputable def nmTab:List Str:=[.ofString "a",.ofString "able",.ofString "above",.ofString "answer",.ofString "apart",.ofString "append",.ofString "are_old",.ofString "ascending",.ofString "at",.ofString "b",.ofString "bar_all",.ofString "bar_values",.ofString "barred",.ofString "before",.ofString "begun",.ofString "below",.ofString "bound_above",.ofString "bound_below",.ofString "came",.ofString "cell",.ofString "check",.ofString "choices",.ofString "clash",.ofString "closed_from",.ofString "confined",.ofString "count",.ofString "counts",.ofString "d",.ofString "decide",.ofString "dom",.ofString "domain",.ofString "domains",.ofString "e",.ofString "ends",.ofString "enter",.ofString "entry",.ofString "every",.ofString "extend",.ofString "fail",.ofString "feed",.ofString "few",.ofString "fill",.ofString "first",.ofString "firsts",.ofString "fixed",.ofString "fixed_ones",.ofString "found",.ofString "fresh",.ofString "full",.ofString "goal",.ofString "hand_on",.ofString "has",.ofString "has_domains",.ofString "has_room",.ofString "has_twins",.ofString "held",.ofString "here",.ofString "high",.ofString "highs",.ofString "i",.ofString "index",.ofString "initial",.ofString "inside",.ofString "is_failed",.ofString "is_fixed",.ofString "j",.ofString "k",.ofString "kept",.ofString "kind",.ofString "known",.ofString "lacking",.ofString "lap",.ofString "last",.ofString "late",.ofString "left",.ofString "lists",.ofString "literal",.ofString "look_at",.ofString "low",.ofString "lows",.ofString "made",.ofString "many",.ofString "mark",.ofString "marks",.ofString "matching",.ofString "mate",.ofString "member",.ofString "members_at",.ofString "most",.ofString "move_along",.ofString "mover",.ofString "n",.ofString "name",.ofString "needs",.ofString "new_var",.ofString "news",.ofString "number",.ofString "numbers",.ofString "old",.ofString "one",.ofString "opened",.ofString "option",.ofString "options",.ofString "options_of",.ofString "owner",.ofString "p",.ofString "place",.ofString "places",.ofString "placing",.ofString "point",.ofString "pop",.ofString "propagate",.ofString "push",.ofString "reached",.ofString "reasons",.ofString "room",.ofString "row",.ofString "rows",.ofString "scope",.ofString "script",.ofString "seat",.ofString "seen",.ofString "self",.ofString "short",.ofString "sign",.ofString "size_domains",.ofString "some",.ofString "speaker",.ofString "spot",.ofString "stack",.ofString "stands",.ofString "store",.ofString "strength",.ofString "strike",.ofString "strike_once",.ofString "strike_option",.ofString "taken",.ofString "told",.ofString "trail",.ofString "turn",.ofString "u",.ofString "v",.ofString "value",.ofString "values",.ofString "w",.ofString "walls",.ofString "want",.ofString "wanted",.ofString "width",.ofString "word",.ofString "worth",.ofString "x",.ofString "y"]
noncomputable def nm(i:Nat):Str:=(nmTab[i]?).getD ⟨#[0,i]⟩
theorem nmTab_nodup:nmTab.Nodup:=by decide+kernel
theorem nmTab_head:(nmTab.all λ(x:Str)=>x.cps.toList.head? !=some 0)=true:=by decide+kernel
theorem nm_inj(i j:Nat)(h:nm i=nm j):i=j:=by
 unfold nm at h;have key:∀k:Nat,(nmTab[k]?=none∨∃x:Str,nmTab[k]?=some x/\x.cps.toList.head?≠some 0):=λk=>by
  cases q:nmTab[k]? with
  |none=>exact .inl rfl
  |some x=>exact .inr ⟨x,rfl,by have:=aA.mp nmTab_head x (aF q);simpa using this⟩
 rcases key i with hi|⟨x,hi,nx⟩<;>rcases key j with hj|⟨y,hj,ny⟩<;>rw[hi,hj]at h<;>simp only[Option.getD_none,cN]at h
 ·cases h;rfl
 ·rw[←h]at ny;exact absurd rfl ny
 ·rw[h]at nx;exact absurd rfl nx
 ·subst h;obtain⟨hi',e1⟩:=ac.mp hi;obtain⟨hj',e2⟩:=ac.mp hj;have a:=nmTab_nodup.idxOf_getElem i hi';have b:=nmTab_nodup.idxOf_getElem j hj';rw[e1]at a;rw[e2]at b;exact a.symm.trans b
theorem nm_dbg(i:Nat):(nm i==("__debug__":Str))=false:=by
 cases q:nmTab[i]? with
 |none=>unfold nm;rw[q];exact beq_eq_false_iff_ne.mpr λh=>by have:=congrArg (λx:Str=>x.cps.toList.head?) h;revert this;simp;decide+kernel
 |some x=>
  unfold nm;rw[q];have:=aA.mp (show(nmTab.all λx=>x !=("__debug__":Str))=true by decide+kernel) x (aF q);simpa using this
theorem n_append:nm 5=Str.ofString "append":=rfl
theorem n_count:nm 25=Str.ofString "count":=rfl
theorem n_found:nm 46=Str.ofString "found":=rfl
theorem n_has_twins:nm 54=Str.ofString "has_twins":=rfl
theorem n_high:nm 57=Str.ofString "high":=rfl
theorem n_highs:nm 58=Str.ofString "highs":=rfl
theorem n_index:nm 60=Str.ofString "index":=rfl
theorem n_k:nm 66=Str.ofString "k":=rfl
theorem n_low:nm 78=Str.ofString "low":=rfl
theorem n_lows:nm 79=Str.ofString "lows":=rfl
theorem n_n:nm 91=Str.ofString "n":=rfl
theorem n_numbers:nm 97=Str.ofString "numbers":=rfl
theorem n_point:nm 109=Str.ofString "point":=rfl
theorem n_row:nm 116=Str.ofString "row":=rfl
theorem n_rows:nm 117=Str.ofString "rows":=rfl
theorem n_self:nm 122=Str.ofString "self":=rfl
theorem n_some:nm 126=Str.ofString "some":=rfl
theorem n_taken:nm 136=Str.ofString "taken":=rfl
theorem n_told:nm 137=Str.ofString "told":=rfl
theorem n_v:nm 141=Str.ofString "v":=rfl
theorem n_value:nm 142=Str.ofString "value":=rfl
theorem n_want:nm 146=Str.ofString "want":=rfl
theorem n_wanted:nm 147=Str.ofString "wanted":=rfl
theorem n_worth:nm 150=Str.ofString "worth":=rfl
theorem n_x:nm 151=Str.ofString "x":=rfl
theorem ff{P:Prop}(h:false=true):P:=nomatch h
theorem nos{α:Type}{x:α}{P:Prop}(h:none=some x):P:=nomatch h
theorem oa{p q:Prop}{r:Prop}(e:p/\q)(k:p->q->r):r:=by obtain⟨h0,h1⟩:=e;exact k h0 h1
theorem oe{α:Sort _}{p:α->Prop}{r:Prop}(e:∃x,p x)(k:∀x,p x->r):r:=by obtain⟨x,h0⟩:=e;exact k x h0
theorem oaa{p q s:Prop}{r:Prop}(e:p/\q/\s)(k:p->q->s->r):r:=by obtain⟨h0,h1,h2⟩:=e;exact k h0 h1 h2
theorem oea{α:Sort _}{p q:α->Prop}{r:Prop}(e:∃x,p x/\q x)(k:∀x,p x->q x->r):r:=by obtain⟨x,h0,h1⟩:=e;exact k x h0 h1
theorem oee{α β:Sort _}{p:α->β->Prop}{r:Prop}(e:∃x,∃y,p x y)(k:∀x y,p x y->r):r:=by obtain⟨x,y,h0⟩:=e;exact k x y h0
theorem oaaa{p q s t:Prop}{r:Prop}(e:p/\q/\s/\t)(k:p->q->s->t->r):r:=by obtain⟨h0,h1,h2,h3⟩:=e;exact k h0 h1 h2 h3
theorem oeaa{α:Sort _}{p q s:α->Prop}{r:Prop}(e:∃x,p x/\q x/\s x)(k:∀x,p x->q x->s x->r):r:=by obtain⟨x,h0,h1,h2⟩:=e;exact k x h0 h1 h2
theorem oeea{α β:Sort _}{p q:α->β->Prop}{r:Prop}(e:∃x,∃y,p x y/\q x y)(k:∀x y,p x y->q x y->r):r:=by obtain⟨x,y,h0,h1⟩:=e;exact k x y h0 h1
theorem oeee{α β γ:Sort _}{p:α->β->γ->Prop}{r:Prop}(e:∃x,∃y,∃z,p x y z)(k:∀x y z,p x y z->r):r:=by obtain⟨x,y,z,h0⟩:=e;exact k x y z h0
theorem oaaaa{p q s t u:Prop}{r:Prop}(e:p/\q/\s/\t/\u)(k:p->q->s->t->u->r):r:=by obtain⟨h0,h1,h2,h3,h4⟩:=e;exact k h0 h1 h2 h3 h4
theorem oeaaa{α:Sort _}{p q s t:α->Prop}{r:Prop}(e:∃x,p x/\q x/\s x/\t x)(k:∀x,p x->q x->s x->t x->r):r:=by obtain⟨x,h0,h1,h2,h3⟩:=e;exact k x h0 h1 h2 h3
theorem oeeaa{α β:Sort _}{p q s:α->β->Prop}{r:Prop}(e:∃x,∃y,p x y/\q x y/\s x y)(k:∀x y,p x y->q x y->s x y->r):r:=by obtain⟨x,y,h0,h1,h2⟩:=e;exact k x y h0 h1 h2
theorem oeeea{α β γ:Sort _}{p q:α->β->γ->Prop}{r:Prop}(e:∃x,∃y,∃z,p x y z/\q x y z)(k:∀x y z,p x y z->q x y z->r):r:=by obtain⟨x,y,z,h0,h1⟩:=e;exact k x y z h0 h1
theorem oeeee{α β γ δ:Sort _}{p:α->β->γ->δ->Prop}{r:Prop}(e:∃x,∃y,∃z,∃w,p x y z w)(k:∀x y z w,p x y z w->r):r:=by obtain⟨x,y,z,w,h0⟩:=e;exact k x y z w h0
theorem oaaaaa{p q s t u v:Prop}{r:Prop}(e:p/\q/\s/\t/\u/\v)(k:p->q->s->t->u->v->r):r:=by obtain⟨h0,h1,h2,h3,h4,h5⟩:=e;exact k h0 h1 h2 h3 h4 h5
theorem oeaaaa{α:Sort _}{p q s t u:α->Prop}{r:Prop}(e:∃x,p x/\q x/\s x/\t x/\u x)(k:∀x,p x->q x->s x->t x->u x->r):r:=by obtain⟨x,h0,h1,h2,h3,h4⟩:=e;exact k x h0 h1 h2 h3 h4
theorem oeeaaa{α β:Sort _}{p q s t:α->β->Prop}{r:Prop}(e:∃x,∃y,p x y/\q x y/\s x y/\t x y)(k:∀x y,p x y->q x y->s x y->t x y->r):r:=by obtain⟨x,y,h0,h1,h2,h3⟩:=e;exact k x y h0 h1 h2 h3
theorem oeeeaa{α β γ:Sort _}{p q s:α->β->γ->Prop}{r:Prop}(e:∃x,∃y,∃z,p x y z/\q x y z/\s x y z)(k:∀x y z,p x y z->q x y z->s x y z->r):r:=by obtain⟨x,y,z,h0,h1,h2⟩:=e;exact k x y z h0 h1 h2
theorem oeeeea{α β γ δ:Sort _}{p q:α->β->γ->δ->Prop}{r:Prop}(e:∃x,∃y,∃z,∃w,p x y z w/\q x y z w)(k:∀x y z w,p x y z w->q x y z w->r):r:=by obtain⟨x,y,z,w,h0,h1⟩:=e;exact k x y z w h0 h1
theorem iaa{p q r:Prop}(h1:p)(h2:q)(h3:r):p/\q/\r:=⟨h1,h2,h3⟩
theorem iea{α:Sort _}{p q:α->Prop}(x:α)(h1:p x)(h2:q x):∃x,p x/\q x:=⟨x,h1,h2⟩
theorem iee{α β:Sort _}{p:α->β->Prop}(x:α)(y:β)(h1:p x y):∃x,∃y,p x y:=⟨x,y,h1⟩
theorem iaaa{p q r s:Prop}(h1:p)(h2:q)(h3:r)(h4:s):p/\q/\r/\s:=⟨h1,h2,h3,h4⟩
theorem ieaa{α:Sort _}{p q r:α->Prop}(x:α)(h1:p x)(h2:q x)(h3:r x):∃x,p x/\q x/\r x:=⟨x,h1,h2,h3⟩
theorem ieea{α β:Sort _}{p q:α->β->Prop}(x:α)(y:β)(h1:p x y)(h2:q x y):∃x,∃y,p x y/\q x y:=⟨x,y,h1,h2⟩
theorem ieee{α β γ:Sort _}{p:α->β->γ->Prop}(x:α)(y:β)(z:γ)(h1:p x y z):∃x,∃y,∃z,p x y z:=⟨x,y,z,h1⟩
theorem iaaaa{p q r s t:Prop}(h1:p)(h2:q)(h3:r)(h4:s)(h5:t):p/\q/\r/\s/\t:=⟨h1,h2,h3,h4,h5⟩
theorem ieaaa{α:Sort _}{p q r s:α->Prop}(x:α)(h1:p x)(h2:q x)(h3:r x)(h4:s x):∃x,p x/\q x/\r x/\s x:=⟨x,h1,h2,h3,h4⟩
theorem ieeaa{α β:Sort _}{p q r:α->β->Prop}(x:α)(y:β)(h1:p x y)(h2:q x y)(h3:r x y):∃x,∃y,p x y/\q x y/\r x y:=⟨x,y,h1,h2,h3⟩
theorem ieeea{α β γ:Sort _}{p q:α->β->γ->Prop}(x:α)(y:β)(z:γ)(h1:p x y z)(h2:q x y z):∃x,∃y,∃z,p x y z/\q x y z:=⟨x,y,z,h1,h2⟩
theorem ieaaaa{α:Sort _}{p q r s t:α->Prop}(x:α)(h1:p x)(h2:q x)(h3:r x)(h4:s x)(h5:t x):∃x,p x/\q x/\r x/\s x/\t x:=⟨x,h1,h2,h3,h4,h5⟩
theorem iaaaaa{p q r s t u:Prop}(h1:p)(h2:q)(h3:r)(h4:s)(h5:t)(h6:u):p/\q/\r/\s/\t/\u:=⟨h1,h2,h3,h4,h5,h6⟩
theorem ieeaaa{α β:Sort _}{p q r s:α->β->Prop}(x:α)(y:β)(h1:p x y)(h2:q x y)(h3:r x y)(h4:s x y):∃x,∃y,p x y/\q x y/\r x y/\s x y:=⟨x,y,h1,h2,h3,h4⟩
theorem ieeeaa{α β γ:Sort _}{p q r:α->β->γ->Prop}(x:α)(y:β)(z:γ)(h1:p x y z)(h2:q x y z)(h3:r x y z):∃x,∃y,∃z,p x y z/\q x y z/\r x y z:=⟨x,y,z,h1,h2,h3⟩
theorem byC{p q:Prop}(h1:p->q)(h2:¬p->q):q:=(Classical.em p).elim h1 h2
theorem nabA{a b:Int}{n m:Nat}(h1:a.natAbs<=n)(h2:b.natAbs<=m):(a+b).natAbs<=n+m:=a6 (Int.natAbs_add_le a b) (bL h1 h2)
theorem nabL{x:Int}{n:Nat}(h:x.natAbs<=n):x<=n:=aG Int.le_natAbs (bv.mpr h)
theorem nabR{x:Int}{n:Nat}(h:x.natAbs<=n):-(n:Int)<=x:=fz (nabL (Int.natAbs_neg x▸h))
theorem nabI{x:Int}{n:Nat}(h1:-(n:Int)<=x)(h2:x<=n):x.natAbs<=n:=by
 cases x with
 |ofNat a=>exact bv.mp h2
 |negSucc a=>
  have:=Int.neg_le_neg h1;simp only[fy]at this;exact bv.mp this
theorem nab63{x:Int}{n:Nat}(h:x.natAbs<=n)(e:cA n 4096000000=true:=by rfl):-(2^63)<=x/\x<2^63:=
 have h:=a6 h (a5 e)
 ⟨aG (by decide) (nabR h),bY (nabL h) (by decide)⟩
theorem rmS{a b c d k:Nat}(h:a+c*(k+1)<d)(hb:b<=c):a+b+c*k<d:=aL (a6 (aJ (aH a b _)) (ay hb (a+c*k))) (aL (aJ (bh a (c*k) c)) h)
theorem rmL{a c d k k':Nat}(h:a+c*k'<d)(hk:k<=k'):a+c*k<d:=aL (ay (aU _ hk) _) h
theorem ngI{i:Int}{n:Nat}(h2:(-i).toNat<=n):-(n:Int)<=i:=fz (eS.mp h2)
theorem sqN{i:Int}{n:Nat}(h:i<0)(h2:(-i).toNat<=n):0<=i+(n:Int)/\i+(n:Int)<n:=⟨Int.sub_neg i n▸bZ (ngI h2),by have:=Int.add_lt_add_right h (n:Int);rwa[eQ]at this⟩
theorem shNe{b n:Nat}:(if b<n then b else b+1)≠n:=by
 split
 ·exact aY ‹_›
 ·exact cL (dP (aW.mp ‹_›))
theorem shInj{a b n:Nat}(h:(if a<n then a else a+1)=if b<n then b else b+1):a=b:=by
 by_cases p:a<n<;>by_cases q:b<n<;>simp only[p,q,if_true,if_false]at h
 ·exact h
 ·exact absurd p (aW.mpr (h▸bP (aW.mp q)))
 ·exact absurd q (aW.mpr (h▸bP (aW.mp p)))
 ·exact bz.inj h
theorem leT{a n m:Nat}(h:a<=n)(e:cA n m=true):a<=m:=a6 h (a5 e)
theorem leC{a b n m:Nat}(h:a<=b)(h2:b<=n)(e:cA n m=true):a<=m:=a6 h (leT h2 e)
theorem leS{a n m:Nat}(h:a<=n)(e:cA (n+1) m=true):a+1<=m:=a6 (bj h) (a5 e)
theorem leA{a b n k m:Nat}(h:a<=n)(h2:b<=k)(e:cA (n+k) m=true):a+b<=m:=a6 (bL h h2) (a5 e)
theorem leB{a b c k n m:Nat}(h:a+k*(c+1)<=n)(h2:b<=k)(e:cA n m=true):a+b<=m:=leT (a6 (ay (a6 h2 (bV k (k*c))) a) h) e
theorem leB2{a b c k n:Nat}(h:a+k*(c+1)<=n)(h2:b<=k):a+b+k*c<=n:=a6 (aJ (aH a b _)) (a6 (ay h2 (a+k*c)) (a6 (aJ (bh a (k*c) k)) h))
theorem leB0{a c k n:Nat}(h:a+k*(c+1)<=n):a+k*c<=n:=a6 (ay (an (k*c) k) a) h
theorem leE{a n:Nat}(h:a=n):a<=n:=aJ h
theorem nabS{a b:Int}{n m:Nat}(h1:a.natAbs<=n)(h2:b.natAbs<=m):(a-b).natAbs<=n+m:=nabA h1 (a6 (aJ (Int.natAbs_neg b)) h2)
theorem nab1:(1:Int).natAbs<=1:=aI 1
theorem nabn(n:Nat):(n:Int).natAbs<=n:=aI n
theorem len63{n:Nat}(h:n<=1000000):(n:Int)<2^63:=bY (bv.mpr h) (by decide)
theorem min_if(i j:Int):(if j<i then j else i)=min i j:=by
 simp only[Int.min_def];by_cases h:j<i
 ·rw[if_pos h,if_neg (dc.mpr h)]
 ·rw[if_neg h,if_pos (bD.mp h)]
theorem max_if(i j:Int):(if j>i then j else i)=max i j:=by
 simp only[Int.max_def];by_cases h:i<=j
 ·rw[if_pos h];by_cases z:j>i
  ·exact if_pos z
  ·exact(if_neg z).trans (cr h (bD.mp z))
 ·rw[if_neg h];exact if_neg λz=>h (cn z)
set_option genInjectivity true in
inductive V where
 |none|bool (b:Bool)|int (i:Int)|str (s:Str)
 |tup (vs:List V)|lst (vs:List V)|rng (lo hi:Int)|cst (v:Value)|arg (vs:List V)
def onI(x:V)(q:Int->Prop):Prop:=match x with
 |.int n=>q n
 |_=>False
theorem onI_out{x:V}{q:Int->Prop}(h:onI x q):∃n,x=.int n/\q n:=by
 cases x with
 |int n=>exact iea n rfl h
 |_=>exact h.elim
noncomputable abbrev GM:=Addr->Option Obj
noncomputable abbrev sqO(T:String)(xs:List Value)(n:Nat):Obj:={cls:=.type T,data:=.seq xs.toArray n}
inductive SqAt(g:GM)(T:String)(P:List Value->Prop)(x:Value):Prop
 |mk (a:Addr) (xs:List Value) (n:Nat) (e:x=.ref a) (h:g a=some (sqO T xs n)) (r:P xs):SqAt g T P x
inductive ArgAt(g:GM)(P:List Value->Prop)(x:Value):Prop
 |mk (a:Addr) (o:Obj) (xs:List Value) (n:Nat) (e:x=.ref a) (h:g a=some o) (hc:o.cls=.type "list") (hd:o.data=.seq xs.toArray n) (r:P xs):ArgAt g P x
inductive CnAt(P:Value->Prop)(R:List Value->Prop)(xs:List Value):Prop
 |mk (y:Value) (ys:List Value) (e:xs=y::ys) (p:P y) (r:R ys):CnAt P R xs
inductive RgAt(g:GM)(lo hi:Int)(x:Value):Prop
 |mk (a:Addr) (t u v:Tok) (e:x=.ref a) (h:g a=some {cls:=.type "range",data:=.fields #[.int lo t,.int hi u,.int 1 v]}) (z:Builtin.Range.small lo hi 1=true):RgAt g lo hi x
mutual
def Rep(g:GM):V->Value->Prop
 |.none,x=>x=.none
 |.bool b,x=>x=.bool b
 |.int i,x=>∃t,x=.int i t
 |.str s,x=>∃t,x=.str s t
 |.tup vs,x=>SqAt g "tuple" (λxs=>RepL g vs xs) x
 |.lst vs,x=>SqAt g "list" (λxs=>RepL g vs xs) x
 |.rng lo hi,x=>RgAt g lo hi x
 |.cst v,x=>x=v
 |.arg vs,x=>ArgAt g (λxs=>RepL g vs xs) x
def RepL(g:GM):List V->List Value->Prop
 |[],xs=>xs=[]
 |v::vs,xs=>CnAt (λy=>Rep g v y) (λys=>RepL g vs ys) xs
end
def GSub(g g':GM):Prop:=∀a o,g a=some o->g' a=some o
theorem GSub.refl(g:GM):GSub g g:=λ_ _ e=>e
theorem GSub.trans{g₁ g₂ g₃:GM}(x:GSub g₁ g₂)(y:GSub g₂ g₃):GSub g₁ g₃:=λa o e=>y a o (x a o e)
theorem SqAt.mono{g g':GM}(k:GSub g g'){T:String}{P P':List Value->Prop}(hp:∀xs,P xs->P' xs){x:Value}(h:SqAt g T P x):SqAt g' T P' x:=by
 obtain⟨a,xs,n,e,h,r⟩:=h;exact⟨a,xs,n,e,k _ _ h,hp _ r⟩
mutual
theorem Rep.mono{g g':GM}(k:GSub g g'):∀(v:V) {x:Value},Rep g v x->Rep g' v x:=by
 intro v;cases v with
 |tup vs=>exact λh=>SqAt.mono k (λxs=>RepL.mono k vs) h
 |lst vs=>exact λh=>SqAt.mono k (λxs=>RepL.mono k vs) h
 |arg vs=>rintro x ⟨a,o,xs,n,e,h,hc,hd,r⟩;exact⟨a,o,xs,n,e,k _ _ h,hc,hd,RepL.mono k vs r⟩
 |rng lo hi=>rintro x ⟨a,t,u,v,e,h,z⟩;exact⟨a,t,u,v,e,k _ _ h,z⟩
 |_=>exact λh=>h
theorem RepL.mono{g g':GM}(k:GSub g g'):∀(vs:List V) {xs:List Value},RepL g vs xs->RepL g' vs xs:=by
 intro vs;cases vs with
 |nil=>exact λh=>h
 |cons v vs=>rintro xs ⟨y,ys,e,h,hl⟩;exact⟨y,ys,e,Rep.mono k v h,RepL.mono k vs hl⟩
end
section
variable{g:GM}
theorem RepL.length:∀{vs:List V} {xs:List Value},RepL g vs xs->xs.length=vs.length:=by
 intro vs
 induction vs with
 |nil=>intro xs h;subst h;rfl
 |cons v vs ih=>rintro xs ⟨y,ys,rfl,_,hl⟩;simp[ih hl]
theorem RepL.append{ws:List V}{ys:List Value}(h':RepL g ws ys):∀{vs:List V} {xs:List Value},RepL g vs xs->RepL g (vs++ws) (xs++ys):=by
 intro vs
 induction vs with
 |nil=>intro xs h;subst h;exact h'
 |cons v vs ih=>rintro xs ⟨y,zs,rfl,h,hl⟩;exact⟨y,_,rfl,h,ih hl⟩
theorem RepL.get:∀{vs:List V} {xs:List Value} {i:Nat} {v:V},RepL g vs xs->vs[i]?=some v->∃x,xs[i]?=some x/\Rep g v x:=by
 intro vs
 induction vs with
 |nil=>intro xs i v _ e;exact nos e
 |cons v0 vs ih=>
  rintro xs i v ⟨y,ys,rfl,h,hl⟩ e;cases i with
  |zero=>refine(ab.inj e)▸?_;exact iea y rfl h
  |succ i=>exact ih (i:=i) hl e
theorem RepL.get'{vs:List V}{xs:List Value}{i:Nat}{x:Value}(h:RepL g vs xs)(e:xs[i]?=some x):∃v,vs[i]?=some v/\Rep g v x:=by
 have hi:i<vs.length:=by refine(h.length)▸?_;exact(ac.mp e).1
 refine oea (h.get (a8 hi)) λy e2 r=>?_;replace e2:=(e)▸e2;refine(ab.inj e2)▸?_;exact iea _ (a8 hi) r
theorem RepL.take(n:Nat):∀{vs:List V} {xs:List Value},RepL g vs xs->RepL g (vs.take n) (xs.take n):=by
 induction n with
 |zero=>intro vs xs _;exact rfl
 |succ n ih=>
  intro vs;cases vs with
  |nil=>intro xs h;subst h;rfl
  |cons v vs=>rintro xs ⟨y,ys,rfl,h,hl⟩;exact⟨y,_,rfl,h,ih hl⟩
theorem RepL.set{v:V}{x:Value}(hx:Rep g v x)(n:Nat):∀{vs:List V} {xs:List Value},RepL g vs xs->RepL g (vs.set n v) (xs.set n x):=by
 induction n with
 |zero=>
  intro vs;cases vs with
  |nil=>intro xs h;subst h;rfl
  |cons v vs=>rintro xs ⟨y,ys,rfl,h,hl⟩;exact⟨x,_,rfl,hx,hl⟩
 |succ n ih=>
  intro vs;cases vs with
  |nil=>intro xs h;subst h;rfl
  |cons v vs=>rintro xs ⟨y,ys,rfl,h,hl⟩;exact⟨y,_,rfl,h,ih hl⟩
theorem RepL.one{v:V}{x:Value}(h:Rep g v x):RepL g [v] [x]:=⟨x,[],rfl,h,rfl⟩
end
inductive MW where
 |v (x:V)|list (vs:List V)|dict (es:List (Int×V))|obj (C:Nat) (ks:List Nat) (ws:List MW)
noncomputable def MW.own:MW->Bool
 |.v _=>false
 |_=>true
noncomputable def fldN:List Nat->List MW->List Nat
 |k::ks,w::ws=>match w.own with|true=>(k+2)::fldN ks ws|false=>fldN ks ws
 |_,_=>[]
set_option smartUnfolding false in
theorem fldN_c{k:Nat}{ks:List Nat}{w:MW}{ws:List MW}:fldN (k::ks) (w::ws)=match w.own with|true=>(k+2)::fldN ks ws|false=>fldN ks ws:=rfl
noncomputable def MW.cells:MW->List Nat
 |.v _=>[]
 |.obj _ ks ws=>0::1::fldN ks ws
 |_=>[0]
structure Cx where
 prog:Program
 w:World
 Kf:Frag
 mg:Str->Option Value
 mb:Str->Option Value
 loose:List Str
 view:Program
 h₀:Heap
 os:OsState
 hK:Kf.In h₀
 hT:TopRead view loose mg mb h₀
noncomputable abbrev Cx.M(c:Cx):Model:=model c.prog c.w
def ValW(g:GM)(a:Addr)(w:MW)(val:Value):Prop:=match w with
 |.v x=>Rep g x val
 |_=>val=.ref a
inductive LstAt(h:Heap)(g:GM)(a:Addr)(vs:List V):Prop
 |mk (xs:List Value) (n:Nat) (e:h.get? a=some (sqO "list" xs n)) (r:RepL g vs xs):LstAt h g a vs
inductive DicAt(c:Cx)(h:Heap)(g:GM)(a:Addr)(es:List (Int×V)):Prop
 |mk (ne:a≠sysModules) (kvs:List (Int×Value)) (e:h.DictOf (intKind c.prog c.w) a kvs) (hk:kvs.map (·.1)=es.map (·.1)) (r:RepL g (es.map (·.2)) (kvs.map (·.2))):DicAt c h g a es
def LeafAt(c:Cx)(h:Heap)(g:GM)(a:Addr)(w:MW):Prop:=match w with
 |.v _=>True
 |.list vs=>LstAt h g a vs
 |.dict es=>DicAt c h g a es
 |.obj _ _ _=>False
inductive FldAt(c:Cx)(h:Heap)(g:GM)(a:Addr)(k:Nat)(w:MW)(e:DictEntry):Prop
 |mk (t:Tok) (e4:e.key=.str (nm k) t) (e5:e.hash=PyData.keyHash c.w.params (nm k)) (v:ValW g a w e.val) (l:LeafAt c h g a w):FldAt c h g a k w e
def Flds(c:Cx)(h:Heap)(g:GM)(A:Nat->Addr):List Nat->List MW->List DictEntry->Prop
 |[],ws,ds=>ws=[]/\ds=[]
 |k::ks,ws,ds=>match ws with
  |[]=>False
  |w::ws=>match ds with
   |[]=>False
   |e::ds=>FldAt c h g (A (k+2)) k w e/\Flds c h g A ks ws ds
inductive ObjAt(c:Cx)(h:Heap)(g:GM)(A:Nat->Addr)(C:Nat)(ks:List Nat)(ws:List MW):Prop
 |mk (ds:List DictEntry) (n:Nat) (e1:h.get? (A 0)=some (instObj C (A 1))) (e2:h.get? (A 1)=some (dictOf ds n)) (nd:ks.Nodup) (f:Flds c h g A ks ws ds):ObjAt c h g A C ks ws
def NodeAt(c:Cx)(h:Heap)(g:GM)(A:Nat->Addr)(w:MW):Prop:=match w with
 |.obj C ks ws=>ObjAt c h g A C ks ws
 |w=>LeafAt c h g (A 0) w
section
variable{c:Cx}{h h':Heap}{g g':GM}{a:Addr}{A:Nat->Addr}{w:MW}
theorem LeafAt.at(k:GSub g g')(hk:w.own=true->∀o,h.get? a=some o->h'.get? a=some o)(l:LeafAt c h g a w):LeafAt c h' g' a w:=by
 cases w with
 |v x=>trivial
 |list vs=>obtain⟨xs,n,e,r⟩:=l;exact⟨xs,n,hk rfl _ e,r.mono k⟩
 |dict es=>obtain⟨ne,kvs,⟨o,b,ep,e,r'⟩,q,r⟩:=l;exact⟨ne,kvs,ieeea o b ep (hk rfl _ e) r',q,r.mono k⟩
 |obj C ks ws=>exact l
theorem ValW.mono(k:GSub g g'){val:Value}(v:ValW g a w val):ValW g' a w val:=by
 cases w with
 |v x=>exact Rep.mono k x v
 |_=>exact v
theorem LeafAt.lives(l:LeafAt c h g a w)(o:w.own=true):(h.get? a).isSome=true:=by
 cases w with
 |v x=>exact ff o
 |list vs=>obtain⟨xs,n,e,r⟩:=l;rw[e];rfl
 |dict es=>obtain⟨ne,kvs,⟨o,b,ep,e,r'⟩,q,r⟩:=l;rw[e];rfl
 |obj C ks ws=>exact l.elim
theorem FldAt.at{a':Addr}{k:Nat}{e:DictEntry}(s:GSub g g')(hk:w.own=true->a'=a/\∀o,h.get? a=some o->h'.get? a=some o)(f:FldAt c h g a k w e):FldAt c h' g' a' k w e:=by
 obtain⟨t,e4,e5,v,l⟩:=f;cases o:w.own with
 |true=>obtain⟨rfl,hk⟩:=hk o;exact⟨t,e4,e5,v.mono s,l.at s λ_=>hk⟩
 |false=>clear hk;cases w with
  |v x=>exact⟨t,e4,e5,Rep.mono s x v,trivial⟩
  |_=>injection o
theorem mo_{b:Bool}{x n:Nat}{L:List Nat}(h:n∈L):n∈(match b with|true=>x::L|false=>L):=by
 cases b with
 |true=>exact .tail _ h
 |false=>exact h
theorem Flds.at{A':Nat->Addr}(k:GSub g g'):∀{ks:List Nat} {ws:List MW} {ds:List DictEntry},(∀n∈fldN ks ws,A' n=A n/\∀o,h.get? (A n)=some o->h'.get? (A n)=some o)->Flds c h g A ks ws ds->Flds c h' g' A' ks ws ds:=by
 intro ks
 induction ks with
 |nil=>exact λ_ f=>f
 |cons j ks ih=>
  intro ws ds hk f;cases ws with
  |nil=>exact f
  |cons w ws=>
   cases ds with
   |nil=>exact f
   |cons e ds=>
    simp only[fldN_c]at hk;refine⟨f.1.at k λo=>?_,ih (λn hn=>hk n ?_) f.2⟩
    ·replace hk:=(o)▸hk;exact hk _ (.head _)
    ·exact mo_ hn
theorem Flds.lives:∀{ks:List Nat} {ws:List MW} {ds:List DictEntry},Flds c h g A ks ws ds->∀n∈fldN ks ws,(h.get? (A n)).isSome=true:=by
 intro ks
 induction ks with
 |nil=>intro ws ds f n hn;cases(show _∈([]:List Nat)from hn)
 |cons j ks ih=>
  intro ws ds f n hn;cases ws with
  |nil=>exact f.elim
  |cons w ws=>
   cases ds with
   |nil=>exact f.elim
   |cons e ds=>
    obtain⟨⟨t,e4,e5,v,l⟩,f⟩:=f;simp only[fldN_c]at hn;cases z:w.own with
    |true=>
     rw[z]at hn;rcases aj.mp hn with rfl|hn
     ·exact l.lives z
     ·exact ih f n hn
    |false=>rw[z]at hn;exact ih f n hn
theorem NodeAt.at{A':Nat->Addr}(k:GSub g g')(hk:∀n∈w.cells,A' n=A n/\∀o,h.get? (A n)=some o->h'.get? (A n)=some o)(l:NodeAt c h g A w):NodeAt c h' g' A' w:=by
 have lf:∀w:MW,(∀n∈[0],A' n=A n/\∀o,h.get? (A n)=some o->h'.get? (A n)=some o)->LeafAt c h g (A 0) w->LeafAt c h' g' (A' 0) w:=λw hk l=>by
  rw[(hk 0 (.head _)).1];exact l.at k λ_=>(hk 0 (.head _)).2
 cases w with
 |obj C ks ws=>
  obtain⟨ds,n,e1,e2,nd,f⟩:=l;have h0:=hk 0 (.head _);have h1:=hk 1 (.tail _ (.head _));exact⟨ds,n,by rw[h0.1,h1.1];exact h0.2 _ e1,by rw[h1.1];exact h1.2 _ e2,nd,f.at k λn hn=>hk n (.tail _ (.tail _ hn))⟩
 |v x=>exact trivial
 |list vs=>exact lf (.list vs) hk l
 |dict es=>exact lf (.dict es) hk l
theorem NodeAt.lives(l:NodeAt c h g A w):∀n∈w.cells,(h.get? (A n)).isSome=true:=by
 intro n hn;cases w with
 |obj C ks ws=>
  obtain⟨ds,n',e1,e2,nd,f⟩:=l;rcases aj.mp hn with rfl|hn
  ·rw[e1];rfl
  ·rcases aj.mp hn with rfl|hn
   ·rw[e2];rfl
   ·exact f.lives n hn
 |v x=>cases hn
 |list vs=>cases af.mp hn;exact LeafAt.lives (c:=c) (w:=.list vs) l rfl
 |dict es=>cases af.mp hn;exact LeafAt.lives (c:=c) (w:=.dict es) l rfl
end
inductive Lbl where
 |var (i:Nat)|tmp (k:Nat)
 deriving DecidableEq
theorem Lbl.var.inj{a b:Nat}(h:Lbl.var a=.var b):a=b:=Lbl.noConfusion h id
theorem Lbl.tmp.inj{a b:Nat}(h:Lbl.tmp a=.tmp b):a=b:=Lbl.noConfusion h id
noncomputable abbrev OM:=Lbl->Option MW
noncomputable abbrev LM:=Lbl->Nat->Addr
inductive InO(O:OM)(l:Lbl)(n:Nat):Prop
 |mk (w:MW) (e:O l=some w) (h:n∈w.cells):InO O l n
def GExt(K g g':GM):Prop:=GSub g g'/\∀a,g a=none->(K a).isSome=true->g' a=none
theorem GExt.refl(K g:GM):GExt K g g:=⟨.refl g,λ_ e _=>e⟩
theorem GExt.trans{K g₁ g₂ g₃:GM}(x:GExt K g₁ g₂)(y:GExt K g₂ g₃):GExt K g₁ g₃:=⟨x.1.trans y.1,λa e k=>y.2 a (x.2 a e k) k⟩
structure HS(c:Cx)(K g:GM)(O:OM)(L:LM)(F:Addr->Prop)(s:Shared):Prop where
 base:∀b o,c.h₀.get? b=some o->K b=some o
 keepK:∀b o,K b=some o->s.heap.get? b=some o
 keepg:∀b o,g b=some o->s.heap.get? b=some o
 gens:s.gens=#[]
 os:s.os=c.os
 node:∀l w,O l=some w->NodeAt c s.heap g (L l) w
 inj:∀l n l' n',InO O l n->InO O l' n'->L l n=L l' n'->l=l'/\n=n'
 own:∀l n,InO O l n->K (L l n)=none/\g (L l n)=none
 frm:∀a,F a->K a=none/\g a=none/\(s.heap.get? a).isSome=true/\∀l n,InO O l n->L l n≠a
theorem none_of{f:Addr->Option Obj}{h:Heap}{a:Addr}(k:∀b o,f b=some o->h.get? b=some o)(e:h.get? a=none):f a=none:=by
 cases q:f a with
 |none=>rfl
 |some o=>replace e:=(k a o q)▸e;injection e
theorem lives_keep{h h':Heap}{a:Addr}(k:∀o,h.get? a=some o->h'.get? a=some o)(e:(h.get? a).isSome=true):(h'.get? a).isSome=true:=by
 obtain⟨o,q⟩:=bw.mp e;rw[k _ q];rfl
inductive Src(O:OM)(L:LM)(h:Heap)(a:Addr):Prop
 |old (l:Lbl) (n:Nat) (i:InO O l n) (e:a=L l n):Src O L h a
 |new (e:h.get? a=none):Src O L h a
section
variable{c:Cx}{K g g':GM}{O O':OM}{L L':LM}{F:Addr->Prop}{s s':Shared}
theorem HS.lives(h:HS c K g O L F s){l:Lbl}{n:Nat}(i:InO O l n):(s.heap.get? (L l n)).isSome=true:=by
 obtain⟨w,e,hn⟩:=i;exact(h.node l w e).lives n hn
theorem HS.step(h:HS c K g O L F s)(T:Addr->Prop)(kp:∀b o,¬T b->s.heap.get? b=some o->s'.heap.get? b=some o)(lvF:∀a,F a->(s'.heap.get? a).isSome=true)(hg:s'.gens=s.gens)(ho:s'.os=s.os)
 (hT:∀b,T b->(∃l n,InO O l n/\b=L l n)∨F b) (gn:∀b o,g' b=some o->g b=some o∨(s'.heap.get? b=some o/\¬F b/\∀l n,InO O' l n->L' l n≠b))
 (src:∀l n,InO O' l n->Src O L s.heap (L' l n)) (inj':∀l n l' n',InO O' l n->InO O' l' n'->L' l n=L' l' n'->l=l'/\n=n') (node':∀l w,O' l=some w->NodeAt c s'.heap g' (L' l) w):HS c K g' O' L' F s':=by
 have nT:∀b o,K b=some o∨g b=some o->¬T b:=λb o e z=>by
  have:K b=none/\g b=none:=by
   rcases hT b z with⟨l,n,i,rfl⟩|z
   ·exact h.own l n i
   ·exact⟨(h.frm b z).1,(h.frm b z).2.1⟩
  rcases e with e|e
  ·rw[this.1]at e;exact nos e
  ·replace e:=(this.2)▸e;exact nos e
 refine⟨h.base,λb o e=>kp b o (nT b o (.inl e)) (h.keepK b o e),λb o e=>?_,hg.trans h.gens,ho.trans h.os,node',inj',λl n i=>?_,λa fa=>iaaa ((h.frm a fa).1) ?_ (lvF a fa) (λl n i e=>?_)⟩
 ·rcases gn b o e with e|e
  ·exact kp b o (nT b o (.inr e)) (h.keepg b o e)
  ·exact e.1
 ·have key:K (L' l n)=none/\g (L' l n)=none:=by
   rcases src l n i with⟨l0,n0,i0,e⟩|e
   ·refine(e).symm▸?_;exact h.own l0 n0 i0
   ·exact⟨none_of h.keepK e,none_of h.keepg e⟩
  refine⟨key.1,?_⟩;cases q:g' (L' l n)with
  |none=>rfl
  |some o=>
   rcases gn _ o q with e|e
   ·replace e:=(key.2)▸e;exact nos e
   ·exact absurd rfl (e.2.2 l n i)
 ·cases q:g' a with
  |none=>rfl
  |some o=>
   rcases gn _ o q with e|e
   ·replace e:=((h.frm a fa).2.1)▸e;exact nos e
   ·exact absurd fa e.2.1
 ·rcases src l n i with⟨l0,n0,i0,e0⟩|e0
  ·exact(h.frm a fa).2.2.2 l0 n0 i0 (e0.symm.trans e)
  ·have:=(h.frm a fa).2.2.1;rw[←e,e0]at this;exact ff this
theorem HS.stay(h:HS c K g O L F s){T:Addr->Prop}(kp:∀b o,¬T b->s.heap.get? b=some o->s'.heap.get? b=some o)(gs:GSub g g'){l:Lbl}{w:MW}(e:O l=some w)(un:∀n∈w.cells,¬T (L l n)):NodeAt c s'.heap g' (L l) w:=
 (h.node l w e).at gs λn hn=>⟨rfl,λo q=>kp _ o (un n hn) q⟩
theorem HS.reO(h:HS c K g O L F s)(R:Lbl->Lbl->Prop)(inj:∀x x' y,R x y->R x' y->x=x')(hO:∀x w,O' x=some w->w.own=true->∃y,R x y/\O y=some w/\∀n∈w.cells,L' x n=L y n):HS c K g O' L' F s:=by
 have ow:∀{w:MW} {n:Nat},n∈w.cells->w.own=true:=λ{w n} hn=>by cases w<;>first|rfl|cases hn
 have fr:∀l n,InO O' l n->∃y,R l y/\InO O y n/\L' l n=L y n:=λl n ⟨w,e,hn⟩=>by
  refine oeaa (hO l w e (ow hn)) λy r e2 e3=>?_;exact ieaa y r ⟨w,e2,hn⟩ (e3 n hn)
 refine⟨h.base,h.keepK,h.keepg,h.gens,h.os,λl w e=>?_,λl n l' n' i i' e=>?_,λl n i=>?_,λa fa=>iaaa ((h.frm a fa).1) ((h.frm a fa).2.1) ((h.frm a fa).2.2.1) (λl n i e=>?_)⟩
 ·cases o:w.own with
  |false=>cases w<;>first|trivial|cases o
  |true=>
   refine oeaa (hO l w e o) λy r e2 e3=>?_;exact(h.node y w e2).at (.refl g) λn hn=>⟨e3 n hn,λ_ q=>q⟩
 ·refine oeaa (fr l n i) λy r i1 e1=>?_;refine oeaa (fr l' n' i') λy' r' i2 e2=>?_;simp only[e1,e2]at e;clear e2;clear i';obtain⟨rfl,rfl⟩:=h.inj _ _ _ _ i1 i2 e;exact⟨inj _ _ _ r r',rfl⟩
 ·refine oeaa (fr l n i) λy r i1 e1=>?_;refine(e1).symm▸?_;exact h.own y n i1
 ·refine oeaa (fr l n i) λy r i1 e1=>?_;exact(h.frm a fa).2.2.2 y n i1 (e1.symm.trans e)
theorem HS.re(h:HS c K g O L F s)(R:Lbl->Lbl->Prop)(inj:∀x x' y,R x y->R x' y->x=x')(hO:∀x w,O' x=some w->∃y,R x y/\O y=some w/\∀n∈w.cells,L' x n=L y n):HS c K g O' L' F s:=h.reO R inj λx w e _=>hO x w e
end
noncomputable def GM.add(g:GM)(a:Addr)(o:Obj):GM:=λb=>if b=a then some o else g b
theorem GM.add_same(g:GM)(a:Addr)(o:Obj):g.add a o a=some o:=if_pos rfl
theorem GM.add_ne{g:GM}{a b:Addr}(o:Obj)(h:b≠a):g.add a o b=g b:=if_neg h
noncomputable def OM.put(O:OM)(l:Lbl)(w:MW):OM:=λx=>if x=l then some w else O x
noncomputable def LM.put(L:LM)(l:Lbl)(A:Nat->Addr):LM:=λx=>if x=l then A else L x
theorem LM.put_same(L:LM)(l:Lbl)(A:Nat->Addr):L.put l A l=A:=if_pos rfl
theorem LM.put_ne{L:LM}{l x:Lbl}(A:Nat->Addr)(h:x≠l):L.put l A x=L x:=if_neg h
structure Kp(a:Addr)(s s':Shared):Prop where
 keep:∀b o,b≠a->s.heap.get? b=some o->s'.heap.get? b=some o
 ns:∀m,s.heap.Ns a m->s'.heap.Ns a m
 lv:(s.heap.get? a).isSome=true->(s'.heap.get? a).isSome=true
 gens:s'.gens=s.gens
 os:s'.os=s.os
theorem Kp.of{a:Addr}{s s':Shared}(k:∀b o,s.heap.get? b=some o->s'.heap.get? b=some o)(hg:s'.gens=s.gens)(ho:s'.os=s.os):Kp a s s':=
 ⟨λb o _ e=>k b o e,λm ⟨o,es,ep,h,r⟩=>ieeea o es ep (k _ _ h) r,lives_keep (k a),hg,ho⟩
theorem Kp.toks{a:Addr}{s:Shared}(t:Nat):Kp a s {s with toks:=t}:=.of (λ_ _ e=>e) rfl rfl
section
variable{c:Cx}{K g g':GM}{O O':OM}{L L':LM}{F:Addr->Prop}{s s':Shared}{a loc:Addr}{o:Obj}{l t:Lbl}{w w' w2:MW}
theorem HS.fresh(h:HS c K g O L F s)(ha:s.heap.get? a=none):K a=none/\g a=none/\¬F a/\∀l n,InO O l n->L l n≠a:=
 ⟨none_of h.keepK ha,none_of h.keepg ha,(λz=>by have:=(h.frm a z).2.2.1;rw[ha]at this;exact ff this),λl n i z=>by have:=h.lives i;rw[z,ha]at this;cases this⟩
theorem HS.lvF(h:HS c K g O L F s)(k:Kp loc s s'):∀a,F a->(s'.heap.get? a).isSome=true:=λa fa=>by
 have:=(h.frm a fa).2.2.1;by_cases z:a=loc
 ·subst z;exact k.lv this
 ·exact lives_keep (λo=>k.keep a o z) this
theorem HS.kp(h:HS c K g O L F s)(fa:F loc)(k:Kp loc s s'):HS c K g O L F s':=
 h.step (·=loc) k.keep (h.lvF k) k.gens k.os (λb z=>.inr (z▸fa)) (λb o e=>.inl e) (λl n i=>.old l n i rfl) h.inj λl w e=>h.stay k.keep (.refl g) e λn hn z=>(h.frm loc fa).2.2.2 l n ⟨w,e,hn⟩ z
theorem GM.add_sub(h:g a=none):GSub g (g.add a o):=λb o' e=>by rw[GM.add_ne o (λz=>by subst z;replace e:=(h)▸e;exact nos e)];exact e
theorem GM.add_ext(h:g a=none)(hK:K a=none):GExt K g (g.add a o):=
 ⟨GM.add_sub h,λb e kb=>by clear h;rw[GM.add_ne o (λz=>by subst z;replace kb:=(hK)▸kb;exact ff kb)];exact e⟩
theorem GM.add_cases{b:Addr}{o':Obj}(e:g.add a o b=some o'):g b=some o'∨b=a/\o'=o:=by
 unfold GM.add at e;split at e
 ·refine(ab.inj e)▸?_;exact .inr ⟨‹_›,rfl⟩
 ·exact .inl e
theorem HS.frozen(h:HS c K g O L F s)(fa:F loc)(k:Kp loc s s')(ha:s.heap.get? a=none)(hn:s'.heap.get? a=some o):HS c K (g.add a o) O L F s'/\GExt K g (g.add a o):=by
 refine oaaa (h.fresh ha) λh1 h2 h3 h4=>?_;clear ha;refine⟨h.step (·=loc) k.keep (h.lvF k) k.gens k.os (λb z=>.inr (z▸fa)) (λb o e=>?_) (λl n i=>.old l n i rfl) h.inj λl w e=>h.stay k.keep (GM.add_sub h2) e λn hn z=>(h.frm loc fa).2.2.2 l n ⟨w,e,hn⟩ z,GM.add_ext h2 h1⟩;clear h1;clear h2;rcases GM.add_cases e with e|⟨rfl,rfl⟩
 ·exact .inl e
 ·exact .inr ⟨hn,h3,h4⟩
theorem InO.put{n:Nat}{x:Lbl}(i:InO (O.put l w) x n):x=l/\n∈w.cells∨x≠l/\InO O x n:=by
 obtain⟨w',e,hn⟩:=i;unfold OM.put at e;split at e
 ·refine(ab.inj e)▸?_;exact .inl ⟨‹_›,hn⟩
 ·exact .inr ⟨‹_›,w',e,hn⟩
theorem HS.addT(h:HS c K g O L F s){T:Addr->Prop}(hT:∀b,T b->F b)(kp:∀b o,¬T b->s.heap.get? b=some o->s'.heap.get? b=some o)(lv:∀a,F a->(s'.heap.get? a).isSome=true)(hg:s'.gens=s.gens)(ho:s'.os=s.os)(hl:∀n,¬InO O l n){A:Nat->Addr}(hf:∀n∈w.cells,s.heap.get? (A n)=none)(hd:∀n∈w.cells,∀n'∈w.cells,A n=A n'->n=n')(nd:NodeAt c s'.heap g A w):HS c K g (O.put l w) (L.put l A) F s':=by
 have old:∀{x n},x≠l->L.put l A x n=L x n:=λz=>congrFun (LM.put_ne A z) _;have new:∀{n},L.put l A l n=A n:=congrFun (LM.put_same L l A) _;clear hl;refine h.step T kp lv hg ho (λb z=>.inr (hT b z)) (λb o e=>.inl e) (λx n i=>?_) (λx n x' n' i i' e=>?_) λx w' e=>?_
 ·rcases i.put with⟨rfl,hn⟩|⟨ne,i⟩
  ·rw[new];exact .new (hf n hn)
  ·exact .old x n i (old ne)
 ·rcases i.put with⟨rfl,hn⟩|⟨ne,i⟩<;>rcases i'.put with⟨rfl,hn'⟩|⟨ne',i'⟩
  ·simp only[new,new]at e;exact⟨rfl,hd n hn n' hn' e⟩
  ·simp only[new,old ne']at e;exact absurd e.symm ((h.fresh (hf n hn)).2.2.2 _ _ i')
  ·rename_i j;simp only[new,old ne]at e;exact absurd e ((h.fresh (hf n' hn')).2.2.2 _ _ j)
  ·rw[old ne,old ne']at e;exact h.inj _ _ _ _ i i' e
 ·unfold OM.put at e;split at e
  ·rename_i z;refine(ab.inj e)▸?_;rw[z,LM.put_same];exact nd
  ·rename_i z;rw[LM.put_ne A z];exact h.stay kp (.refl g) e λn hn z=>(h.frm _ (hT _ z)).2.2.2 x n ⟨w',e,hn⟩ rfl
theorem HS.add(h:HS c K g O L F s)(fa:F loc)(k:Kp loc s s')(hl:∀n,¬InO O l n){A:Nat->Addr}(hf:∀n∈w.cells,s.heap.get? (A n)=none)(hd:∀n∈w.cells,∀n'∈w.cells,A n=A n'->n=n')(nd:NodeAt c s'.heap g A w):HS c K g (O.put l w) (L.put l A) F s':=
 h.addT (T:=(·=loc)) (λb z=>z▸fa) k.keep (h.lvF k) k.gens k.os hl hf hd nd
theorem HS.freeze{vs:List V}(h:HS c K g O L F s)(hl:O l=some (.list vs)):∃g',HS c K g' (O.put l (.v (.lst vs))) L F s/\GExt K g g'/\Rep g' (.lst vs) (.ref (L l 0)):=by
 have i0:InO O l 0:=⟨_,hl,.head _⟩;obtain⟨xs,n,e0,r⟩:=(show LstAt s.heap g (L l 0) vs from h.node l _ hl);obtain⟨k0,g0⟩:=h.own l 0 i0;have ge:=GM.add_ext (o:=sqO "list" xs n) g0 k0;have lw:∀{x n},InO (O.put l (.v (.lst vs))) x n->x≠l/\InO O x n:=λi=>by
  rcases i.put with⟨_,hn⟩|i
  ·cases hn
  ·exact i
 refine ieaa _ (h.step (λ_=>False) (λb o _ e=>e) (λa fa=>(h.frm a fa).2.2.1) rfl rfl (λb z=>z.elim) (λb o e=>?_) (λx n i=>.old x n (lw i).2 rfl) (λx n x' n' i i' e=>h.inj _ _ _ _ (lw i).2 (lw i').2 e) λx w' e=>?_) ge ⟨_,xs,n,rfl,GM.add_same _ _ _,r.mono ge.1⟩
 ·rcases GM.add_cases e with e|⟨rfl,rfl⟩
  ·exact .inl e
  ·exact .inr ⟨e0,λz=>(h.frm _ z).2.2.2 _ _ i0 rfl,λx n i z=>(lw i).1 (h.inj _ _ _ _ (lw i).2 i0 z).1⟩
 ·unfold OM.put at e;split at e
  ·refine(ab.inj e)▸?_;trivial
  ·exact h.stay (T:=λ_=>False) (λb o _ e=>e) ge.1 e λ_ _ z=>z
theorem HS.set(h:HS c K g O L F s)(fa:F loc){n0:Nat}(h0:InO O l n0)(keep:∀b o,b≠L l n0->b≠loc->s.heap.get? b=some o->s'.heap.get? b=some o)(lv:(s'.heap.get? loc).isSome=true)(hg:s'.gens=s.gens)(ho:s'.os=s.os)
 (org:Lbl->Nat->Lbl×Nat) (h1:∀x n,InO O' x n->InO O (org x n).1 (org x n).2/\L' x n=L (org x n).1 (org x n).2) (h2:∀x n x' n',InO O' x n->InO O' x' n'->org x n=org x' n'->x=x'/\n=n')
 (h3:∀x v,O' x=some v->x=l/\v=w'∨x≠l/\O x=some v/\∀n,L' x n=L x n) (nd:NodeAt c s'.heap g (L' l) w'):HS c K g O' L' F s':=by
 refine h.step (λb=>b=L l n0∨b=loc) (λb o z=>keep b o (λy=>z (.inl y)) λy=>z (.inr y)) (λa fa'=>?_) hg ho (λb z=>by rcases z with z|z;exact .inl (ieea l n0 h0 z);exact .inr (z▸fa)) (λb o e=>.inl e)
  (λx n i=>.old _ _ (h1 x n i).1 (h1 x n i).2) (λx n x' n' i i' e=>?_) λx v e=>?_
 ·by_cases z:a=loc
  ·refine(z).symm▸?_;exact lv
  ·exact lives_keep (λo=>keep a o (λq=>(h.frm a fa').2.2.2 _ _ h0 q.symm) z) (h.frm a fa').2.2.1
 ·simp only[(h1 x n i).2,(h1 x' n' i').2]at e;obtain⟨e1,e2⟩:=h.inj _ _ _ _ (h1 x n i).1 (h1 x' n' i').1 e;exact h2 x n x' n' i i' (Prod.ext e1 e2)
 ·rcases h3 x v e with⟨rfl,rfl⟩|⟨ne,e,eL⟩
  ·exact nd
  ·rw[show L' x=L x from funext eL];refine(h.node x v e).at (.refl g) λn hn=>⟨rfl,λo q=>keep _ o (λz=>ne (h.inj _ _ _ _ ⟨v,e,hn⟩ h0 z).1) (λz=>(h.frm loc fa).2.2.2 x n ⟨v,e,hn⟩ z) q⟩
end
noncomputable abbrev FrL:=List (Nat×MW)
noncomputable def getF:FrL->Nat->Option MW
 |[],_=>none
 |(j,w)::r,i=>match aT j i with|true=>some w|false=>getF r i
noncomputable def setF:FrL->Nat->MW->FrL
 |[],i,w=>[(i,w)]
 |(j,u)::r,i,w=>match aT j i with|true=>(j,w)::r|false=>(j,u)::setF r i w
theorem getF_setF(i j:Nat)(w:MW):∀fr:FrL,getF (setF fr i w) j=if j=i then some w else getF fr j:=by
 intro fr
 induction fr with
 |nil=>
  show(match aT i j with|true=>some w|false=>none)=if j=i then some w else none
  cases h:aT i j with
  |true=>rw[az h,if_pos rfl]
  |false=>rw[if_neg (λz=>bG h z.symm)]
 |cons p r ih=>
  obtain⟨l,u⟩:=p;dsimp only[setF];cases h:aT l i with
  |true=>
   have h:=az h;dsimp only[getF];cases q:aT l j with
   |true=>rw[if_pos (by refine(h)▸?_;exact(az q).symm)]
   |false=>rw[if_neg (λz=>bG q (h.trans z.symm))]
  |false=>
   dsimp only[getF];cases q:aT l j with
   |true=>rw[if_neg (λz=>bG h ((az q).trans z))]
   |false=>exact ih
theorem getF_take{j:Nat}{w:MW}(n:Nat):∀{fr:FrL},getF (fr.take n) j=some w->getF fr j=some w:=by
 induction n with
 |zero=>intro fr h;simp only[List.take_zero]at h;exact nos h
 |succ n ih=>
  intro fr h;cases fr with
  |nil=>exact h
  |cons p r=>
   simp only[List.take_succ_cons]at h;dsimp only[getF]at h⊢;cases z:aT p.1 j with
   |true=>rw[z]at h;exact h
   |false=>rw[z]at h;exact ih h
structure EnvOk(c:Cx)(env:Env):Prop where
 kind:env.scope.kind=.function
 globals:env.globals=mainGlobals
 builtins:env.builtins=builtinsNs
 above:c.h₀.objs.size<=env.locals
 cells:∀x,env.kindOf x=some .cell->∃a,env.cells.lookup x=some a
 apart:∀x y a,env.kindOf x=some .cell->env.kindOf y=some .cell->env.cells.lookup x=some a->env.cells.lookup y=some a->x=y
 cellsL:∀x a,env.kindOf x=some .cell->env.cells.lookup x=some a->a≠env.locals
inductive CellAt(env:Env)(x:Str)(a:Addr):Prop
 |mk (k:env.kindOf x=some .cell) (e:env.cells.lookup x=some a):CellAt env x a
def frameOf(env:Env)(a:Addr):Prop:=a=env.locals∨∃x,CellAt env x a
inductive VarAt(h:Heap)(env:Env)(m:Str->Option Value)(x:Str)(val:Value):Prop
 |loc (k:env.kindOf x=some .local) (e:m x=some val):VarAt h env m x val
 |cell (a:Addr) (k:CellAt env x a) (e:h.IsCell a (some val)):VarAt h env m x val
structure Fx where
 K:GM
 env:Env
 A:Around
 X:List MW
structure Gl where
 g:GM
 L:LM
def Rm(k:Nat)(A:Around):Prop:=A.handled=none/\A.depth+20*k<990/\A.units+100*k<9800
structure Fx.Ok(k:Nat)(sc:Scope)(Z:Fx):Prop where
 sc:Z.env.scope=sc
 rm:Rm k Z.A
noncomputable def om(fr:FrL)(X:List MW):OM:=λl=>match l with
 |.var i=>getF fr i
 |.tmp k=>X[k]?
structure St(c:Cx)(Z:Fx)(y:Gl)(fr:FrL)(s:Shared):Prop where
 ok:EnvOk c Z.env
 hs:HS c Z.K y.g (om fr Z.X) y.L (frameOf Z.env) s
 vars:∃m,s.heap.Ns Z.env.locals m/\∀i w,getF fr i=some w->∃val,VarAt s.heap Z.env m (nm i) val/\ValW y.g (y.L (.var i) 0) w val
 live:∀x a,CellAt Z.env x a->∃v,s.heap.IsCell a v
structure Ext(Z:Fx)(b:Bool)(y y':Gl):Prop where
 g:GExt Z.K y.g y'.g
 r0:∀i,y'.L (.var i) 0=y.L (.var i) 0
 r1:b=true->∀i n,y'.L (.var i) n=y.L (.var i) n
 tm:∀j<Z.X.length,∀n,y'.L (.tmp j) n=y.L (.tmp j) n
theorem Ext.refl(Z:Fx)(b:Bool)(y:Gl):Ext Z b y y:=⟨.refl _ _,λ_=>rfl,λ_ _ _=>rfl,λ_ _ _=>rfl⟩
theorem Ext.trans{Z:Fx}{b1 b2:Bool}{y1 y2 y3:Gl}(h1:Ext Z b1 y1 y2)(h2:Ext Z b2 y2 y3):Ext Z (b1&&b2) y1 y3:=
 ⟨h1.g.trans h2.g,λi=>(h2.r0 i).trans (h1.r0 i),λe i n=>by
   simp only[aB]at e;exact(h2.r1 e.2 i n).trans (h1.r1 e.1 i n),λj hj n=>(h2.tm j hj n).trans (h1.tm j hj n)⟩
theorem Ext.ofg{Z:Fx}{b:Bool}{y:Gl}{g':GM}(h:GExt Z.K y.g g'):Ext Z b y ⟨g',y.L⟩:=⟨h,λ_=>rfl,λ_ _ _=>rfl,λ_ _ _=>rfl⟩
theorem Ext.off{Z:Fx}{b:Bool}{y y':Gl}(h:Ext Z b y y'):Ext Z false y y':=⟨h.g,h.r0,λe=>(nomatch e),h.tm⟩
abbrev noE:Value->Shared->Prop:=λ_ _=>False
theorem Rm.room{k:Nat}{A:Around}(h:Rm k A):A.depth<recursionLimit:=aL (an _ (20*k)) (bH h.2.1 (a5 rfl))
theorem Rm.line{k:Nat}{A:Around}(h:Rm k A):A.units+64<cLine:=bH (Nat.add_lt_add_right (aL (an _ (100*k)) h.2.2) 64) (a5 rfl)
theorem Rm.deeper{k:Nat}{A:Around}(h:Rm (k+1) A)(env:Env):Rm k (A.deeper env):=⟨h.1,rmS (b:=1) h.2.1 (a5 rfl),rmS (b:=3) h.2.2 (a5 rfl)⟩
theorem Rm.le{k k':Nat}{A:Around}(h:Rm k' A)(hk:k<=k'):Rm k A:=⟨h.1,rmL h.2.1 hk,rmL h.2.2 hk⟩
noncomputable abbrev Fx.push(Z:Fx)(w:MW):Fx:={Z with X:=Z.X++[w]}
section
variable{c:Cx}{Z Z':Fx}{y:Gl}{fr fr':FrL}{s s':Shared}{K' g':GM}{X':List MW}{L':LM}{w:MW}{i:Nat}{a:Addr}{o:Obj}
theorem St.of(S:St c Z y fr s)(h:HS c K' g' (om fr' X') L' (frameOf Z.env) s')(k:∀a o,frameOf Z.env a->a≠Z.env.locals->s.heap.get? a=some o->s'.heap.get? a=some o)(ns:∀m,s.heap.Ns Z.env.locals m->s'.heap.Ns Z.env.locals m)
 (r:∀i w',getF fr' i=some w'->∃w,getF fr i=some w/\∀val,ValW y.g (y.L (.var i) 0) w val->ValW g' (L' (.var i) 0) w' val):St c ⟨K',Z.env,Z.A,X'⟩ ⟨g',L'⟩ fr' s':=by
 have ok:=S.ok;have ce:∀{x a v},CellAt Z.env x a->s.heap.IsCell a v->s'.heap.IsCell a v:=λ{x a v} q ⟨o,e,h⟩=>by
  obtain⟨q1,q2⟩:=q;exact iea o (k a o (.inr ⟨x,q1,q2⟩) (ok.cellsL x a q1 q2) e) h
 refine⟨ok,h,?_,λx a q=>?_⟩
 ·refine oea S.vars λm hn hv=>?_;refine iea m (ns m hn) (λi w' e=>?_);refine oea (r i w' e) λw e1 e2=>?_;refine oea (hv i w e1) λval h1 h2=>?_;refine iea val ?_ (e2 val h2);cases h1 with
  |loc q1 q2=>exact .loc q1 q2
  |cell a q1 q2=>exact .cell a q1 (ce q1 q2)
 ·obtain⟨v,q2⟩:=S.live x a q;exact⟨v,ce q q2⟩
theorem St.kp(S:St c Z y fr s)(k:Kp Z.env.locals s s'):St c Z y fr s':=
 S.of (S.hs.kp (.inl rfl) k) (λa o _ n e=>k.keep a o n e) k.ns λi w e=>iea w e (λ_ h=>h)
theorem St.toks(S:St c Z y fr s)(t:Nat):St c Z y fr {s with toks:=t}:=S.kp (.toks t)
theorem St.same(S:St c Z y fr s)(h:HS c K' g' (om fr' X') L' (frameOf Z.env) s)
 (r:∀i w',getF fr' i=some w'->∃w,getF fr i=some w/\∀val,ValW y.g (y.L (.var i) 0) w val->ValW g' (L' (.var i) 0) w' val):St c ⟨K',Z.env,Z.A,X'⟩ ⟨g',L'⟩ fr' s:=
 S.of h (λ_ _ _ _ e=>e) (λ_ e=>e) r
theorem St.sub(S:St c Z y fr s)(h:∀i w,getF fr' i=some w->getF fr i=some w)(hX:∀(k:Nat) (w:MW),X'[k]?=some w->Z.X[k]?=some w):St c {Z with X:=X'} y fr' s:=
 S.same (S.hs.re (·=·) (λ_ _ _ a b=>a.trans b.symm) λx w e=>ieaa x rfl (by cases x with|var i=>exact h i w e|tmp k=>exact hX k w e) (λ_ _=>rfl)) λi w e=>iea w (h i w e) (λ_ h=>h)
theorem St.take(S:St c Z y fr s)(n:Nat):St c Z y (fr.take n) s:=S.sub (λi w e=>getF_take n e) λ_ _ e=>e
theorem St.dropTmp(S:St c (Z.push w) y fr s):St c Z y fr s:=
 S.sub (Z:=Z.push w) (λ_ _ e=>e) λk w e=>by
  rw[aS (ac.mp e).1];exact e
theorem St.frozen(S:St c Z y fr s)(k:Kp Z.env.locals s s')(ha:s.heap.get? a=none)(hn:s'.heap.get? a=some o):St c Z ⟨y.g.add a o,y.L⟩ fr s'/\Ext Z true y ⟨y.g.add a o,y.L⟩:=by
 refine oa (S.hs.frozen (.inl rfl) k ha hn) λh1 h2=>?_;exact⟨S.of h1 (λa o _ n e=>k.keep a o n e) k.ns λi w e=>iea w e (λ_ h=>h.mono h2.1),.ofg h2⟩
theorem om_snoc(fr:FrL)(X:List MW)(w:MW):om fr (X++[w])=(om fr X).put (.tmp X.length) w:=by
 funext l
 cases l with
 |var j=>rfl
 |tmp k=>
  show(X++[w])[k]?=if Lbl.tmp k=Lbl.tmp X.length then some w else X[k]?
  by_cases h:k=X.length
  ·subst h;simp
  ·rw[if_neg (λz=>h (Lbl.tmp.inj z))];rcases Nat.lt_or_ge k X.length with q|q
   ·rw[aS q]
   ·rw[bA q,bA];rw[aa];exact da q (Ne.symm h)
theorem om_set(fr:FrL)(X:List MW)(i:Nat)(w:MW):om (setF fr i w) X=(om fr X).put (.var i) w:=by
 funext l
 cases l with
 |var j=>
  show getF (setF fr i w) j=if Lbl.var j=Lbl.var i then some w else getF fr j
  rw[getF_setF];by_cases h:j=i
  ·rw[if_pos h,if_pos (congrArg _ h)]
  ·rw[if_neg h,if_neg (λz=>h (Lbl.var.inj z))]
 |tmp k=>rfl
theorem tmp_none{n:Nat}:¬InO (om fr Z.X) (.tmp Z.X.length) n:=λ⟨w,e,_⟩=>by
 have e:Z.X[Z.X.length]?=some w:=e;replace e:=(bA (aI _))▸e;exact nos e
theorem St.addTmp(S:St c Z y fr s)(k:Kp Z.env.locals s s'){A:Nat->Addr}(hf:∀n∈w.cells,s.heap.get? (A n)=none)(hd:∀n∈w.cells,∀n'∈w.cells,A n=A n'->n=n')(nd:NodeAt c s'.heap y.g A w):
 St c (Z.push w) ⟨y.g,y.L.put (.tmp Z.X.length) A⟩ fr s'/\Ext Z true y ⟨y.g,y.L.put (.tmp Z.X.length) A⟩:=by
 have h1:∀i,y.L.put (.tmp Z.X.length) A (.var i)=y.L (.var i):=λi=>LM.put_ne A (λz=>nomatch z);have h2:=S.hs.add (l:=.tmp Z.X.length) (w:=w) (.inl rfl) k (λn=>tmp_none) hf hd nd;rw[←om_snoc]at h2;refine⟨S.of h2 (λa o _ n e=>k.keep a o n e) k.ns λi w e=>iea w e (λ_ h=>?_),⟨.refl _ _,λi=>congrFun (h1 i) 0,λ_ i n=>congrFun (h1 i) n,λj hj n=>congrFun (LM.put_ne A λz=>aY hj (Lbl.tmp.inj z)) n⟩⟩;show ValW _ (y.L.put (.tmp Z.X.length) A (.var i) 0) w _;rw[h1];exact h
theorem St.freezeTmp{vs:List V}(S:St c (Z.push (.list vs)) y fr s):∃g',St c Z ⟨g',y.L⟩ fr s/\GExt Z.K y.g g'/\Rep g' (.lst vs) (.ref (y.L (.tmp Z.X.length) 0)):=by
 refine oeaa (S.hs.freeze (l:=.tmp Z.X.length) (vs:=vs) (by show(Z.X++[_])[_]?=_;simp)) λg' h1 h2 h3=>?_;have S1:=S.same (X':=Z.X++[.v (.lst vs)]) (fr':=fr) (by rw[om_snoc];refine h1.re (·=·) (λ_ _ _ a b=>a.trans b.symm) λx w e=>ieaa x rfl ?_ (λ_ _=>rfl);rw[om_snoc];unfold OM.put at e⊢;split at e<;>rename_i z<;>simp only[z,if_true,if_false]<;>exact e) λi w e=>iea w e (λ_ h=>h.mono h2.1);exact ieaa g' (St.dropTmp (Z:=Z) S1) h2 h3
theorem St.freezeVar{vs:List V}(S:St c Z y fr s)(hi:getF fr i=some (.list vs)):∃g',St c Z ⟨g',y.L⟩ (setF fr i (.v (.lst vs))) s/\GExt Z.K y.g g'/\Rep g' (.lst vs) (.ref (y.L (.var i) 0)):=by
 refine oeaa (S.hs.freeze (l:=.var i) (vs:=vs) hi) λg' h1 h2 h3=>?_;rw[←om_set]at h1;refine ieaa g' (S.same h1 λj w' e=>?_) h2 h3;clear h1;rw[getF_setF]at e;split at e
 ·rename_i z;refine z▸?_;refine(ab.inj e)▸?_;exact iea _ hi (λval hv=>by cases(hv);exact h3)
 ·exact iea w' e (λ_ h=>h.mono h2.1)
theorem writes{x:Str}(h:Z.env.scope=sc)(q:sc.names.lookup x=some .local∨sc.names.lookup x=some .cell):Z.env.kindOf x=some .local∨Z.env.kindOf x=some .cell:=by unfold Env.kindOf;refine(h).symm▸?_;exact q
theorem St.put{Q:Unit->Shared->Prop}{E:Value->Shared->Prop}{A:Around}{x:Str}{val:Value}(S:St c Z y fr s)(hx:nm i=x)(hk:Z.env.kindOf x=some .local∨Z.env.kindOf x=some .cell)(h:HS c Z.K y.g (om (setF fr i w) X') L' (frameOf Z.env) s)
 (hL:∀j,j≠i->L' (.var j) 0=y.L (.var j) 0) (hv:ValW y.g (L' (.var i) 0) w val) (q:∀s',St c {Z with X:=X'} ⟨y.g,L'⟩ (setF fr i w) s'->Q () s'):wpAny c.M A (storeName Z.env x val) Q E s:=by
 subst hx;have ok:=S.ok;refine oea S.vars λm hn hvs=>?_;have vals:∀{h':Heap} {m':Str->Option Value},VarAt h' Z.env m' (nm i) val->(∀j,j≠i->∀v,VarAt s.heap Z.env m (nm j) v->VarAt h' Z.env m' (nm j) v)->∀j w',getF (setF fr i w) j=some w'->∃v,VarAt h' Z.env m' (nm j) v/\ValW y.g (L' (.var j) 0) w' v:=λ{h' m'} a b j w' e=>by
  rw[getF_setF]at e;split at e
  ·rename_i z;refine z▸?_;refine(ab.inj e)▸?_;exact iea val a hv
  ·refine oea (hvs j w' e) λv h1 h2=>?_;refine iea v (b j ‹_› v h1) ?_;rw[hL j ‹_›];exact h2
 have wr:∀(a:Addr) (s':Shared),frameOf Z.env a->Heap.SameBut a s.heap s'.heap->(s'.heap.get? a).isSome=true->s'.gens=s.gens->s'.os=s.os->HS c Z.K y.g (om (setF fr i w) X') L' (frameOf Z.env) s':=λa s' fa hs lv hg ho=>
  h.step (·=a) (λb o n e=>(hs.2 b n).trans e) (λb fb=>by
   by_cases z:b=a
   ·rw[z];exact lv
   ·rw[hs.2 b z];exact(h.frm b fb).2.2.1) hg ho (λb z=>.inr (z▸fa)) (λb o e=>.inl e) (λl n i=>.old l n i rfl) h.inj λl w e=>h.stay (T:=(·=a)) (λb o n e=>(hs.2 b n).trans e) (.refl _) e λn hn z=>(h.frm a fa).2.2.2 l n ⟨w,e,hn⟩ z
 rcases hk with hk|hk
 ·refine wpAny_storeName_local hk hn (λh' hn' hs=>q _ ⟨ok,wr Z.env.locals {s with heap:=h',toks:=s.toks+1} (.inl rfl) hs (by refine oeeea hn' λo _ _ ho _=>?_;show(h'.get? Z.env.locals).isSome=true;rw[ho];rfl) rfl rfl,iea _ hn' (vals (.loc hk (if_pos rfl)) λj n v h1=>?_),λx a q=>?_⟩) (by refine(ok.kind).symm▸?_;rfl)
  ·cases h1 with
   |loc q1 q2=>exact .loc q1 ((if_neg (λz=>n (nm_inj _ _ z))).trans q2)
   |cell a q1 q2=>exact .cell a q1 (q2.sameBut hs (by obtain⟨q1,q3⟩:=q1;exact ok.cellsL _ a q1 q3))
  ·obtain⟨v,h3⟩:=S.live x a q;exact⟨v,h3.sameBut hs (by obtain⟨q1,q3⟩:=q;exact ok.cellsL _ a q1 q3)⟩
 ·refine oe (ok.cells _ hk) λa ha=>?_;obtain⟨v0,hv0⟩:=S.live _ a ⟨hk,ha⟩;refine wpAny_storeName_cell ok.kind hk ha hv0 (λh' hc hs=>q _ ⟨ok,wr a {s with heap:=h'} (.inr ⟨_,hk,ha⟩) hs (by refine oea hc λo ho _=>?_;show(h'.get? a).isSome=true;rw[ho];rfl) rfl rfl,iea m (hn.sameBut hs (Ne.symm (ok.cellsL _ a hk ha))) (vals (.cell a ⟨hk,ha⟩ hc) λj n v h1=>?_),λx b q=>?_⟩)
  ·cases h1 with
   |loc q1 q2=>exact .loc q1 q2
   |cell b q1 q2=>exact .cell b q1 (q2.sameBut hs λz=>by obtain⟨q1,q3⟩:=q1;exact n (nm_inj _ _ (ok.apart _ _ a q1 hk (z▸q3) ha)))
  ·by_cases z:b=a
   ·rw[z];exact⟨_,hc⟩
   ·obtain⟨v,h3⟩:=S.live x b q;exact⟨v,h3.sameBut hs z⟩
theorem HS.putV{K g:GM}{O:OM}{L:LM}{F:Addr->Prop}{x:V}{l:Lbl}(h:HS c K g O L F s):HS c K g (O.put l (.v x)) L F s:=by
 have lw:∀{z n},InO (O.put l (.v x)) z n->InO O z n:=λi=>by
  rcases i.put with⟨_,hn⟩|i
  ·cases hn
  ·exact i.2
 refine⟨h.base,h.keepK,h.keepg,h.gens,h.os,λz w e=>?_,λz n z' n' i i'=>h.inj _ _ _ _ (lw i) (lw i'),λz n i=>h.own _ _ (lw i),λa fa=>iaaa ((h.frm a fa).1) ((h.frm a fa).2.1) ((h.frm a fa).2.2.1) (λz n i=>(h.frm a fa).2.2.2 z n (lw i))⟩;unfold OM.put at e;split at e
 ·refine(ab.inj e)▸?_;trivial
 ·exact h.node z w e
theorem St.putV{Q:Unit->Shared->Prop}{E:Value->Shared->Prop}{A:Around}{x:Str}{v:V}{val:Value}(S:St c Z y fr s)(hx:nm i=x)(hk:Z.env.kindOf x=some .local∨Z.env.kindOf x=some .cell)(hv:Rep y.g v val)(q:∀s',St c Z y (setF fr i (.v v)) s'->Q () s'):wpAny c.M A (storeName Z.env x val) Q E s:=
 S.put (w:=.v v) hx hk (by rw[om_set];exact S.hs.putV) (λ_ _=>rfl) hv q
theorem St.putTmp{Q:Unit->Shared->Prop}{E:Value->Shared->Prop}{A:Around}{x:Str}{val:Value}{X1 X2:List MW}(S:St c {Z with X:=X1++w::X2} y fr s)(hx:nm i=x)(hk:Z.env.kindOf x=some .local∨Z.env.kindOf x=some .cell)(hw:w.own=true)(hv:val=.ref (y.L (.tmp X1.length) 0))
 (q:∀s' L',(∀j,j≠i->∀n,L' (.var j) n=y.L (.var j) n)->(∀j n,L' (.tmp j) n=y.L (.tmp (if j<X1.length then j else j+1)) n)->St c {Z with X:=X1++X2} ⟨y.g,L'⟩ (setF fr i w) s'->Q () s'):wpAny c.M A (storeName Z.env x val) Q E s:=by
 let L':LM:=λl=>match l with
  |.var j=>if j=i then y.L (.tmp X1.length)else y.L (.var j)
  |.tmp j=>y.L (.tmp (if j<X1.length then j else j+1))
 have hL:∀j,j≠i->L' (.var j)=y.L (.var j):=λj n=>if_neg n;refine St.put (Z:={Z with X:=X1++w::X2}) (X':=X1++X2) (L':=L') S hx hk (S.hs.re (λx z=>match x with
  |.var j=>if j=i then z=.tmp X1.length else z=.var j
  |.tmp j=>z=.tmp (if j<X1.length then j else j+1)) (λx x' z h1 h2=>?_) λx v e=>?_) (λj n=>congrFun (hL j n) 0) ?_ λs' S'=>q s' L' (λj n m=>congrFun (hL j n) m) (λ_ _=>rfl) S'
 ·clear hL;cases x with
  |var a=>
   cases x' with
   |var b=>
    dsimp only at h1 h2;by_cases p1:a=i<;>by_cases p2:b=i<;>simp only[p1,p2,if_true,if_false]at h1 h2⊢<;>replace h2:=(h1)▸h2<;>cases h2<;>first|rfl|contradiction
   |tmp b=>
    dsimp only at h1 h2;replace h1:=(h2)▸h1;split at h1
    ·exact absurd (Lbl.tmp.inj h1) shNe
    ·injection h1
  |tmp a=>
   cases x' with
   |var b=>
    dsimp only at h1 h2;replace h2:=(h1)▸h2;split at h2
    ·exact absurd (Lbl.tmp.inj h2) shNe
    ·injection h2
   |tmp b=>
    dsimp only at h1 h2;replace h2:=(h1)▸h2;have:=Lbl.tmp.inj h2;congr 1;exact shInj this
 ·cases x with
  |var j=>
   have e:getF (setF fr i w) j=some v:=e;rw[getF_setF]at e;dsimp only;split at e
   ·rename_i z;refine(ab.inj e)▸?_;exact ieaa (.tmp X1.length) (by rw[if_pos z]) (by show(X1++w::X2)[X1.length]?=some w;simp) (λn _=>congrFun (if_pos z) n)
   ·rename_i z;exact ieaa (.var j) (by rw[if_neg z]) e (λn _=>congrFun (if_neg z) n)
  |tmp j=>
   refine ieaa _ rfl ?_ (λ_ _=>rfl);have e:(X1++X2)[j]?=some v:=e;show(X1++w::X2)[if j<X1.length then j else j+1]?=some v;split
   ·rename_i z;rw[aS z]at e⊢;exact e
   ·rename_i z;have z:=aW.mp z;rw[bt z]at e;rw[bt (bP z),Nat.succ_sub z];exact e
 ·have:L' (.var i) 0=y.L (.tmp X1.length) 0:=congrFun (if_pos rfl) 0;refine(this)▸?_;cases w with
  |v x=>exact ff hw
  |_=>exact hv
end
mutual
noncomputable def vDat:V->Dat
 |.none=>.none
 |.int i=>.int i
 |.str s=>.str s
 |.tup vs=>.tuple (vDats vs)
 |.lst vs=>.list (vDats vs)
 |.bool _|.rng _ _|.cst _|.arg _=>.bytes #[]
noncomputable def vDats:List V->List Dat
 |[]=>[]
 |v::vs=>vDat v::vDats vs
end
set_option smartUnfolding false in
theorem vDats_c{v:V}{vs:List V}:vDats (v::vs)=vDat v::vDats vs:=rfl
mutual
noncomputable def unDat:Dat->V
 |.none=>.none
 |.int i=>.int i
 |.str s=>.str s
 |.tuple ds=>.tup (unDats ds)
 |.list ds=>.lst (unDats ds)
 |_=>.none
noncomputable def unDats:List Dat->List V
 |[]=>[]
 |d::ds=>unDat d::unDats ds
end
noncomputable def okV(v:V):Bool:=kqdOk 8 (vDat v)
noncomputable def okVs(vs:List V):Bool:=(vDats vs).all (kqdOk 8)
mutual
theorem un_dat:∀(v:V) (n:Nat),kqdOk n (vDat v)=true->unDat (vDat v)=v:=by
 intro v n h;cases v with
 |none=>rfl
 |int i=>rfl
 |str i=>rfl
 |tup vs=>cases n with
  |zero=>exact ff h
  |succ n=>exact congrArg V.tup (un_dats vs n h)
 |lst vs=>cases n with
  |zero=>exact ff h
  |succ n=>exact congrArg V.lst (un_dats vs n h)
 |_=>cases n<;>exact ff h
theorem un_dats:∀(vs:List V) (n:Nat),(vDats vs).all (kqdOk n)=true->unDats (vDats vs)=vs:=by
 intro vs n h;cases vs with
 |nil=>rfl
 |cons v vs=>
  dsimp only[vDats]at h⊢;simp only[bM,aB]at h;dsimp only[unDats];rw[un_dat v n h.1,un_dats vs n h.2]
end
section
variable{g:GM}{h:Heap}(k:∀a o,g a=some o->h.get? a=some o)
include k
mutual
theorem rep_reads:∀(v:V) (n:Nat) (x:Value),Rep g v x->kqdOk n (vDat v)=true->∃as,Reads h x (kqdP (vDat v)) as:=by
 intro v n x r ok;cases v with
 |none=>subst r;exact⟨_,Reads.none⟩
 |int i=>obtain⟨t,rfl⟩:=r;exact⟨_,Reads.int i t⟩
 |str i=>obtain⟨t,rfl⟩:=r;exact⟨_,Reads.str i t⟩
 |tup vs=>cases n with
  |zero=>exact ff ok
  |succ n=>
   obtain⟨a,xs,m,rfl,ha,hl⟩:=r;obtain⟨as,q⟩:=repL_reads vs n xs hl ok;exact⟨as,reads_tuple_at (k _ _ ha) rfl rfl q⟩
 |lst vs=>cases n with
  |zero=>exact ff ok
  |succ n=>
   obtain⟨a,xs,m,rfl,ha,hl⟩:=r;obtain⟨as,q⟩:=repL_reads vs n xs hl ok;exact⟨_,reads_list_at (k _ _ ha) rfl rfl q⟩
 |_=>cases n<;>exact ff ok
theorem repL_reads:∀(vs:List V) (n:Nat) (xs:List Value),RepL g vs xs->(vDats vs).all (kqdOk n)=true->∃as,ReadsAll h xs (kqdPs (vDats vs)) as:=by
 intro vs n xs r ok;cases vs with
 |nil=>subst r;exact⟨_,ReadsAll.nil⟩
 |cons v vs=>
  obtain⟨y,ys,rfl,r,rl⟩:=r;dsimp only[vDats]at ok⊢;simp only[bM,aB]at ok;obtain⟨as,q⟩:=rep_reads v n y r ok.1;obtain⟨bs,p⟩:=repL_reads vs n ys rl ok.2;exact⟨_,ReadsAll.cons q p⟩
end
end
theorem okV_eqv{a b:V}(ha:okV a=true)(hb:okV b=true):PyData.eqv (kqdP (vDat a)) (kqdP (vDat b))=true↔a=b:=by
 rw[kqd_eqv 8 _ _ 8 ha hb];exact⟨λe=>by rw[←un_dat a 8 ha,e,un_dat b 8 hb],λe=>by rw[e]⟩
theorem okV_shaped{a:V}(ha:okV a=true):SeqAt.shaped (kqdP (vDat a))=true:=by
 have l:=kqd_lay 8 _ ha;unfold SeqAt.shaped;simp only[l.1,dH];exact decide_eq_true (a6 l.2 (by decide))
theorem any_ok{d:V}(hd:okV d=true):∀vs:List V,okVs vs=true->((kqdPs (vDats vs)).any (λy=>PyData.eqv y (kqdP (vDat d)))=true↔d∈vs):=by
 intro vs
 induction vs with
 |nil=>intro _;exact⟨λh=>(nomatch h),λh=>(nomatch h)⟩
 |cons e vs ih=>
  intro h;dsimp only[okVs,vDats]at h;simp only[bM,aB]at h;dsimp only[vDats,kqdPs];rw[eG,e7,ih h.2,okV_eqv h.1 hd,aj,eq_comm]
inductive Rd(h:Heap)(g:GM)(v:V)(x:Value):Prop
 |rep (r:Rep g v x):Rd h g v x
 |own (a:Addr) (vs:List V) (e:v=.lst vs) (ex:x=.ref a) (l:LstAt h g a vs):Rd h g v x
inductive SqH(h:Heap)(g:GM)(T:String)(vs:List V)(x:Value):Prop
 |mk (a:Addr) (xs:List Value) (n:Nat) (e:x=.ref a) (h1:h.get? a=some (sqO T xs n)) (h2:RepL g vs xs):SqH h g T vs x
section
variable{g:GM}{h:Heap}{x:Value}{vs:List V}
theorem Rd.list(k:∀a o,g a=some o->h.get? a=some o)(r:Rd h g (.lst vs) x):SqH h g "list" vs x:=by
 rcases r with⟨a,xs,n,e,h1,h2⟩|⟨a,vs',e,ex,xs,n,h1,h2⟩
 ·exact⟨a,xs,n,e,k _ _ h1,h2⟩
 ·injection e with e;subst e;exact⟨a,xs,n,ex,h1,h2⟩
theorem Rd.rep'{v:V}(r:Rd h g v x)(hv:∀vs,v≠.lst vs):Rep g v x:=by
 rcases r with r|⟨a,vs',e,ex,l⟩
 ·exact r
 ·exact absurd e (hv vs')
theorem Rd.tup(k:∀a o,g a=some o->h.get? a=some o)(r:Rd h g (.tup vs) x):SqH h g "tuple" vs x:=by
 obtain⟨a,xs,n,e,h1,h2⟩:=(r.rep' λ_ z=>nomatch z);exact⟨a,xs,n,e,k _ _ h1,h2⟩
theorem Rd.int{i:Int}(r:Rd h g (.int i) x):∃t,x=.int i t:=r.rep' λ_ z=>nomatch z
theorem Rd.bool{i:Bool}(r:Rd h g (.bool i) x):x=.bool i:=r.rep' λ_ z=>nomatch z
theorem Rd.none(r:Rd h g .none x):x=.none:=r.rep' λ_ z=>nomatch z
theorem Rd.notNone{v:V}(r:Rd h g v x)(hv:v≠.none)(hc:∀y,v≠.cst y):x≠.none:=by
 rcases r with r|⟨_,_,_,ex,_⟩
 ·intro z;subst z;cases v with
  |none=>exact hv rfl
  |cst y=>exact hc y rfl
  |bool b=>injection r
  |int i=>obtain⟨t,r⟩:=r;injection r
  |str i=>obtain⟨t,r⟩:=r;injection r
  |rng a b=>obtain⟨a,_,_,_,r,_⟩:=r;injection r
  |arg vs=>obtain⟨a,_,_,_,r,_⟩:=r;injection r
  |tup vs=>obtain⟨a,_,_,r,_⟩:=r;cases r
  |lst vs=>obtain⟨a,_,_,r,_⟩:=r;cases r
 ·refine(ex)▸?_;intro z;injection z
end
theorem rd_reads{g:GM}{h:Heap}(k:∀a o,g a=some o->h.get? a=some o){v:V}{x:Value}(r:Rd h g v x)(ok:okV v=true):∃as,Reads h x (kqdP (vDat v)) as:=by
 rcases r with r|⟨a,vs,rfl,rfl,xs,m,ha,hl⟩
 ·exact rep_reads k v 8 x r ok
 ·obtain⟨as,q⟩:=repL_reads k vs 7 xs hl ok;exact⟨_,reads_list_at ha rfl rfl q⟩
section
variable{c:Cx}{g:GM}{s:Shared}{A:Around}{a b:V}{x y:Value}{Q:Value->Shared->Prop}{E:Value->Shared->Prop}(kp:∀b o,g b=some o->s.heap.get? b=some o)(ra:Rd s.heap g a x)(ha:okV a=true)(hu:A.units+64<cLine)
include kp ra ha hu
theorem eq_ok(rb:Rd s.heap g b y)(hb:okV b=true)(q:∀r:Bool,(r=true↔a=b)->Q (.bool r) s):wpAny c.M A (compareOp .Eq x y) Q E s:=by
 refine oe (rd_reads kp ra ha) λas qa=>?_;obtain⟨bs,qb⟩:=rd_reads kp rb hb;exact eq_dataH qa qb (okV_shaped ha) (okV_shaped hb) hu (q _ (okV_eqv ha hb))
theorem ne_ok(rb:Rd s.heap g b y)(hb:okV b=true)(q:∀r:Bool,(r=true↔a=b)->Q (.bool (!r)) s):wpAny c.M A (compareOp .NotEq x y) Q E s:=by
 refine oe (rd_reads kp ra ha) λas qa=>?_;obtain⟨bs,qb⟩:=rd_reads kp rb hb;exact ne_dataH qa qb (okV_shaped ha) (okV_shaped hb) hu (q _ (okV_eqv ha hb))
theorem in_ok{vs:List V}(rb:SqH s.heap g "list" vs y)(hb:okVs vs=true)(q:∀r:Bool,(r=true↔a∈vs)->Q (.bool r) s):wpAny c.M A (compareOp .In x y) Q E s:=by
 obtain⟨al,xs,n,rfl,h1,h2⟩:=rb;obtain⟨as,qa⟩:=repL_reads kp vs 8 xs h2 hb;obtain⟨bs,qb⟩:=rd_reads kp ra ha;have ld:=kqd_lay 8 _ ha;exact SeqAt.in_list_reads (reads_list_at h1 rfl rfl qa) qb (kqd_layL (ds:=vDats vs) (aA.mp hb)).1 ld.1 (aL (ay (a6 (dr _ _) (a6 ld.2 (by decide:8<=63))) _) (by rw[bh];exact hu)) (q _ (any_ok ha vs hb))
theorem notIn_ok{vs:List V}(rb:SqH s.heap g "list" vs y)(hb:okVs vs=true)(q:∀r:Bool,(r=true↔a∈vs)->Q (.bool (!r)) s):wpAny c.M A (compareOp .NotIn x y) Q E s:=by
 obtain⟨al,xs,n,rfl,h1,h2⟩:=rb;obtain⟨as,qa⟩:=repL_reads kp vs 8 xs h2 hb;obtain⟨bs,qb⟩:=rd_reads kp ra ha;have ld:=kqd_lay 8 _ ha;exact SeqAt.notIn_list_reads (reads_list_at h1 rfl rfl qa) qb (kqd_layL (ds:=vDats vs) (aA.mp hb)).1 ld.1 (aL (ay (a6 (dr _ _) (a6 ld.2 (by decide:8<=63))) _) (by rw[bh];exact hu)) (q _ (any_ok ha vs hb))
end
inductive EqV(a b:V)(q:Bool->Prop):Prop
 |mk (p1:okV a=true) (p2:okV b=true) (p3:∀r:Bool,(r=true↔a=b)->q r):EqV a b q
inductive InV(a:V)(vs:List V)(q:Bool->Prop):Prop
 |mk (p1:okV a=true) (p2:okVs vs=true) (p3:∀r:Bool,(r=true↔a∈vs)->q r):InV a vs q
def int2(x y:V)(q:Int->Int->Prop):Prop:=match x with
 |.int a=>(match y with|.int b=>q a b|_=>False)
 |_=>False
def eqV(x y:V)(q:Bool->Prop):Prop:=match x with
 |.int a=>(match y with|.int b=>q (decide (a=b))|_=>EqV x y q)
 |.bool a=>(match y with|.bool b=>q (a==b)|_=>EqV x y q)
 |_=>EqV x y q
noncomputable def noneV:V->Option Bool
 |.none=>some true
 |.rng _ _=>none
 |.cst _=>none
 |_=>some false
def isV(x y:V)(q:Bool->Prop):Prop:=match y with
 |.none=>(match noneV x with|some b=>q b|none=>False)
 |.bool b=>(match x with|.bool a=>q (a==b)|_=>False)
 |_=>False
def inV(x y:V)(q:Bool->Prop):Prop:=match y with
 |.lst vs=>InV x vs q
 |_=>False
def cmpV(op:CmpOp)(x y:V)(q:Bool->Prop):Prop:=match op with
 |.Lt=>int2 x y λa b=>q (decide (a<b))
 |.LtE=>int2 x y λa b=>q (decide (a<=b))
 |.Gt=>int2 x y λa b=>q (decide (b<a))
 |.GtE=>int2 x y λa b=>q (decide (b<=a))
 |.Eq=>eqV x y q
 |.NotEq=>eqV x y λb=>q (!b)
 |.Is=>isV x y q
 |.IsNot=>isV x y λb=>q (!b)
 |.In=>inV x y q
 |.NotIn=>inV x y λb=>q (!b)
theorem int2.out{x y:V}{q:Int->Int->Prop}(h:int2 x y q):∃a b,x=.int a/\y=.int b/\q a b:=by
 cases x with
 |int a=>cases y with
  |int b=>exact ieeaa a b rfl rfl h
  |_=>exact h.elim
 |_=>exact h.elim
section
variable{c:Cx}{g:GM}{s:Shared}{A:Around}{x y:Value}{Q:Value->Shared->Prop}{E:Value->Shared->Prop}{q:Bool->Prop}{a b:V}(kp:∀b o,g b=some o->s.heap.get? b=some o)(hu:A.units+64<cLine)(hQ:∀r,q r->Q (.bool r) s)
include kp hu
omit hu kp in
theorem eqV_gen{q:Bool->Prop}{P:Prop}(i:∀i j,a=.int i->b=.int j->q (decide (i=j))->P)(bb:∀i j,a=.bool i->b=.bool j->q (i==j)->P)(gen:EqV a b q->P)(h:eqV a b q):P:=by
 cases a with
 |int i=>cases b with
  |int j=>exact i _ _ rfl rfl h
  |_=>exact gen h
 |bool i=>clear i;cases b with
  |bool j=>exact bb _ _ rfl rfl h
  |_=>exact gen h
 |_=>exact gen h
theorem eqV_ok(ra:Rd s.heap g a x)(rb:Rd s.heap g b y)(h:eqV a b q)(hQ:∀r,q r->Q (.bool r) s):wpAny c.M A (compareOp .Eq x y) Q E s:=by
 refine eqV_gen (λi j e1 e2 h=>?_) (λi j e1 e2 h=>?_) (λh=>?_) h
 ·subst e1 e2;obtain⟨t,rfl⟩:=ra.int;obtain⟨u,rfl⟩:=rb.int;exact eq_int (hQ _ h)
 ·subst e1 e2;rw[ra.bool,rb.bool];exact eq_bool (hQ _ h)
 ·obtain⟨p1,p2,p3⟩:=h;exact eq_ok kp ra p1 hu rb p2 λr e=>hQ _ (p3 r e)
theorem neV_ok(ra:Rd s.heap g a x)(rb:Rd s.heap g b y)(h:eqV a b λb=>q (!b))(hQ:∀r,q r->Q (.bool r) s):wpAny c.M A (compareOp .NotEq x y) Q E s:=by
 refine eqV_gen (λi j e1 e2 h=>?_) (λi j e1 e2 h=>?_) (λh=>?_) h
 ·subst e1 e2;obtain⟨t,rfl⟩:=ra.int;obtain⟨u,rfl⟩:=rb.int;exact ne_int (hQ _ h)
 ·subst e1 e2;rw[ra.bool,rb.bool];exact ne_bool (hQ _ h)
 ·obtain⟨p1,p2,p3⟩:=h;exact ne_ok kp ra p1 hu rb p2 λr e=>hQ _ (p3 r e)
omit kp hu in
theorem isV_gen{q:Bool->Prop}{P:Prop}(n1:a=.none->b=.none->q true->P)(n2:a≠.none->(∀y,a≠.cst y)->b=.none->q false->P)(bb:∀i j,a=.bool i->b=.bool j->q (i==j)->P)(h:isV a b q):P:=by
 cases b with
 |none=>cases a with
  |none=>exact n1 rfl rfl h
  |rng _ _=>exact h.elim
  |cst _=>exact h.elim
  |_=>exact n2 (λz=>nomatch z) (λ_ z=>nomatch z) rfl h
 |bool j=>clear n2;clear n1;cases a with
  |bool i=>exact bb _ _ rfl rfl h
  |_=>exact h.elim
 |_=>exact h.elim
theorem cmp_ok{op:CmpOp}(ra:Rd s.heap g a x)(rb:Rd s.heap g b y)(h:cmpV op a b q)(hQ:∀r,q r->Q (.bool r) s):wpAny c.M A (compareOp op x y) Q E s:=by
 cases op with
 |Lt=>refine oeeaa (int2.out h) λi j z_ z5_ h=>?_;subst z_;subst z5_;obtain⟨t,rfl⟩:=ra.int;obtain⟨u,rfl⟩:=rb.int;exact lt_int (hQ _ h)
 |LtE=>refine oeeaa (int2.out h) λi j z_ z15_ h=>?_;subst z_;subst z15_;obtain⟨t,rfl⟩:=ra.int;obtain⟨u,rfl⟩:=rb.int;exact le_int (hQ _ h)
 |Gt=>refine oeeaa (int2.out h) λi j z_ z22_ h=>?_;subst z_;subst z22_;obtain⟨t,rfl⟩:=ra.int;obtain⟨u,rfl⟩:=rb.int;exact gt_int (hQ _ h)
 |GtE=>refine oeeaa (int2.out h) λi j z_ z26_ h=>?_;subst z_;subst z26_;obtain⟨t,rfl⟩:=ra.int;obtain⟨u,rfl⟩:=rb.int;exact ge_int (hQ _ h)
 |Eq=>exact eqV_ok kp hu ra rb h hQ
 |NotEq=>exact neV_ok kp hu ra rb h hQ
 |In=>cases b with
  |lst vs=>obtain⟨p1,p2,p3⟩:=h;exact in_ok kp ra p1 hu (rb.list kp) p2 λr e=>hQ _ (p3 r e)
  |_=>exact h.elim
 |NotIn=>cases b with
  |lst vs=>obtain⟨p1,p2,p3⟩:=h;exact notIn_ok kp ra p1 hu (rb.list kp) p2 λr e=>hQ _ (p3 r e)
  |_=>exact h.elim
 |Is=>
  refine isV_gen (λe1 e2 z=>?_) (λe1 e3 e2 z=>?_) (λi j e1 e2 z=>?_) h
  ·subst e1 e2;rw[ra.none,rb.none];exact wpAny_is_plain rfl (hQ _ z)
  ·subst e2;rw[rb.none];exact is_none_ne (ra.notNone e1 e3) (hQ _ z)
  ·subst e1 e2;rw[ra.bool,rb.bool];exact wpAny_is_plain rfl (hQ _ (by cases i<;>cases j<;>exact z))
 |IsNot=>
  refine isV_gen (λe1 e2 z=>?_) (λe1 e3 e2 z=>?_) (λi j e1 e2 z=>?_) h
  ·subst e1 e2;rw[ra.none,rb.none];exact wpAny_isNot_plain rfl (hQ _ z)
  ·subst e2;rw[rb.none];exact isnot_none_ne (ra.notNone e1 e3) (hQ _ z)
  ·subst e1 e2;rw[ra.bool,rb.bool];exact wpAny_isNot_plain rfl (hQ _ (by cases i<;>cases j<;>exact z))
end
inductive Rw where
 |v (x:V)|fresh (w:MW)|loc (i:Nat)|fld (i k:Nat)
inductive Ow where
 |v (x:V)|loc (i:Nat)|fld (i k:Nat)
inductive Rz where
 |v (x:V)|fresh (w:MW)
inductive Fw where
 |nxt|ret (r:Rz)
noncomputable def Rz.toRw:Rz->Rw
 |.v x=>.v x
 |.fresh w=>.fresh w
noncomputable def Rz.mw:Rz->MW
 |.v x=>.v x
 |.fresh w=>w
structure Ct where
 c:Cx
 k:Nat
noncomputable abbrev Pw(β:Type):=Ct->FrL->(β->FrL->Prop)->Prop
noncomputable abbrev FE:=Pw Rw
noncomputable abbrev FV:=Pw V
noncomputable abbrev FO:=Pw Ow
noncomputable abbrev FB:=Pw Bool
noncomputable def lookK:List Nat->List MW->Nat->Option MW
 |k0::ks,w::ws,k=>match aT k k0 with|true=>some w|false=>lookK ks ws k
 |_,_,_=>none
set_option smartUnfolding false in
theorem lookK_c{k k0:Nat}{ks:List Nat}{w:MW}{ws:List MW}:lookK (k0::ks) (w::ws) k=match aT k k0 with|true=>some w|false=>lookK ks ws k:=rfl
noncomputable def plW(fr:FrL):Ow->Option MW
 |.v _=>none
 |.loc i=>getF fr i
 |.fld i k=>match getF fr i with
  |some (.obj _ ks ws)=>lookK ks ws k
  |_=>none
noncomputable def replW:List Nat->List MW->Nat->MW->List MW
 |k0::ks,w0::ws,k,w=>match aT k k0 with|true=>w::ws|false=>w0::replW ks ws k w
 |_,ws,_,_=>ws
noncomputable def updW(fr:FrL):Ow->MW->FrL
 |.v _,_=>fr
 |.loc i,w=>setF fr i w
 |.fld i k,w=>match getF fr i with
  |some (.obj C ks ws)=>setF fr i (.obj C ks (replW ks ws k w))
  |_=>fr
inductive Br(b:Bool)(X Y:Prop):Prop
 |y (e:b=true) (h:X):Br b X Y
 |n (e:b=false) (h:Y):Br b X Y
inductive Sz(n m:Nat)(X:Prop):Prop
 |mk (e:n<=m) (h:X):Sz n m X
inductive It{α:Type}(o:Option α)(X:α->Prop):Prop
 |mk (x:α) (e:o=some x) (h:X x):It o X
theorem Br.t{X Y:Prop}(h:Br true X Y):X:=by cases h with|y e h=>exact h|n e h=>injection e
theorem Br.f{X Y:Prop}(h:Br false X Y):Y:=by cases h with|y e h=>cases e|n e h=>exact h
structure Pr(p X:Prop):Prop where
 e:p
 h:X
theorem Sz.out{n m:Nat}{X:Prop}(h:Sz n m X):n<=m/\X:=by cases h with|mk e h=>exact⟨e,h⟩
theorem It.out{α:Type}{o:Option α}{X:α->Prop}(h:It o X):∃x,o=some x/\X x:=by cases h with|mk x e h=>exact iea x e h
def sm{α:Type}(o:Option α)(X:α->Prop):Prop:=match o with|some x=>X x|none=>False
theorem sm.out{α:Type}{o:Option α}{X:α->Prop}(h:sm o X):∃x,o=some x/\X x:=by
 cases o with
 |none=>exact h.elim
 |some x=>exact iea x rfl h
def deep(b:Bool)(o:Ow)(X:Prop):Prop:=match o with|.fld _ _=>(match b with|true=>X|false=>False)|_=>X
noncomputable def resF(i:Nat):MW->Rw
 |.v x=>.v x
 |_=>.loc i
noncomputable def fName(i:Nat):FE:=λγ fr Q=>match getF fr i with|some w=>Q (resF i w) fr|none=>False
def purW:Rw->FrL->(V->FrL->Prop)->Prop
 |.v x,fr,Q=>Q x fr
 |.fresh w,fr,Q=>match w with|.list vs=>Q (.lst vs) fr|_=>False
 |.loc i,fr,Q=>match getF fr i with|some w=>(match w with|.list vs=>Q (.lst vs) (setF fr i (.v (.lst vs)))|_=>False)|none=>False
 |.fld _ _,_,_=>False
def toOW:Rw->FrL->(Ow->FrL->Prop)->Prop
 |.v x,fr,Q=>Q (.v x) fr
 |.fresh w,fr,Q=>match w with|.list vs=>Q (.v (.lst vs)) fr|_=>False
 |.loc i,fr,Q=>Q (.loc i) fr
 |.fld i k,fr,Q=>Q (.fld i k) fr
def ownW:Rw->FrL->(Rz->FrL->Prop)->Prop
 |.v x,fr,Q=>Q (.v x) fr
 |.fresh w,fr,Q=>Q (.fresh w) fr
 |.loc i,fr,Q=>match getF fr i with|some w=>(match w with|.list vs=>Q (.v (.lst vs)) (setF fr i (.v (.lst vs)))|_=>False)|none=>False
 |.fld _ _,_,_=>False
def atF{α:Type}(Q:α->FrL->Prop)(fr:FrL)(x:α):Prop:=Q x fr
def purK(Q:V->FrL->Prop)(r:Rw)(fr:FrL):Prop:=purW r fr Q
def opK(Q:Ow->FrL->Prop)(r:Rw)(fr:FrL):Prop:=toOW r fr Q
def opvK(Q:Ow->FrL->Prop)(x:V)(fr:FrL):Prop:=Q (.v x) fr
def valK(Q:Rw->FrL->Prop)(x:V)(fr:FrL):Prop:=Q (.v x) fr
noncomputable def fPur(f:FE):FV:=λγ fr Q=>f γ fr (purK Q)
noncomputable def fOp(f:FE):FO:=λγ fr Q=>f γ fr (opK Q)
noncomputable def fOpV(f:FV):FO:=λγ fr Q=>f γ fr (opvK Q)
noncomputable def fVal(f:FV):FE:=λγ fr Q=>f γ fr (valK Q)
noncomputable def fV(x:V):FV:=λγ fr Q=>Q x fr
noncomputable def fNil{β:Type}:Pw (List β):=λγ fr Q=>Q [] fr
def consK2(Q:List V->FrL->Prop)(x:V)(xs:List V)(fr:FrL):Prop:=Q (x::xs) fr
def consK(fs:Pw (List V))(γ:Ct)(Q:List V->FrL->Prop)(x:V)(fr:FrL):Prop:=fs γ fr (consK2 Q x)
noncomputable def fCons(f:FV)(fs:Pw (List V)):Pw (List V):=λγ fr Q=>f γ fr (consK fs γ Q)
def oconsK2(b2:Bool)(Q:List Ow->FrL->Prop)(o:Ow)(os:List Ow)(fr:FrL):Prop:=deep b2 o (Q (o::os) fr)
def oconsK(fs:Pw (List Ow))(b2:Bool)(γ:Ct)(Q:List Ow->FrL->Prop)(o:Ow)(fr:FrL):Prop:=fs γ fr (oconsK2 b2 Q o)
noncomputable def fOcons(f:FO)(fs:Pw (List Ow))(b2:Bool):Pw (List Ow):=λγ fr Q=>f γ fr (oconsK fs b2 γ Q)
def rconsK2(Q:List Rz->FrL->Prop)(z:Rz)(zs:List Rz)(fr:FrL):Prop:=Q (z::zs) fr
def rconsK1(fs:Pw (List Rz))(γ:Ct)(Q:List Rz->FrL->Prop)(z:Rz)(fr:FrL):Prop:=fs γ fr (rconsK2 Q z)
def rconsK(fs:Pw (List Rz))(γ:Ct)(Q:List Rz->FrL->Prop)(r:Rw)(fr:FrL):Prop:=ownW r fr (rconsK1 fs γ Q)
noncomputable def fRcons(f:FE)(fs:Pw (List Rz)):Pw (List Rz):=λγ fr Q=>f γ fr (rconsK fs γ Q)
def tupK(Q:V->FrL->Prop)(xs:List V)(fr:FrL):Prop:=Q (.tup xs) fr
def lstK(Q:Rw->FrL->Prop)(xs:List V)(fr:FrL):Prop:=Q (.fresh (.list xs)) fr
noncomputable def fTup(fs:Pw (List V)):FV:=λγ fr Q=>fs γ fr (tupK Q)
noncomputable def fLst(fs:Pw (List V)):FE:=λγ fr Q=>fs γ fr (lstK Q)
noncomputable def fDict0:FE:=λγ fr Q=>Q (.fresh (.dict [])) fr
noncomputable def fDict1(f g:FV):FE:=λγ fr Q=>f γ fr λx fr1=>match x with|.int i=>(g γ fr1 λy fr2=>Q (.fresh (.dict [(i,y)])) fr2)|_=>False
def boolK(Q:V->FrL->Prop)(b:Bool)(fr:FrL):Prop:=Q (.bool b) fr
def notK(Q:Bool->FrL->Prop)(b:Bool)(fr:FrL):Prop:=Q (!b) fr
def andK(g:FB)(γ:Ct)(Q:Bool->FrL->Prop)(b:Bool)(fr:FrL):Prop:=Br b (g γ fr Q) (Q false fr)
def orK(g:FB)(γ:Ct)(Q:Bool->FrL->Prop)(b:Bool)(fr:FrL):Prop:=Br b (Q true fr) (g γ fr Q)
def testK(Q:Bool->FrL->Prop)(x:V)(fr:FrL):Prop:=match x with|.bool b=>Q b fr|_=>False
def ifK{β:Type}(f g:Pw β)(γ:Ct)(Q:β->FrL->Prop)(b:Bool)(fr:FrL):Prop:=Br b (f γ fr Q) (g γ fr Q)
noncomputable def fBoolV(f:FB):FV:=λγ fr Q=>f γ fr (boolK Q)
noncomputable def fNot(f:FB):FB:=λγ fr Q=>f γ fr (notK Q)
noncomputable def fTrue:FB:=λγ fr Q=>Q true fr
noncomputable def fFalse:FB:=λγ fr Q=>Q false fr
noncomputable def fAnd(f g:FB):FB:=λγ fr Q=>f γ fr (andK g γ Q)
noncomputable def fOr(f g:FB):FB:=λγ fr Q=>f γ fr (orK g γ Q)
noncomputable def fTest(f:FV):FB:=λγ fr Q=>f γ fr (testK Q)
noncomputable def fIf{β:Type}(t:FB)(f g:Pw β):Pw β:=λγ fr Q=>t γ fr (ifK f g γ Q)
inductive P(Z:Fx)(y:Gl)(b:Bool){α β:Type}(rel:Fx->Gl->FrL->Shared->β->α->Prop)(Q:β->FrL->Prop)(a:α)(s':Shared):Prop
 |mk (y':Gl) (fr':FrL) (w:β) (e:Ext Z b y y') (r:rel Z y' fr' s' w a) (q:Q w fr'):P Z y b rel Q a s'
def J(c:Cx)(k:Nat)(sc:Scope){α β:Type}(m:Env->Sem α)(f:Pw β)(b:Bool)(rel:Fx->Gl->FrL->Shared->β->α->Prop):Prop:=
 ∀Z y fr s Q,Fx.Ok k sc Z->St c Z y fr s->f ⟨c,k⟩ fr Q->wpAny c.M Z.A (m Z.env) (P Z y b rel Q) noE s
def OVal(y:Gl)(o:Ow)(val:Value):Prop:=match o with
 |.v x=>Rep y.g x val
 |.loc i=>val=.ref (y.L (.var i) 0)
 |.fld i k=>val=.ref (y.L (.var i) (k+2))
def RE(c:Cx)(Z:Fx)(y:Gl)(fr:FrL)(s:Shared)(w:Rw)(val:Value):Prop:=match w with
 |.v x=>St c Z y fr s/\Rep y.g x val
 |.fresh w=>St c (Z.push w) y fr s/\w.own=true/\val=.ref (y.L (.tmp Z.X.length) 0)
 |.loc i=>St c Z y fr s/\val=.ref (y.L (.var i) 0)
 |.fld i k=>St c Z y fr s/\val=.ref (y.L (.var i) (k+2))
def RV(c:Cx)(Z:Fx)(y:Gl)(fr:FrL)(s:Shared)(x:V)(val:Value):Prop:=St c Z y fr s/\Rep y.g x val
def RO(c:Cx)(Z:Fx)(y:Gl)(fr:FrL)(s:Shared)(o:Ow)(val:Value):Prop:=St c Z y fr s/\OVal y o val
def RB(c:Cx)(Z:Fx)(y:Gl)(fr:FrL)(s:Shared)(b b':Bool):Prop:=St c Z y fr s/\b=b'
def RVs(c:Cx)(n:Nat)(Z:Fx)(y:Gl)(fr:FrL)(s:Shared)(vs:List V)(xs:List Value):Prop:=(St c Z y fr s/\RepL y.g vs xs)/\xs.length=n
def OsOk(y:Gl):List Ow->List Value->Prop
 |[],xs=>xs=[]
 |o::os,xs=>CnAt (λv=>OVal y o v) (λvs=>OsOk y os vs) xs
def ROs(c:Cx)(Z:Fx)(y:Gl)(fr:FrL)(s:Shared)(os:List Ow)(xs:List Value):Prop:=St c Z y fr s/\OsOk y os xs
def RsOk(y:Gl):Nat->List Rz->List Value->Prop
 |_,[],xs=>xs=[]
 |n,.v x::rs,xs=>CnAt (λv=>Rep y.g x v) (λvs=>RsOk y n rs vs) xs
 |n,.fresh w::rs,xs=>CnAt (λv=>w.own=true/\v=.ref (y.L (.tmp n) 0)) (λvs=>RsOk y (n+1) rs vs) xs
noncomputable def mwsR:List Rz->List MW
 |[]=>[]
 |.v _::rs=>mwsR rs
 |.fresh w::rs=>w::mwsR rs
def RRs(c:Cx)(n:Nat)(Z:Fx)(y:Gl)(fr:FrL)(s:Shared)(rs:List Rz)(xs:List Value):Prop:=(St c {Z with X:=Z.X++mwsR rs} y fr s/\RsOk y Z.X.length rs xs)/\xs.length=n
section
variable(c:Cx)(k:Nat)(sc:Scope)
abbrev SE(e:Expr)(f:FE)(b:Bool):Prop:=J c k sc (λenv=>eval e env) f b (RE c)
abbrev SV(e:Expr)(f:FV)(b:Bool):Prop:=J c k sc (λenv=>eval e env) f b (RV c)
abbrev SO(e:Expr)(f:FO)(b:Bool):Prop:=J c k sc (λenv=>eval e env) f b (RO c)
abbrev SB(e:Expr)(f:FB)(b:Bool):Prop:=J c k sc (λenv=>isTrue e env (eval e env)) f b (RB c)
abbrev SVs(es:List Expr)(f:Pw (List V))(b:Bool):Prop:=∀pos,J c k sc (λenv=>spliced (backTo pos (starEach es env))) f b (RVs c es.length)
abbrev SOs(es:List Expr)(f:Pw (List Ow))(b:Bool):Prop:=∀pos,J c k sc (λenv=>spliced (backTo pos (starEach es env))) f b (ROs c)
abbrev SRs(es:List Expr)(f:Pw (List Rz))(b:Bool):Prop:=∀pos,J c k sc (λenv=>spliced (backTo pos (starEach es env))) f b (RRs c es.length)
end
section
variable{c:Cx}{k:Nat}{sc:Scope}{Z:Fx}{y y':Gl}{fr:FrL}{s:Shared}{α β:Type}{m:Env->Sem α}{f:Pw β}{b b1 b2:Bool}{rel:Fx->Gl->FrL->Shared->β->α->Prop}
theorem J.use(h:J c k sc m f b rel){Q:β->FrL->Prop}{R:α->Shared->Prop}{E:Value->Shared->Prop}(ok:Fx.Ok k sc Z)(S:St c Z y fr s)(q:f ⟨c,k⟩ fr Q)(t:∀y' fr' w a s',Ext Z b y y'->rel Z y' fr' s' w a->Q w fr'->R a s'):wpAny c.M Z.A (m Z.env) R E s:=
 wpAny_mono (h Z y fr s Q ok S q) (λa s' h=>by obtain⟨y',fr',w,e,r,q⟩:=h;exact t y' fr' w a s' e r q) λ_ _ x=>x.elim
theorem P.ext{rel:Fx->Gl->FrL->Shared->β->α->Prop}{Q:β->FrL->Prop}{a:α}(e:Ext Z b1 y y')(h:P Z y' b2 rel Q a s):P Z y (b1&&b2) rel Q a s:=by
 obtain⟨y2,fr',w,e2,r,q⟩:=h;exact⟨y2,fr',w,e.trans e2,r,q⟩
theorem deep.out{o:Ow}{X:Prop}(h:deep b o X):X/\(b=true∨∀i k,o≠.fld i k):=by
 cases o with
 |fld i k=>cases b with
  |true=>exact⟨h,.inl rfl⟩
  |false=>exact h.elim
 |_=>exact⟨h,.inr λ_ _ z=>nomatch z⟩
theorem OVal.keep{o:Ow}{val:Value}(e:Ext Z b y y')(hb:b=true∨∀i k,o≠.fld i k)(h:OVal y o val):OVal y' o val:=by
 cases o with
 |v x=>exact Rep.mono e.g.1 x h
 |loc i=>exact(h).trans (by rw[e.r0])
 |fld i k=>rcases hb with hb|hb
           ·exact(h).trans (by rw[e.r1 hb])
           ·exact absurd rfl (hb i k)
theorem Ext.and{b1 b2:Bool}(e:Ext Z b1 y y'):Ext Z (b1&&b2) y y':=e.trans (.refl Z b2 y')
theorem Ext.r{b1:Bool}{y2:Gl}(e:Ext Z b1 y y')(e2:Ext Z true y' y2):Ext Z b1 y y2:=by have:=e.trans e2;rwa[cu]at this
theorem fresh_none(h:Heap):h.get? h.objs.size=none:=by
 cases q:h.get? h.objs.size with
 |none=>rfl
 |some o=>exact absurd (Heap.lt_size q) (bQ _)
theorem purLoc{i:Nat}{Q:V->FrL->Prop}(h:purW (.loc i) fr Q):∃vs,getF fr i=some (.list vs)/\Q (.lst vs) (setF fr i (.v (.lst vs))):=by
 have h:(match getF fr i with|some w=>(match w with|.list vs=>Q (.lst vs) (setF fr i (.v (.lst vs)))|_=>False)|none=>False):=h;cases e:getF fr i with
 |none=>rw[e]at h;exact h.elim
 |some w=>
  replace h:=(e)▸h;cases w with
  |list vs=>exact iea vs rfl h
  |_=>exact h.elim
theorem pur_of{w:Rw}{val:Value}{Q:V->FrL->Prop}(r:RE c Z y fr s w val)(q:purW w fr Q):P Z y true (RV c) Q val s:=by
 cases w with
 |v x=>exact⟨y,fr,x,.refl _ _ _,r,q⟩
 |fresh w=>cases w with
  |list vs=>
   refine oaa r λS _ z_=>?_;refine z_▸?_;refine oeaa S.freezeTmp λg' S' ge r'=>?_;exact⟨_,fr,_,.ofg ge,⟨S',r'⟩,q⟩
  |_=>exact q.elim
 |loc i=>
  obtain⟨S,rfl⟩:=r;refine oea (purLoc q) λvs e q=>?_;refine oeaa (S.freezeVar e) λg' S' ge r'=>?_;exact⟨_,_,_,.ofg ge,⟨S',r'⟩,q⟩
 |fld i k=>exact q.elim
theorem SV.of{e:Expr}{f:FE}(h:SE c k sc e f b):SV c k sc e (fPur f) b:=by
 intro Z y fr s Q ok S q;refine h.use ok S q λy1 fr1 w val s1 e1 r1 q1=>?_;obtain⟨y2,fr2,x,e2,r2,q2⟩:=pur_of r1 q1;exact⟨y2,fr2,x,e1.r e2,r2,q2⟩
theorem SE.of{e:Expr}{f:FV}(h:SV c k sc e f b):SE c k sc e (fVal f) b:=by
 intro Z y fr s Q ok S q;exact h.use ok S q λy1 fr1 w val s1 e1 r1 q1=>⟨y1,fr1,.v w,e1,r1,q1⟩
theorem SO.ofV{e:Expr}{f:FV}(h:SV c k sc e f b):SO c k sc e (fOpV f) b:=by
 intro Z y fr s Q ok S q;exact h.use ok S q λy1 fr1 w val s1 e1 r1 q1=>⟨y1,fr1,.v w,e1,r1,q1⟩
theorem SO.of{e:Expr}{f:FE}(h:SE c k sc e f b):SO c k sc e (fOp f) b:=by
 intro Z y fr s Q ok S q;refine h.use ok S q λy1 fr1 w val s1 e1 r1 q1=>?_;cases w with
 |v x=>exact⟨y1,fr1,.v x,e1,r1,q1⟩
 |loc i=>exact⟨y1,fr1,.loc i,e1,r1,q1⟩
 |fld i k=>exact⟨y1,fr1,.fld i k,e1,r1,q1⟩
 |fresh w=>cases w with
  |list vs=>
   obtain⟨y2,fr2,x,e2,r2,q2⟩:=pur_of (Q:=λx fr'=>x=.lst vs/\fr'=fr1) r1 ⟨rfl,rfl⟩;clear r1;obtain⟨rfl,rfl⟩:=q2;exact⟨y2,fr2,.v (.lst vs),e1.r e2,⟨r2.1,r2.2⟩,q1⟩
  |_=>exact q1.elim
theorem loadVar{i:Nat}{w:MW}{Q E:Value->Shared->Prop}{A:Around}(S:St c Z y fr s)(hi:getF fr i=some w)(q:∀val,ValW y.g (y.L (.var i) 0) w val->Q val s):wpAny c.M A (loadName Z.env (nm i)) Q E s:=by
 refine oea S.vars λm hn hv=>?_;refine oea (hv i w hi) λval h1 h2=>?_;cases h1 with
 |loc h1 h3=>exact wpAny_loadName_local S.ok.kind h1 hn h3 (q val h2)
 |cell a h1 h4=>obtain⟨h1,h3⟩:=h1;exact wpAny_loadName_cell S.ok.kind h1 h3 h4 (q val h2)
set_option tactic.hygienic true in
theorem SE.name{i:Nat}{x:Str}{pos:Pos}(hx:nm i=x):SE c k sc (.Name x pos) (fName i) true:=by
 intro Z y fr s Q ok S q;subst hx;unfold fName at q;cases hi:getF fr i with
 |some w=>
  rw[hi]at q;refine wpAny_Name (loadVar S hi λval hv=>⟨y,fr,_,.refl _ _ _,?_,q⟩) (nm_dbg i);cases w<;>exact⟨S,hv⟩
 |none=>rw[hi]at q;exact q.elim
theorem baseAt(S:St c Z y fr s):∀b o,c.h₀.get? b=some o->s.heap.get? b=some o:=λb o e=>S.hs.keepK b o (S.hs.base b o e)
theorem kIn(S:St c Z y fr s):c.Kf.In s.heap:=c.hK.keeps (baseAt S)
def CV(c:Cx)(sc:Scope)(x:Str)(p:Pos)(v:Value):Prop:=∀Z y fr s (Q E:Value->Shared->Prop),Z.env.scope=sc->St c Z y fr s->Q v s->wpAny c.M Z.A (eval (.Name x p) Z.env) Q E s
theorem CV.glob{x:Str}{pos:Pos}{v:Value}(e:nsIn c.Kf mainGlobals x=some (some v))(hk:sc.names.lookup x=some .globalImplicit)(hd:(x==("__debug__":Str))=false):CV c sc x pos v:=by
 intro Z y fr s Q E hs S q;subst hs;exact Name_function_global S.ok.kind hk (loadGlobal_global (by rw[S.ok.globals];exact c.hT.g.keeps (baseAt S)) (mg_of c.hK c.hT.g e) q) hd
theorem CV.builtin{x:Str}{pos:Pos}{v:Value}(e:nsIn c.Kf mainGlobals x=some none)(hv:bootBuiltins x=some v)(hn:x≠"__name__")(hk:sc.names.lookup x=some .globalImplicit)(hd:(x==("__debug__":Str))=false):CV c sc x pos v:=by
 intro Z y fr s Q E hs S q;subst hs;exact Name_function_global S.ok.kind hk (loadGlobal_builtin (by rw[S.ok.globals];exact c.hT.g.keeps (baseAt S)) (mg_none_of c.hK c.hT.g e) (by rw[S.ok.builtins];exact c.hT.b.keeps (baseAt S)) ((c.hT.builtins x hn).trans hv) q) hd
theorem SV.int{i:Int}{kk:Nat}{pos:Pos}:SV c k sc (.Constant (.int i) kk pos) (fV (.int i)) true:=
 λZ y fr s Q ok S q=>wpAny_Constant_int ⟨y,fr,.int i,.refl _ _ _,⟨S.toks _,_,rfl⟩,q⟩
theorem SV.str{i:Str}{kk:Nat}{pos:Pos}:SV c k sc (.Constant (.str i) kk pos) (fV (.str i)) true:=
 λZ y fr s Q ok S q=>wpAny_Constant_str ⟨y,fr,.str i,.refl _ _ _,⟨S.toks _,_,rfl⟩,q⟩
theorem SV.bool{i:Bool}{kk:Nat}{pos:Pos}:SV c k sc (.Constant (.bool i) kk pos) (fV (.bool i)) true:=
 λZ y fr s Q ok S q=>wpAny_Constant_bool ⟨y,fr,.bool i,.refl _ _ _,⟨S,rfl⟩,q⟩
theorem SV.none{kk:Nat}{pos:Pos}:SV c k sc (.Constant .none kk pos) (fV .none) true:=
 λZ y fr s Q ok S q=>wpAny_Constant_none ⟨y,fr,.none,.refl _ _ _,⟨S,rfl⟩,q⟩
theorem spl_cons{M:Model}{A:Around}{x:Sem Value}{l rest:List (Bool×Sem Value)}{pos:Pos}{Q:List Value->Shared->Prop}{E:Value->Shared->Prop}(hl:l=(false,x)::rest)
 (h:wpAny M A x (λv s₁=>wpAny M A (spliced (backTo pos rest)) (λvs s₂=>Q (v::vs) s₂) E s₁) E s):wpAny M A (spliced (backTo pos l)) Q E s:=by
 subst hl;show wpAny M A (spliced ((false,x)::backTo pos rest)) Q E s;refine wpAny_bind (wpAny_mono h (λv s₁ h₁=>?_) λ_ _ x=>x);exact wpAny_bind (wpAny_pure (wpAny_bind (wpAny_holding (wpAny_mono h₁ (λvs s₂ h₂=>wpAny_pure h₂) λ_ _ x=>x))))
theorem SVs.nil:SVs c k sc [] fNil true:=λpos Z y fr s Q ok S q=>wpAny_pure ⟨y,fr,[],.refl _ _ _,⟨⟨S,rfl⟩,rfl⟩,q⟩
theorem SVs.cons{e:Expr}{es:List Expr}{f:FV}{fs:Pw (List V)}(hst:∀env,starEach (e::es) env=(false,eval e env)::starEach es env)(h:SV c k sc e f b1)(hs:SVs c k sc es fs b2):SVs c k sc (e::es) (fCons f fs) (b1&&b2):=by
 intro pos Z y fr s Q ok S q;refine spl_cons (hst _) (h.use ok S q λy1 fr1 x v s1 e1 r1 q1=>(hs pos).use ok r1.1 q1 λy2 fr2 xs vs s2 e2 r2 q2=>?_);exact⟨y2,fr2,x::xs,e1.trans e2,⟨⟨r2.1.1,_,_,rfl,r1.2.mono e2.g.1,r2.1.2⟩,congrArg bz r2.2⟩,q2⟩
theorem SOs.nil:SOs c k sc [] fNil true:=λpos Z y fr s Q ok S q=>wpAny_pure ⟨y,fr,[],.refl _ _ _,⟨S,rfl⟩,q⟩
theorem SOs.cons{e:Expr}{es:List Expr}{f:FO}{fs:Pw (List Ow)}(hst:∀env,starEach (e::es) env=(false,eval e env)::starEach es env)(h:SO c k sc e f b1)(hs:SOs c k sc es fs b2):SOs c k sc (e::es) (fOcons f fs b2) (b1&&b2):=by
 intro pos Z y fr s Q ok S q;refine spl_cons (hst _) (h.use ok S q λy1 fr1 x v s1 e1 r1 q1=>(hs pos).use ok r1.1 q1 λy2 fr2 xs vs s2 e2 r2 q2=>?_);have q3:=q2.out;exact⟨y2,fr2,x::xs,e1.trans e2,⟨r2.1,_,_,rfl,r1.2.keep e2 q3.2,r2.2⟩,q3.1⟩
theorem own_of{w:Rw}{val:Value}{Q:Rz->FrL->Prop}(r:RE c Z y fr s w val)(q:ownW w fr Q):P Z y true (λZ y fr s z val=>RE c Z y fr s (Rz.toRw z) val) Q val s:=by
 cases w with
 |v x=>exact⟨y,fr,.v x,.refl _ _ _,r,q⟩
 |fresh w=>exact⟨y,fr,.fresh w,.refl _ _ _,r,q⟩
 |loc i=>
  have q:purW (.loc i) fr λx fr=>Q (.v x) fr:=q;obtain⟨y2,fr2,x,e2,r2,q2⟩:=pur_of r q;exact⟨y2,fr2,.v x,e2,r2,q2⟩
 |fld i k=>exact q.elim
theorem SRs.nil:SRs c k sc [] fNil true:=λpos Z y fr s Q ok S q=>wpAny_pure ⟨y,fr,[],.refl _ _ _,⟨⟨by show St c {Z with X:=Z.X++[]} _ _ _;rw[aM];exact S,rfl⟩,rfl⟩,q⟩
theorem Ext.up{Z:Fx}{w:MW}(e:Ext (Z.push w) b y y'):Ext Z b y y':=⟨e.g,e.r0,e.r1,λj hj=>e.tm j (by show j<(Z.X++[w]).length;rw[aa];exact bT hj)⟩
theorem SRs.cons{e:Expr}{es:List Expr}{f:FE}{fs:Pw (List Rz)}(hst:∀env,starEach (e::es) env=(false,eval e env)::starEach es env)(h:SE c k sc e f b1)(hs:SRs c k sc es fs b2):SRs c k sc (e::es) (fRcons f fs) (b1&&b2):=by
 intro pos Z y fr s Q ok S q;refine spl_cons (hst _) (h.use ok S q λy1 fr1 w v s1 e1 r1 q1=>?_);obtain⟨y2,fr2,z,e2,r2,q2⟩:=own_of r1 q1;cases z with
 |v x=>
  refine(hs pos).use ok r2.1 q2 λy3 fr3 xs vs s3 e3 r3 q3=>?_;exact⟨y3,fr3,.v x::xs,(e1.r e2).trans e3,⟨⟨r3.1.1,_,_,rfl,r2.2.mono e3.g.1,r3.1.2⟩,congrArg bz r3.2⟩,q3⟩
 |fresh w=>
  refine oaa r2 λS2 hw hv=>?_;refine(hs pos).use (Z:=Z.push w) ⟨ok.sc,ok.rm⟩ S2 q2 λy3 fr3 xs vs s3 e3 r3 q3=>?_;obtain⟨⟨S3,r3⟩,l3⟩:=r3;have hl:(Z.X++[w]).length=Z.X.length+1:=aa;refine⟨y3,fr3,.fresh w::xs,(e1.r e2).trans e3.up,⟨⟨?_,_,_,rfl,⟨hw,hv.trans (by rw[e3.tm _ (by show _<(Z.X++[w]).length;rw[hl];exact br _)])⟩,by refine(hl)▸?_;exact r3⟩,congrArg bz l3⟩,q3⟩;rw[bg]at S3;exact S3
theorem St.tuple{vs:List V}{xs:List Value}{A:Around}{Q:Value->Shared->Prop}{E:Value->Shared->Prop}(S:St c Z y fr s)(r:RepL y.g vs xs)(hsz:xs.length<=sizeLine)
 (q:∀y' val s',Ext Z true y y'->RV c Z y' fr s' (.tup vs) val->Q val s'):wpAny c.M A (newTuple xs) Q E s:=by
 refine wpAny_newTuple ?_ hsz;refine oa (S.frozen (a:=s.heap.objs.size) (s':={s with heap:=s.heap.push {cls:=.type "tuple",data:=.seq xs.toArray}}) (.of (λb o e=>Heap.get?_push_of_some _ e) rfl rfl) (fresh_none _) (Heap.get?_push_size _ rfl)) λS' e=>?_;exact q _ _ _ e ⟨S',_,xs,0,rfl,GM.add_same _ _ _,r.mono e.g.1⟩
theorem St.list{vs:List V}{xs:List Value}{A:Around}{Q:Value->Shared->Prop}{E:Value->Shared->Prop}(S:St c Z y fr s)(r:RepL y.g vs xs)(hsz:xs.length<=sizeLine)
 (q:∀y' val s',Ext Z true y y'->RE c Z y' fr s' (.fresh (.list vs)) val->Q val s'):wpAny c.M A (newList xs) Q E s:=by
 refine wpAny_newList ?_ hsz;refine oa (S.addTmp (w:=.list vs) (A:=λ_=>s.heap.objs.size) (s':={s with heap:=s.heap.push {cls:=.type "list",data:=.seq xs.toArray}}) (.of (λb o e=>Heap.get?_push_of_some _ e) rfl rfl) (λn _=>fresh_none _)
  (λn hn n' hn' _=>(af.mp hn).trans (af.mp hn').symm) ⟨xs,0,Heap.get?_push_size _ rfl,r⟩) λS' e=>?_
 exact q _ _ _ e ⟨S',rfl,congrArg Value.ref (by show _=LM.put _ _ _ _ 0;rw[LM.put_same])⟩
theorem small_n{n:Nat}(h:n<=1000):n<=sizeLine:=by rw[sizeLine_eq];exact a6 (by assumption) (a5 rfl)
theorem SV.tuple{es:List Expr}{kk:Nat}{pos:Pos}{fs:Pw (List V)}(h:SVs c k sc es fs b)(hl:es.length<=1000):SV c k sc (.Tuple es kk pos) (fTup fs) b:=by
 intro Z y fr s Q ok S q;refine Tuple_ ((h pos).use ok S q λy1 fr1 vs xs s1 e1 r1 q1=>?_);exact r1.1.1.tuple r1.1.2 (by rw[r1.2];exact small_n hl) λy2 val s2 e2 r2=>⟨y2,fr1,_,e1.r e2,r2,q1⟩
theorem SE.list{es:List Expr}{pos:Pos}{fs:Pw (List V)}(h:SVs c k sc es fs b)(hl:es.length<=1000):SE c k sc (.List es pos) (fLst fs) b:=by
 intro Z y fr s Q ok S q;refine List_ ((h pos).use ok S q λy1 fr1 vs xs s1 e1 r1 q1=>?_);exact r1.1.1.list r1.1.2 (by rw[r1.2];exact small_n hl) λy2 val s2 e2 r2=>⟨y2,fr1,.fresh (.list vs),e1.r e2,r2,q1⟩
end
noncomputable def idx?(i:Int)(n:Nat):Option Nat:=if 0<=i then(if i.toNat<n then some i.toNat else none)else if(-i).toNat<=n then some (n-(-i).toNat)else none
def rdW(fr:FrL)(o:Ow)(q:V->Prop):Prop:=match o with
 |.v x=>q x
 |o=>match plW fr o with
  |some w=>(match w with|.list vs=>q (.lst vs)|_=>False)
  |none=>False
noncomputable def dictW(fr:FrL)(o:Ow):Option (List (Int×V)):=match plW fr o with
 |some w=>(match w with|.dict es=>some es|_=>none)
 |none=>none
def intW(o:Ow)(q:Int->Prop):Prop:=match o with
 |.v x=>(match x with|.int i=>q i|_=>False)
 |_=>False
def inD(op:CmpOp)(b:Bool)(q:Bool->Prop):Prop:=match op with
 |.In=>q b
 |.NotIn=>q (!b)
 |_=>False
def cmpW(op:CmpOp)(fr:FrL)(o1 o2:Ow)(q:Bool->Prop):Prop:=match dictW fr o2 with
 |some es=>intW o1 λi=>inD op ((es.map (·.1)).contains i) q
 |none=>rdW fr o1 λx=>rdW fr o2 λy=>cmpV op x y q
noncomputable def itemAt(vs:List V)(i:Int):Option V:=if i.natAbs<=1000000 then match idx? i vs.length with
 |some j=>vs[j]?
 |none=>none
 else none
def itemV(x y:V)(q:V->Prop):Prop:=match y with
 |.int i=>(match x with
  |.tup vs=>It (itemAt vs i) q
  |.lst vs=>It (itemAt vs i) q
  |_=>False)
 |_=>False
def itemW(fr:FrL)(o1 o2:Ow)(q:V->Prop):Prop:=match dictW fr o1 with
 |some es=>intW o2 λi=>It (es.lookup i) q
 |none=>rdW fr o1 λx=>rdW fr o2 λy=>itemV x y q
def binV(op:Operator)(x y:V)(q:Rw->Prop):Prop:=match op with
 |.Add=>(match x with
  |.int a=>(match y with|.int b=>q (.v (.int (a+b)))|_=>False)
  |.tup a=>(match y with|.tup b=>Sz (a.length+b.length) 4096 (q (.v (.tup (a++b))))|_=>False)
  |.lst a=>(match y with|.lst b=>Sz (a.length+b.length) 4096 (q (.v (.lst (a++b))))|_=>False)
  |_=>False)
 |.Sub=>int2 x y λa b=>q (.v (.int (a-b)))
 |.Mult=>(match y with
  |.int n=>(match x with
   |.int a=>Sz a.natAbs 1000000 (q (.v (.int (a*n))))
   |.lst vs=>(match vs with|[z]=>Sz n.natAbs 4096 (q (.fresh (.list (aQ n.toNat z))))|_=>False)
   |_=>False)
  |_=>False)
 |.Mod=>int2 x y λa b=>Pr (b≠0) (q (.v (.int (a.fmod b))))
 |_=>False
def f2K2(b2:Bool)(P:FrL->Ow->Ow->Prop)(o1 o2:Ow)(fr:FrL):Prop:=deep b2 o1 (P fr o1 o2)
def f2K(g:FO)(b2:Bool)(γ:Ct)(P:FrL->Ow->Ow->Prop)(o1:Ow)(fr:FrL):Prop:=g γ fr (f2K2 b2 P o1)
def f2(γ:Ct)(f g:FO)(b2:Bool)(P:FrL->Ow->Ow->Prop)(fr:FrL):Prop:=f γ fr (f2K g b2 γ P)
def cmpK(op:CmpOp)(Q:Bool->FrL->Prop)(fr:FrL)(o1 o2:Ow):Prop:=cmpW op fr o1 o2 (atF Q fr)
def cmpK3(op2:CmpOp)(b3:Bool)(Q:Bool->FrL->Prop)(o2 o3:Ow)(fr:FrL):Prop:=deep b3 o2 (cmpW op2 fr o2 o3 (atF Q fr))
def cmpK2(op2:CmpOp)(h:FO)(b3:Bool)(γ:Ct)(Q:Bool->FrL->Prop)(fr:FrL)(o2:Ow)(b:Bool):Prop:=Br b (h γ fr (cmpK3 op2 b3 Q o2)) (Q false fr)
def cmpK1(op1 op2:CmpOp)(h:FO)(b3:Bool)(γ:Ct)(Q:Bool->FrL->Prop)(fr:FrL)(o1 o2:Ow):Prop:=cmpW op1 fr o1 o2 (cmpK2 op2 h b3 γ Q fr o2)
def itemK(Q:V->FrL->Prop)(fr:FrL)(o1 o2:Ow):Prop:=itemW fr o1 o2 (atF Q fr)
def binK(op:Operator)(Q:Rw->FrL->Prop)(fr:FrL)(o1 o2:Ow):Prop:=rdW fr o1 λx=>rdW fr o2 λy=>binV op x y (atF Q fr)
noncomputable def fCmp(op:CmpOp)(f g:FO)(b2:Bool):FB:=λγ fr Q=>f2 γ f g b2 (cmpK op Q) fr
noncomputable def fCmp2(op1 op2:CmpOp)(f g h:FO)(b2 b3:Bool):FB:=λγ fr Q=>f2 γ f g b2 (cmpK1 op1 op2 h b3 γ Q) fr
noncomputable def fItem(f g:FO)(b2:Bool):FV:=λγ fr Q=>f2 γ f g b2 (itemK Q) fr
noncomputable def fBin(op:Operator)(f g:FO)(b2:Bool):FE:=λγ fr Q=>f2 γ f g b2 (binK op Q) fr
noncomputable def fNeg(f:FV):FV:=λγ fr Q=>f γ fr λx fr1=>match x with|.int i=>Q (.int (-i)) fr1|_=>False
noncomputable def adr(y:Gl)(o:Ow):Addr:=match o with
 |.v _=>0
 |.loc i=>y.L (.var i) 0
 |.fld i k=>y.L (.var i) (k+2)
section
variable{c:Cx}{k:Nat}{sc:Scope}{Z:Fx}{y y':Gl}{fr:FrL}{s:Shared}{A:Around}{o o1 o2:Ow}{x v1 v2:Value}{w:MW}{Q E:Value->Shared->Prop}
theorem Flds.get{h:Heap}{g:GM}{B:Nat->Addr}{i:Nat}{w:MW}:∀{ks:List Nat} {ws:List MW} {ds:List DictEntry},Flds c h g B ks ws ds->lookK ks ws i=some w->∃e,FldAt c h g (B (i+2)) i w e/\ds.find? (·.key.isStr (nm i))=some e:=by
 intro ks
 induction ks with
 |nil=>intro ws ds f e;cases ws<;>exact nos e
 |cons j ks ih=>
  intro ws ds f e;cases ws with
  |nil=>exact nos e
  |cons w0 ws=>
   cases ds with
   |nil=>exact f.elim
   |cons d ds=>
    replace e:=(lookK_c)▸e;have hk:d.key.isStr (nm i)=aT i j:=by
     obtain⟨t,e4,_⟩:=f.1;rw[e4];show(nm j==nm i)=aT i j;cases q:aT i j with
     |true=>rw[az q];exact beq_self_eq_true _
     |false=>rw[beq_eq_false_iff_ne];exact λz=>bG q (nm_inj _ _ z).symm
    cases q:aT i j with
    |true=>
     rw[q]at e hk;refine(ab.inj e)▸?_;refine(az q).symm▸?_;refine iea d f.1 ?_;rw[eO];refine(az q)▸?_;exact hk
    |false=>
     rw[q]at e hk;refine oea (ih f.2 e) λe' h1 h2=>?_;exact iea e' h1 (by rw[dw (by rw[hk];exact cE)];exact h2)
theorem St.objAt(S:St c Z y fr s){i C:Nat}{ks:List Nat}{ws:List MW}(e:getF fr i=some (.obj C ks ws)):ObjAt c s.heap y.g (y.L (.var i)) C ks ws:=S.hs.node (.var i) _ e
theorem OVal.adr(h:OVal y o x)(e:plW fr o=some w):x=.ref (adr y o):=by
 cases o with
 |v x=>exact nos e
 |_=>exact h
theorem plFld{i j:Nat}{w:MW}(e:plW fr (.fld i j)=some w):∃C ks ws,getF fr i=some (.obj C ks ws)/\lookK ks ws j=some w:=by
 have e:(match getF fr i with|some (.obj _ ks ws)=>lookK ks ws j|_=>none)=some w:=e;cases q:getF fr i with
 |none=>replace e:=(q)▸e;exact nos e
 |some w0=>
  replace e:=(q)▸e;cases w0 with
  |obj C ks ws=>exact ieeea C ks ws rfl e
  |_=>exact nos e
theorem St.leaf(S:St c Z y fr s)(e:plW fr o=some w)(hw:∀C ks ws,w≠.obj C ks ws):LeafAt c s.heap y.g (adr y o) w:=by
 cases o with
 |v x=>exact nos e
 |loc i=>
  have:=S.hs.node (.var i) w e;cases w with
  |obj C ks ws=>exact absurd rfl (hw C ks ws)
  |_=>exact this
 |fld i j=>
  refine oeeea (plFld e) λC ks ws q e=>?_;obtain⟨ds,n,_,_,_,f⟩:=S.objAt q;refine oea (f.get e) λd z_ _=>?_;obtain⟨t,_,_,_,l⟩:=z_;exact l
theorem St.listAt{vs:List V}(S:St c Z y fr s)(e:plW fr o=some (.list vs)):LstAt s.heap y.g (adr y o) vs:=S.leaf e λ_ _ _ z=>nomatch z
theorem St.dictAt{es:List (Int×V)}(S:St c Z y fr s)(e:plW fr o=some (.dict es)):DicAt c s.heap y.g (adr y o) es:=S.leaf e λ_ _ _ z=>nomatch z
theorem rd_ok{q:V->Prop}(S:St c Z y fr s)(h:OVal y o x)(hq:rdW fr o q):∃v,Rd s.heap y.g v x/\q v:=by
 have pl:(match plW fr o with|some w=>(match w with|.list vs=>q (.lst vs)|_=>False)|none=>False)->∃v,Rd s.heap y.g v x/\q v:=λhq=>by
  cases e:plW fr o with
  |none=>replace hq:=(e)▸hq;exact hq.elim
  |some w=>
   replace hq:=(e)▸hq;cases w with
   |list vs=>exact⟨.lst vs,.own _ vs rfl (h.adr e) (S.listAt e),hq⟩
   |_=>exact hq.elim
 cases o with
 |v v=>exact⟨v,.rep h,hq⟩
 |_=>exact pl hq
set_option tactic.hygienic true in
theorem dictW_out{es:List (Int×V)}(e:dictW fr o=some es):plW fr o=some (.dict es):=by
 unfold dictW at e;cases q:plW fr o with
 |some w=>
  rw[q]at e;cases w with
  |dict es'=>refine(ab.inj e)▸?_;exact q▸rfl
  |_=>exact nos e
 |none=>rw[q]at e;exact nos e
theorem int_of{q:Int->Prop}(h:OVal y o x)(hq:intW o q):∃i t,o=.v (.int i)/\x=.int i t/\q i:=by
 cases o with
 |v v=>cases v with
  |int i=>refine oe h λt e=>?_;exact ieeaa i t rfl e hq
  |_=>exact hq.elim
 |_=>exact hq.elim
theorem two{α:Type}{e1 e2:Expr}{f g:FO}{b1 b2:Bool}{h:Value->Value->Sem α}{P:FrL->Ow->Ow->Prop}{R:α->Shared->Prop}{E:Value->Shared->Prop}(hl:SO c k sc e1 f b1)(hr:SO c k sc e2 g b2)(ok:Fx.Ok k sc Z)(S:St c Z y fr s)(q:f2 ⟨c,k⟩ f g b2 P fr)
 (H:∀y' fr' o1 o2 v1 v2 s',Ext Z (b1&&b2) y y'->St c Z y' fr' s'->OVal y' o1 v1->OVal y' o2 v2->P fr' o1 o2->wpAny c.M Z.A (h v1 v2) R E s'):
 wpAny c.M Z.A (eval e1 Z.env) (λx s1=>wpAny c.M Z.A (eval e2 Z.env) (λy s2=>wpAny c.M Z.A (h x y) R E s2) E s1) E s:=
 hl.use ok S q λy1 fr1 o1 v1 s1 x1 r1 q1=>hr.use ok r1.1 q1 λy2 fr2 o2 v2 s2 x2 r2 q2=>H y2 fr2 o1 o2 v1 v2 s2 (x1.trans x2) r2.1 (r1.2.keep x2 q2.out.2) r2.2 q2.out.1
theorem valueAt_isSome(i:Int)(kvs:List (Int×Value)):(valueAt kvs i).isSome=(kvs.map (·.1)).contains i:=by
 unfold valueAt
 induction kvs with
 |nil=>rfl
 |cons x r ih=>
  obtain⟨k,v⟩:=x;by_cases h:k=i
  ·subst h;simp
  ·have:(i==k)=false:=by simpa using Ne.symm h
   simp only[List.find?_cons,h,decide_false,aD,d6,this,Bool.false_or];exact ih
theorem cmpO_ok{op:CmpOp}{q:Bool->Prop}(S:St c Z y fr s)(r1:OVal y o1 v1)(r2:OVal y o2 v2)(hu:A.units+64<cLine)(h:cmpW op fr o1 o2 q)(hQ:∀r s',St c Z y fr s'->q r->Q (.bool r) s'):wpAny c.M A (compareOp op v1 v2) Q E s:=by
 unfold cmpW at h;cases ed:dictW fr o2 with
 |some es=>
  simp only[ed]at h;have ed:=dictW_out ed;refine oeeaa (int_of r1 h) λi t z_ z9_ h=>?_;subst z_;refine z9_▸?_;obtain⟨ne,kvs,hd,hk,_⟩:=S.dictAt ed;have r2:=r2.adr ed;refine r2▸?_;have key:=hd.mapOf;have e:(valueAt kvs i).isSome=(es.map (·.1)).contains i:=by rw[valueAt_isSome,hk]
  cases op with
  |In=>exact wpAny_in_of (knd:=intKind c.prog c.w) (k:=i) (by simp[intKind,Value.isInt]) (by simpa using ne) key (hQ _ _ (S.toks _) (by rw[e];exact h))
  |NotIn=>exact wpAny_notIn_of (knd:=intKind c.prog c.w) (k:=i) (by simp[intKind,Value.isInt]) (by simpa using ne) key (hQ _ _ (S.toks _) (by rw[e];exact h))
  |_=>exact h.elim
 |none=>
  replace h:=(ed)▸h;refine oea (rd_ok S r1 h) λu1 a1 h=>?_;refine oea (rd_ok S r2 h) λu2 a2 h=>?_;exact cmp_ok S.hs.keepg hu a1 a2 h λr hr=>hQ r s S hr
variable{e1 e2 e3:Expr}{f g h:FO}{b b1 b2 b3:Bool}{pos:Pos}
theorem SB.cmp{op:CmpOp}(hl:SO c k sc e1 f b1)(hr:SO c k sc e2 g b2)(hm:behindInMarks op e2=false):SB c k sc (.Compare e1 [op] [e2] pos) (fCmp op f g b2) (b1&&b2):=by
 intro Z y fr s Q ok S q;refine wpAny_isTrue_Compare1 (two hl hr ok S q λy' fr' o1 o2 v1 v2 s' x S' r1 r2 p=>?_) hm;exact cmpO_ok S' r1 r2 ok.rm.line p λb s2 S2 qb=>wpAny_truthy_bool ⟨y',fr',b,x,⟨S2,rfl⟩,qb⟩
theorem SV.cmp{op:CmpOp}(hl:SO c k sc e1 f b1)(hr:SO c k sc e2 g b2)(hm:behindInMarks op e2=false):SV c k sc (.Compare e1 [op] [e2] pos) (fBoolV (fCmp op f g b2)) (b1&&b2):=by
 intro Z y fr s Q ok S q;refine wpAny_Compare1 (two hl hr ok S q λy' fr' o1 o2 v1 v2 s' x S' r1 r2 p=>?_) hm;exact cmpO_ok S' r1 r2 ok.rm.line p λb s2 S2 qb=>⟨y',fr',.bool b,x,⟨S2,rfl⟩,qb⟩
theorem SB.cmp2{op1 op2:CmpOp}(hl:SO c k sc e1 f b1)(hr:SO c k sc e2 g b2)(ht:SO c k sc e3 h b3)(hm:lastMarks [op1,op2] [e2,e3]=false):SB c k sc (.Compare e1 [op1,op2] [e2,e3] pos) (fCmp2 op1 op2 f g h b2 b3) (b1&&b2&&b3):=by
 intro Z y fr s Q ok S q;refine isTrue_chain (ops:=[]) (rs:=[]) (hl.use ok S q λy1 fr1 o1 v1 s1 x1 r1 q1=>?_) hm;refine test_link (hr.use ok r1.1 q1 λy2 fr2 o2 v2 s2 x2 r2 q2=>?_);refine cmpO_ok r2.1 (r1.2.keep x2 q2.out.2) r2.2 ok.rm.line q2.out.1 λb s3 S3 qb=>wpAny_truthy_bool ?_;cases b with
 |false=>exact⟨y2,fr2,false,(x1.trans x2).and,⟨S3,rfl⟩,qb.f⟩
 |true=>
  refine test_last (ht.use ok S3 qb.t λy4 fr4 o4 v4 s4 x4 r4 q4=>?_);exact cmpO_ok r4.1 (r2.2.keep x4 q4.out.2) r4.2 ok.rm.line q4.out.1 λb s5 S5 qb=>wpAny_truthy_bool ⟨y4,fr4,b,(x1.trans x2).trans x4,⟨S5,rfl⟩,qb⟩
variable{fb gb:FB}{fv gv:FV}{fe ge:FE}{e:Expr}{es:List Expr}
theorem SB.not(h:SB c k sc e fb b):SB c k sc (.UnaryOp .Not e pos) (fNot fb) b:=by
 intro Z y fr s Q ok S q;refine wpAny_isTrue_Not (h.use ok S q λy1 fr1 w a s1 x1 r1 q1=>?_);obtain⟨S1,rfl⟩:=r1;exact⟨y1,fr1,_,x1,⟨S1,rfl⟩,q1⟩
abbrev SBs(c:Cx)(k:Nat)(sc:Scope)(op:BoolOp)(es:List Expr)(f:FB)(b:Bool):Prop:=J c k sc (λenv=>allTrue op es env) f b (RB c)
theorem SBs.and_nil:SBs c k sc .And [] fTrue true:=λZ y fr s Q ok S q=>wpAny_pure ⟨y,fr,true,.refl _ _ _,⟨S,rfl⟩,q⟩
theorem SBs.or_nil:SBs c k sc .Or [] fFalse true:=λZ y fr s Q ok S q=>wpAny_pure ⟨y,fr,false,.refl _ _ _,⟨S,rfl⟩,q⟩
theorem SBs.and_cons(h:SB c k sc e fb b1)(hs:SBs c k sc .And es gb b2):SBs c k sc .And (e::es) (fAnd fb gb) (b1&&b2):=by
 intro Z y fr s Q ok S q;refine wpAny_allTrue_And_cons (h.use ok S q λy1 fr1 w a s1 x1 r1 q1=>?_);obtain⟨S1,rfl⟩:=r1;cases w with
 |true=>exact wpAny_mono (hs Z y1 fr1 s1 Q ok S1 q1.t) (λ_ _ h=>h.ext x1) λ_ _ h=>h
 |false=>exact⟨y1,fr1,false,x1.and,⟨S1,rfl⟩,q1.f⟩
theorem SBs.or_cons(h:SB c k sc e fb b1)(hs:SBs c k sc .Or es gb b2):SBs c k sc .Or (e::es) (fOr fb gb) (b1&&b2):=by
 intro Z y fr s Q ok S q;refine wpAny_allTrue_Or_cons (h.use ok S q λy1 fr1 w a s1 x1 r1 q1=>?_);obtain⟨S1,rfl⟩:=r1;cases w with
 |false=>exact wpAny_mono (hs Z y1 fr1 s1 Q ok S1 q1.f) (λ_ _ h=>h.ext x1) λ_ _ h=>h
 |true=>exact⟨y1,fr1,true,x1.and,⟨S1,rfl⟩,q1.t⟩
theorem SB.bool{op:BoolOp}(h:SBs c k sc op es fb b):SB c k sc (.BoolOp op es pos) fb b:=λZ y fr s Q ok S q=>wpAny_isTrue_BoolOp (h Z y fr s Q ok S q)
theorem test_of{Q:Bool->FrL->Prop}{x:V}(h:match x with|.bool b=>Q b fr|_=>False):∃b,x=.bool b/\Q b fr:=by
 cases x with
 |bool b=>exact iea b rfl h
 |_=>exact h.elim
theorem SB.ofV(h:SV c k sc e fv b)(hw:∀env whole,PySem.isTrue e env whole=(do let v ←whole;standAt e.pos;holding [v] (truthy v))):SB c k sc e (fTest fv) b:=by
 intro Z y fr s Q ok S q;refine wpAny_isTrue_value (h.use ok S q λy1 fr1 w a s1 x1 r1 q1=>?_) (hw _ _);refine oea (test_of q1) λb z_ q2=>?_;subst z_;obtain⟨S1,rfl⟩:=r1;exact wpAny_truthy_bool ⟨y1,fr1,b,x1,⟨S1,rfl⟩,q2⟩
def RVB(c:Cx)(Z:Fx)(y:Gl)(fr:FrL)(s:Shared)(b:Bool)(val:Value):Prop:=St c Z y fr s/\val=.bool b
abbrev SVB(c:Cx)(k:Nat)(sc:Scope)(op:BoolOp)(es:List Expr)(f:FB)(b:Bool):Prop:=∀pos,J c k sc (λenv=>boolOp pos op (evalEach es env)) f b (RVB c)
theorem SVB.one{op:BoolOp}(h:SV c k sc e fv b):SVB c k sc op [e] (fTest fv) b:=by
 intro pos Z y fr s Q ok S q;refine h.use ok S q λy1 fr1 w a s1 x1 r1 q1=>?_;refine oea (test_of q1) λb z_ q2=>?_;subst z_;obtain⟨S1,rfl⟩:=r1;exact⟨y1,fr1,b,x1,⟨S1,rfl⟩,q2⟩
set_option backward.match.sparseCases true in
theorem SVB.and(h:SV c k sc e fv b1)(hs:SVB c k sc .And (e2::es) gb b2):SVB c k sc .And (e::e2::es) (fAnd (fTest fv) gb) (b1&&b2):=by
 intro pos Z y fr s Q ok S q;show wpAny c.M Z.A (do
  let v ←eval e Z.env
  standAt pos
  let t ←holding [v] (truthy v)
  match BoolOp.And,t with
  |.And,false|.Or,true=>pure v
  |_,_=>boolOp pos .And (evalEach (e2::es) Z.env)) _ _ s
 refine wpAny_bind (h.use ok S q λy1 fr1 w a s1 x1 r1 q1=>?_);refine oea (test_of (Q:=λb fr1=>Br b (gb ⟨c,k⟩ fr1 Q) (Q false fr1)) q1) λb z_ q2=>?_;subst z_;clear q1;obtain⟨S1,rfl⟩:=r1;refine wpAny_bind (wpAny_standAt (wpAny_bind (wpAny_holding (wpAny_truthy_bool ?_))));cases b with
 |false=>exact wpAny_pure ⟨y1,fr1,false,x1.and,⟨S1,rfl⟩,q2.f⟩
 |true=>exact wpAny_mono (hs pos Z y1 fr1 s1 Q ok S1 q2.t) (λ_ _ h=>h.ext x1) λ_ _ h=>h
set_option backward.match.sparseCases true in
theorem SVB.or(h:SV c k sc e fv b1)(hs:SVB c k sc .Or (e2::es) gb b2):SVB c k sc .Or (e::e2::es) (fOr (fTest fv) gb) (b1&&b2):=by
 intro pos Z y fr s Q ok S q;show wpAny c.M Z.A (do
  let v ←eval e Z.env
  standAt pos
  let t ←holding [v] (truthy v)
  match BoolOp.Or,t with
  |.And,false|.Or,true=>pure v
  |_,_=>boolOp pos .Or (evalEach (e2::es) Z.env)) _ _ s
 refine wpAny_bind (h.use ok S q λy1 fr1 w a s1 x1 r1 q1=>?_);refine oea (test_of (Q:=λb fr1=>Br b (Q true fr1) (gb ⟨c,k⟩ fr1 Q)) q1) λb z_ q2=>?_;subst z_;clear q1;obtain⟨S1,rfl⟩:=r1;refine wpAny_bind (wpAny_standAt (wpAny_bind (wpAny_holding (wpAny_truthy_bool ?_))));cases b with
 |true=>exact wpAny_pure ⟨y1,fr1,true,x1.and,⟨S1,rfl⟩,q2.t⟩
 |false=>exact wpAny_mono (hs pos Z y1 fr1 s1 Q ok S1 q2.f) (λ_ _ h=>h.ext x1) λ_ _ h=>h
theorem SV.bool_{op:BoolOp}(h:SVB c k sc op es fb b):SV c k sc (.BoolOp op es pos) (fBoolV fb) b:=by
 intro Z y fr s Q ok S q;refine(h pos).use ok S q λy1 fr1 w a s1 x1 r1 q1=>?_;exact⟨y1,fr1,.bool w,x1,r1,q1⟩
theorem SV.not(h:SV c k sc e fv b):SV c k sc (.UnaryOp .Not e pos) (fBoolV (fNot (fTest fv))) b:=by
 intro Z y fr s Q ok S q;refine wpAny_UnaryOp (h.use ok S q λy1 fr1 w a s1 x1 r1 q1=>?_);refine oea (test_of (Q:=λb fr=>Q (.bool (!b)) fr) q1) λb z_ q2=>?_;subst z_;obtain⟨S1,rfl⟩:=r1;exact not_of (wpAny_truthy_bool ⟨y1,fr1,.bool (!b),x1,⟨S1,rfl⟩,q2⟩)
theorem J.ifExp{β:Type}{t x1 x2:Expr}{f g:Pw β}{rel:Fx->Gl->FrL->Shared->β->Value->Prop}(ht:SB c k sc t fb b1)(h1:J c k sc (λenv=>eval x1 env) f b2 rel)(h2:J c k sc (λenv=>eval x2 env) g b3 rel):J c k sc (λenv=>eval (.IfExp t x1 x2 pos) env) (fIf fb f g) (b1&&(b2&&b3)) rel:=by
 intro Z y fr s Q ok S q;refine wpAny_IfExp (ht.use ok S q λy1 fr1 w a s1 x1 r1 q1=>?_);obtain⟨S1,rfl⟩:=r1;cases w with
 |true=>exact wpAny_mono (h1 Z y1 fr1 s1 Q ok S1 q1.t) (λ_ _ h=>by have:=h.ext x1;obtain⟨y2,fr2,w,e,r,q⟩:=this;exact⟨y2,fr2,w,by have:=e.trans (.refl Z b3 y2);rwa[Bool.and_assoc]at this,r,q⟩) λ_ _ h=>h
 |false=>exact wpAny_mono (h2 Z y1 fr1 s1 Q ok S1 q1.f) (λ_ _ h=>by obtain⟨y2,fr2,w,e,r,q⟩:=h;exact⟨y2,fr2,w,by have:=x1.trans ((Ext.refl Z b2 y1).trans e);exact this,r,q⟩) λ_ _ h=>h
theorem SE.ifExp{t x1 x2:Expr}(ht:SB c k sc t fb b1)(h1:SE c k sc x1 fe b2)(h2:SE c k sc x2 ge b3):SE c k sc (.IfExp t x1 x2 pos) (fIf fb fe ge) (b1&&(b2&&b3)):=J.ifExp ht h1 h2
end
noncomputable def allN(h₀ h:Heap)(L:Addr):List (Addr×Obj):=(ao h.objs.size).filterMap λa=>if a=L then none else match h₀.get? a with
 |some _=>none
 |none=>(h.get? a).map λo=>(a,o)
theorem allN_news(h₀ h:Heap)(L:Addr):News h₀ L h (allN h₀ h L):=by
 intro p hp;refine oea (fB.mp hp) λa _ e=>?_;clear hp;split at e
 ·exact nos e
 ·cases z:h₀.get? a with
  |some o=>rw[z]at e;exact nos e
  |none=>
   rw[z]at e;refine oea (dj.mp e) λo e1 z_=>?_;refine z_▸?_;exact⟨e1,‹_›,‹_›⟩
theorem allN_mem{h₀ h:Heap}{L a:Addr}{o:Obj}(e:h.get? a=some o)(n:a≠L)(n0:h₀.get? a=none):(a,o)∈allN h₀ h L:=
 fB.mpr ⟨a,aC.mpr (Heap.lt_size e),by rw[if_neg n,n0];show(h.get? a).map _=_;rw[e];rfl⟩
theorem ns_unique{h:Heap}{a:Addr}{m m':Str->Option Value}(h1:h.Ns a m)(h2:h.Ns a m'):m=m':=by
 obtain⟨o1,es1,ep1,a1,b1,_,d1⟩:=h1;obtain⟨o2,es2,ep2,a2,b2,_,d2⟩:=h2;replace a2:=(a1)▸a2;obtain rfl:=ab.inj a2;replace b2:=(b1)▸b2;injection b2 with b2;subst b2
 funext x;rw[←d1,←d2]
section
variable{c:Cx}{k:Nat}{sc:Scope}{Z:Fx}{y y':Gl}{fr:FrL}{s:Shared}{A:Around}{o o1 o2:Ow}{x v1 v2:Value}{w:MW}{Q E:Value->Shared->Prop}
theorem St.frD(S:St c Z y fr s)(D:Addr):∃m,Fr c.h₀ Z.env.locals s.heap m/\∀news',(∀p∈allN c.h₀ s.heap Z.env.locals,p.1≠D->p∈news')->∀h',Fr c.h₀ Z.env.locals h' m->News c.h₀ Z.env.locals h' news'->
 (∀b o,b≠D->b≠Z.env.locals->s.heap.get? b=some o->h'.get? b=some o)/\(∀m,s.heap.Ns Z.env.locals m->h'.Ns Z.env.locals m)/\(h'.get? Z.env.locals).isSome=true:=by
 refine oea S.vars λm hn hv=>?_;refine iea m ⟨hn,baseAt S,S.ok.above⟩ (λnews' sub h' F' N'=>⟨λb o nd n e=>?_,λm' hm=>?_,?_⟩)
 ·cases q:c.h₀.get? b with
  |some o'=>
   have e':=baseAt S b o' q;replace e':=(e)▸e';obtain rfl:=ab.inj e';exact F'.keep b o q
  |none=>exact(N' _ (sub _ (allN_mem e n q) nd)).1
 ·rw[ns_unique hm hn];exact F'.ns
 ·refine oeeea F'.ns λo _ _ ho _=>?_;rw[ho];rfl
theorem St.frN(S:St c Z y fr s):∃m,Fr c.h₀ Z.env.locals s.heap m/\News c.h₀ Z.env.locals s.heap (allN c.h₀ s.heap Z.env.locals)/\
 ∀news',(∀p∈allN c.h₀ s.heap Z.env.locals,p∈news')->∀h' tk,Fr c.h₀ Z.env.locals h' m->News c.h₀ Z.env.locals h' news'->Kp Z.env.locals s {s with heap:=h',toks:=tk}:=by
 refine oea (S.frD s.heap.objs.size) λm F back=>?_;refine ieaa m F (allN_news _ _ _) (λnews' sub h' tk F' N'=>?_);refine oaa (back news' (λp hp _=>sub p hp) h' F' N') λh1 h2 h3=>?_;exact⟨λb o n e=>h1 b o (aY (Heap.lt_size e)) n e,h2,λ_=>h3,rfl,rfl⟩
theorem mulOk{a b:Int}(ha:a.natAbs<=1000000):IntMulOk a b:=by
 refine IntMulOk.of_left ?_;unfold Builtin.Int.intBits;split
 ·exact a5 rfl
 ·rename_i h;have h0:a.natAbs≠0:=by intro e;exact h (beq_iff_eq.mpr (Int.natAbs_eq_zero.mp e))
  exact(Nat.log2_lt h0).mpr (aL ha (a5 rfl))
theorem RepL.replicate{g:GM}{v:V}{x:Value}(r:Rep g v x)(n:Nat):RepL g (aQ n v) (aQ n x):=by
 induction n with
 |zero=>rfl
 |succ n ih=>exact⟨x,_,rfl,r,ih⟩
theorem foldl_rep(x:Value)(n:Nat):∀acc:Array Value,(List.foldl (λa b=>a++b) acc (aQ n #[x]))=(acc.toList++aQ n x).toArray:=by
 induction n with
 |zero=>intro acc;simp
 |succ n ih=>
  intro acc;simp only[fj,cq,ih];simp[fj]
theorem isTup_of{h:Heap}{a:Addr}{xs:List Value}{n:Nat}(e:h.get? a=some (sqO "tuple" xs n)):IsTup h a xs.toArray:=⟨_,e,rfl,n,rfl⟩
theorem isList_of{h:Heap}{a:Addr}{xs:List Value}{n:Nat}(e:h.get? a=some (sqO "list" xs n)):h.IsList a xs.toArray:=⟨_,e,rfl,n,rfl⟩
theorem small_4096{n:Nat}(h:n<=4096):n<=sizeLine:=by rw[sizeLine_eq];exact a6 (by assumption) (a5 rfl)
theorem St.seq(S:St c Z y fr s){T:String}{vs:List V}{xs:List Value}{n:Nat}{s':Shared}{a:Addr}(k:Kp Z.env.locals s s')(ha:s.heap.get? a=none)(hn:s'.heap.get? a=some (sqO T xs n))(r:RepL y.g vs xs):∃y',Ext Z true y y'/\St c Z y' fr s'/\SqAt y'.g T (λxs=>RepL y'.g vs xs) (.ref a):=by
 refine oa (S.frozen k ha hn) λS' e=>?_;exact⟨_,e,S',_,xs,n,rfl,GM.add_same _ _ _,r.mono e.g.1⟩
theorem St.own(S:St c Z y fr s){w:MW}{s':Shared}{a:Addr}(k:Kp Z.env.locals s s')(ha:s.heap.get? a=none)(hw:w.cells=[0])(ow:w.own=true)(nd:NodeAt c s'.heap y.g (λ_=>a) w):∃y',Ext Z true y y'/\RE c Z y' fr s' (.fresh w) (.ref a):=by
 refine oa (S.addTmp (w:=w) (A:=λ_=>a) k (λn _=>ha) (λn hn n' hn' _=>by rw[hw]at hn hn';exact(af.mp hn).trans (af.mp hn').symm) nd) λS' e=>?_;exact ieaaa _ e S' ow (congrArg Value.ref (by show _=LM.put _ _ _ _ 0;rw[LM.put_same]))
def PW(c:Cx)(Z:Fx)(y:Gl)(fr:FrL)(q:Rw->Prop)(val:Value)(s:Shared):Prop:=∃y' r,Ext Z true y y'/\RE c Z y' fr s r val/\q r
theorem PW.int{q:Rw->Prop}{i:Int}{t t':Tok}(S:St c Z y fr s)(h:q (.v (.int i))):PW c Z y fr q (.int i t) {s with toks:=t'}:=ieeaa y (.v (.int i)) (.refl _ _ _) ⟨S.toks _,_,rfl⟩ h
theorem add_ok{a b:V}{q:Rw->Prop}(S:St c Z y fr s)(ra:Rd s.heap y.g a v1)(rb:Rd s.heap y.g b v2)(h:binV .Add a b q):wpAny c.M A (binaryOp .Add v1 v2) (PW c Z y fr q) E s:=by
 cases a with
 |int i=>cases b with
  |int j=>obtain⟨t,rfl⟩:=ra.int;obtain⟨u,rfl⟩:=rb.int;exact add_int (.int S h)
  |_=>exact h.elim
 |tup vs=>cases b with
  |tup ws=>
   obtain⟨hl,h⟩:=h.out;obtain⟨a1,xs,n1,rfl,h1,l1⟩:=ra.tup S.hs.keepg;obtain⟨a2,ys,n2,rfl,h2,l2⟩:=rb.tup S.hs.keepg;refine oeaa S.frN λm F N back=>?_;refine add_tuples F N (isTup_of h1) (isTup_of h2) (λe=>?_) (λ_ e=>?_) (λ_ _ h' F' N'=>?_) ?_
   ·subst e;cases vs with
    |nil=>exact ieeaa y (.v (.tup ([]++ws))) (.refl _ _ _) ⟨S,rb.rep' λ_ z=>nomatch z⟩ h
    |cons v vs=>obtain⟨_,_,e,_⟩:=l1;injection e
   ·subst e;cases ws with
    |nil=>exact ieeaa y (.v (.tup (vs++[]))) (.refl _ _ _) ⟨S,by rw[aM];exact ra.rep' λ_ z=>nomatch z⟩ h
    |cons v vs=>obtain⟨_,_,e,_⟩:=l2;injection e
   ·obtain⟨y',e,S',r⟩:=S.seq (back _ (λp hp=>.tail _ hp) h' s.toks F' N') (fresh_none _) (N' _ (.head _)).1 (l2.append l1);exact ieeaa y' (.v (.tup _)) e ⟨S',r⟩ h
   ·simp only[l1.length,l2.length];exact small_4096 hl
  |_=>exact h.elim
 |lst vs=>cases b with
  |lst ws=>
   obtain⟨hl,h⟩:=h.out;obtain⟨a1,xs,n1,rfl,h1,l1⟩:=ra.list S.hs.keepg;obtain⟨a2,ys,n2,rfl,h2,l2⟩:=rb.list S.hs.keepg;refine oeaa S.frN λm F N back=>?_;refine add_lists F N (isList_of h1) (isList_of h2) (λh' F' N'=>?_) ?_
   ·refine oeaa (S.seq (back _ (λp hp=>.tail _ hp) h' s.toks F' N') (fresh_none _) (N' _ (.head _)).1 (l2.append l1)) λy' e S' r=>?_;exact ieeaa y' (.v (.lst _)) e ⟨S',r⟩ h
   ·simp only[l1.length,l2.length];exact small_4096 hl
  |_=>exact h.elim
 |_=>exact h.elim
theorem mul_ok{a b:V}{q:Rw->Prop}(S:St c Z y fr s)(ra:Rd s.heap y.g a v1)(rb:Rd s.heap y.g b v2)(h:binV .Mult a b q):wpAny c.M A (binaryOp .Mult v1 v2) (PW c Z y fr q) E s:=by
 cases b with
 |int n=>cases a with
  |int i=>obtain⟨t,rfl⟩:=ra.int;obtain⟨u,rfl⟩:=rb.int;exact mul_int (.int S h.out.2) (mulOk h.out.1)
  |lst vs=>cases vs with
   |nil=>exact h.elim
   |cons v zs=>cases zs with
    |cons _ _=>exact h.elim
    |nil=>
     obtain⟨hl,h⟩:=h.out;obtain⟨a1,xs,n1,rfl,h1,l1⟩:=ra.list S.hs.keepg;obtain⟨u,rfl⟩:=rb.int;obtain⟨x,ys,rfl,r1,rl⟩:=l1;subst rl;refine oeaa S.frN λm F N back=>?_;refine mul_list F N h1 (nab63 hl).1 (nab63 hl).2 (by simp;exact aG (nabL hl) (by decide)) (λh' F' N'=>?_);have e:=(N' _ (.head _)).1;dsimp only at e;simp only[List.isEmpty_cons,bX,if_false,foldl_rep]at e;refine oea (S.own (w:=.list (aQ n.toNat v)) (back _ (λp hp=>.tail _ hp) h' s.toks F' N') (fresh_none _) rfl rfl ⟨aQ n.toNat x,0,e,RepL.replicate r1 _⟩) λy' x' r=>?_;exact ieeaa y' _ x' r h
  |_=>exact h.elim
 |_=>exact h.elim
theorem bin_ok{op:Operator}{a b:V}{q:Rw->Prop}(S:St c Z y fr s)(ra:Rd s.heap y.g a v1)(rb:Rd s.heap y.g b v2)(h:binV op a b q):wpAny c.M A (binaryOp op v1 v2) (PW c Z y fr q) E s:=by
 cases op with
 |Add=>exact add_ok S ra rb h
 |Mult=>exact mul_ok S ra rb h
 |Sub=>obtain⟨i,j,rfl,rfl,h⟩:=int2.out h;obtain⟨t,rfl⟩:=ra.int;obtain⟨u,rfl⟩:=rb.int;exact sub_int (.int S h)
 |Mod=>obtain⟨i,j,rfl,rfl,h⟩:=int2.out h;obtain⟨t,rfl⟩:=ra.int;obtain⟨u,rfl⟩:=rb.int;exact mod_int h.1 (.int S h.2)
 |_=>exact h.elim
variable{e1 e2:Expr}{f g:FO}{b b1 b2:Bool}{pos:Pos}{fv:FV}
theorem SE.bin{op:Operator}(hl:SO c k sc e1 f b1)(hr:SO c k sc e2 g b2):SE c k sc (.BinOp e1 op e2 pos) (fBin op f g b2) (b1&&b2):=by
 intro Z y fr s Q ok S q;refine wpAny_BinOp (two hl hr ok S q λy' fr' o1 o2 v1 v2 s' x S' r1 r2 p=>?_);refine oea (rd_ok S' r1 p) λu1 a1 p=>?_;refine oea (rd_ok S' r2 p) λu2 a2 p=>?_;refine wpAny_mono (bin_ok S' a1 a2 p) (λval s2 h2=>?_) λ_ _ h=>h;refine oeeaa h2 λy2 r x2 rr qq=>?_;exact⟨y2,fr',r,x.r x2,rr,qq⟩
theorem int_is{Q:Int->Prop}{x:V}(h:match x with|.int b=>Q b|_=>False):∃b,x=.int b/\Q b:=by
 cases x with
 |int b=>exact iea b rfl h
 |_=>exact h.elim
theorem SV.neg(h:SV c k sc e1 fv b):SV c k sc (.UnaryOp .USub e1 pos) (fNeg fv) b:=by
 intro Z y fr s Q ok S q;refine wpAny_UnaryOp (h.use ok S q λy1 fr1 w a s1 x1 r1 q1=>?_);refine oea (int_is (Q:=λi=>Q (.int (-i)) fr1) q1) λi z_ q2=>?_;subst z_;obtain⟨S1,t,rfl⟩:=r1;exact neg_int ⟨y1,fr1,.int (-i),x1,⟨S1.toks _,_,rfl⟩,q2⟩
theorem idx_cases{i:Int}{n j:Nat}{P:Prop}(h:idx? i n=some j)(h1:0<=i->j=i.toNat->j<n->P)(h2:i<0->(-i).toNat<=n->(i+(n:Int)).toNat=j->P):P:=by
 unfold idx? at h;split at h
 ·split at h
  ·injection h with h;subst h;exact h1 ‹_› rfl ‹_›
  ·exact nos h
 ·clear h1;split at h
  ·injection h with h;subst h;rename_i q _;have q:=dc.mp q;refine h2 q ‹_› ?_;have e:i=-((-i).toNat:Int):=by simp only[bJ (Int.neg_nonneg_of_nonpos (cn q)),fy]
   simp only[←Int.toNat_sub,dB,fL,←e]
  ·exact nos h
theorem seqIdx{i:Int}{n j:Nat}(h:idx? i n=some j):seqIndex? i n=some j:=by
 unfold seqIndex?;refine idx_cases h (λh1 h2 h3=>?_) λh1 h2 h3=>?_
 ·have h0:¬i<0:=bD.mpr h1;rw[if_neg h0];have:=bJ h1;rw[if_pos (by simp;exact⟨h1,(cC h1).mp (h2▸h3)⟩),h2]
 ·rw[if_pos h1];rw[if_pos (by simp;exact sqN h1 h2),h3]
theorem itemAt_out{vs:List V}{i:Int}{x:V}(h:itemAt vs i=some x):i.natAbs<=1000000/\∃j,idx? i vs.length=some j/\vs[j]?=some x:=by
 unfold itemAt at h;split at h
 ·cases e:idx? i vs.length with
  |some j=>rw[e]at h;exact⟨‹_›,_,rfl,h⟩
  |none=>rw[e]at h;exact nos h
 ·exact nos h
theorem valueAt_lookup{g:GM}(i:Int){x:V}:∀{es:List (Int×V)} {kvs:List (Int×Value)},kvs.map (·.1)=es.map (·.1)->RepL g (es.map (·.2)) (kvs.map (·.2))->es.lookup i=some x->∃y,valueAt kvs i=some y/\Rep g x y:=by
 intro es
 induction es with
 |nil=>intro kvs _ _ h;exact nos h
 |cons p es ih=>
  intro kvs e r h;obtain⟨j,v⟩:=p;cases kvs with
  |nil=>injection e
  |cons q kvs=>
   obtain⟨j',z⟩:=q;obtain⟨e1,e2⟩:=d5.inj e;clear e;subst e1;obtain⟨y',ys,e3,r1,rl⟩:=r;obtain⟨rfl,rfl⟩:=d5.inj e3;rw[aR]at h;unfold valueAt;by_cases z:j'=i
   ·subst z;rw[beq_self_eq_true]at h;refine(ab.inj h)▸?_;exact iea _ (by rw[eO (by simp)];rfl) r1
   ·rw[beq_eq_false_iff_ne.mpr (Ne.symm z)]at h;refine oea (ih e2 rl h) λy2 h1 h2=>?_;exact iea y2 (by rw[dw (by simpa using z)];exact h1) h2
theorem tupItem{vs:List V}{i:Int}{t:Tok}{value slice:Expr}{u:V}(S:St c Z y fr s)(hsl:∀o i,subscripted slice false o i=operate [o,i] (getItem o i))(r:SqH s.heap y.g "tuple" vs x)(h:itemAt vs i=some u)(q:∀val,Rep y.g u val->Q val s):wpAny c.M A (subscriptTail value slice x (.int i t)) Q E s:=by
 obtain⟨a1,xs,n1,rfl,h1,l1⟩:=r;obtain⟨hi,j,hj,hz⟩:=itemAt_out h;refine oea (l1.get hz) λw hw rw'=>?_;exact tail_any (isTup_of h1).typeIs slot_tuple_getitem.lookup (getItem_tuple (isTup_of h1) (nab63 hi).1 (nab63 hi).2 (by simp only[aw,l1.length];exact seqIdx hj) (by simpa using hw) (q w rw')) (hsl _ _)
theorem lstItem{vs:List V}{i:Int}{t:Tok}{value slice:Expr}{u:V}(S:St c Z y fr s)(hsl:∀o i,subscripted slice false o i=operate [o,i] (getItem o i))(r:SqH s.heap y.g "list" vs x)(h:itemAt vs i=some u)(q:∀val,Rep y.g u val->Q val s):wpAny c.M A (subscriptTail value slice x (.int i t)) Q E s:=by
 obtain⟨a1,xs,n1,rfl,h1,l1⟩:=r;obtain⟨hi,j,hj,hz⟩:=itemAt_out h;refine oea (l1.get hz) λw hw rw'=>?_;have xl:=l1.length;refine tail_any (isList_of h1).typeIs slot_list_getitem.lookup ?_ (hsl _ _);refine idx_cases hj (λa1 a2 a3=>?_) λa1 a2 a3=>?_
 ·subst a2;exact wpAny_getItem_list (isList_of h1) a1 (nab63 hi).2 (by simpa using hw) (q w rw')
 ·exact wpAny_getItem_list_neg (isList_of h1) a1 (by rw[aw,xl];exact ngI a2) (nab63 hi).1 (by simp only[aw,xl,a3];simpa using hw) (q w rw')
theorem item_ok{value slice:Expr}{q:V->Prop}(S:St c Z y fr s)(r1:OVal y o1 v1)(r2:OVal y o2 v2)(hsl:∀o i,subscripted slice false o i=operate [o,i] (getItem o i))(h:itemW fr o1 o2 q)(hQ:∀u val s',St c Z y fr s'->Rep y.g u val->q u->Q val s'):wpAny c.M A (subscriptTail value slice v1 v2) Q E s:=by
 unfold itemW at h;cases ed:dictW fr o1 with
 |some es=>
  replace h:=(ed)▸h;have ed:=dictW_out ed;refine oeeaa (int_of r2 h) λi t z_ z63_ h=>?_;subst z_;subst z63_;refine oea h.out λu hu qu=>?_;obtain⟨ne,kvs,hd,hk,hv⟩:=S.dictAt ed;have r1:=r1.adr ed;subst r1;refine oea (valueAt_lookup i hk hv hu) λw hw rw'=>?_;exact tail_any hd.mapOf.typeIs slot_dict_getitem.lookup (wpAny_getItem_of (knd:=intKind c.prog c.w) (k:=i) (by simp[intKind,Value.isInt]) hd.mapOf hw (hQ u w _ (S.toks _) rw' qu)) (hsl _ _)
 |none=>
  rw[ed]at h;refine oea (rd_ok S r1 h) λu1 a1 h=>?_;refine oea (rd_ok S r2 h) λu2 a2 h=>?_;clear r2;cases u2 with
  |int i=>
   obtain⟨t,rfl⟩:=a2.int;cases u1 with
   |tup vs=>obtain⟨u,hu,qu⟩:=h.out;exact tupItem S hsl (a1.tup S.hs.keepg) hu λval r=>hQ u val s S r qu
   |lst vs=>obtain⟨u,hu,qu⟩:=h.out;exact lstItem S hsl (a1.list S.hs.keepg) hu λval r=>hQ u val s S r qu
   |_=>exact h.elim
  |_=>exact h.elim
theorem SV.item(hl:SO c k sc e1 f b1)(hr:SO c k sc e2 g b2)(hsl:∀x y,subscripted e2 false x y=operate [x,y] (getItem x y)):SV c k sc (.Subscript e1 e2 pos) (fItem f g b2) (b1&&b2):=by
 intro Z y fr s Q ok S q;refine Subscript_ (two hl hr ok S q λy' fr' o1 o2 v1 v2 s' x S' r1 r2 p=>?_);exact item_ok S' r1 r2 hsl p λu val s2 S2 rr qq=>⟨y',fr',u,x,⟨S2,rr⟩,qq⟩
end
noncomputable def cut(k:Int)(n:Nat):Nat:=if k<0 then n-(-k).toNat else min k.toNat n
def sliceW(fr:FrL)(o:Ow)(i:Int)(Q:Rw->FrL->Prop):Prop:=rdW fr o λx=>match x with
 |.lst vs=>Sz vs.length 4096 (Q (.fresh (.list (vs.take (cut i vs.length)))) fr)
 |.arg vs=>Sz vs.length 4096 (Q (.fresh (.list (vs.take (cut i vs.length)))) fr)
 |.tup vs=>Pr (i<0/\(-i).toNat<=vs.length) (Sz vs.length 4096 (Q (.v (.tup (vs.take (cut i vs.length)))) fr))
 |_=>False
def sliceK2(b2:Bool)(Q:Rw->FrL->Prop)(o:Ow)(x:V)(fr:FrL):Prop:=deep b2 o (match x with|.int i=>sliceW fr o i Q|_=>False)
def sliceK(u:FV)(b2:Bool)(γ:Ct)(Q:Rw->FrL->Prop)(o:Ow)(fr:FrL):Prop:=u γ fr (sliceK2 b2 Q o)
noncomputable def fSlice(f:FO)(u:FV)(b2:Bool):FE:=λγ fr Q=>f γ fr (sliceK u b2 γ Q)
section
variable{A:Around}{s:Shared}
theorem cut_n{k:Int}(n:Nat)(h:k<0):max (k+n) 0=((cut k n:Nat):Int):=by
 unfold cut;rw[if_pos h,←Int.toNat_eq_max,dB]
 conv=>lhs;rw[←fy k,←fL,←bJ (a:=-k) (cn (fM h))]
 rw[Int.toNat_sub]
theorem cut_p{k:Int}(n:Nat)(h:¬k<0):max 0 (min k (n:Int))=((cut k n:Nat):Int):=by
 unfold cut;rw[if_neg h];obtain⟨m,rfl⟩:=c6 (bD.mp h);refine(gm (eB.mpr ⟨aX _,aX _⟩)).trans ?_;simp only[c4];rcases Nat.le_total m n with h|h
 ·rw[gr h,gA (bv.mpr h)]
 ·rw[Nat.min_eq_right h,gh (bv.mpr h)]
theorem cut_lt{k:Int}{n:Nat}(h:k<0)(hl:(-k).toNat<=n):cut k n<n:=by
 unfold cut;rw[if_pos h];have:=eT.mpr (fM h);exact e8 (bH this hl) this
theorem pick_upto(xs:List Value)(k:Int):slicePick xs.toArray none (some k) none=(xs.take (cut k xs.length)).toArray:=by
 rw[kmk_pick_nat (a:=0) (b:=cut k xs.length)]
 ·simp
 ·dsimp only[sliceBounds];congr 2;by_cases h:k<0
  ·rw[if_pos h,gA (Int.add_le_of_le_sub_right (by rw[Int.sub_self];exact cn h)),Int.max_comm];exact cut_n _ h
  ·rw[if_neg h];exact cut_p _ h
theorem sliceApplied_upto{sl:Addr}{kk:Int}{n:Nat}{u:Tok}{Q:Int×Int×Nat->Shared->Prop}{prog:Program}{w:World}{E:Value->Shared->Prop}(hs:s.heap.get? sl=some {cls:=.type "slice",data:=.fields #[.none,.int kk u,.none]})(h0:kk<0)(ha:(-kk).toNat<=n)(h:Q ((0:Int),1,cut kk n) s):
 wpAny (model prog w) A (Builtin.Slice.sliceApplied (.ref sl) (pure (n:Int))) Q E s:=by
 refine wpAny_bind (wpAny_bind (wpAny_field hs rfl (x:=.none) rfl (wpAny_bind (wpAny_field hs rfl (x:=.int kk u) rfl (wpAny_bind (wpAny_field hs rfl (x:=.none) rfl (wpAny_pure ?_)))))));refine wpAny_bind (slicePart_none ?_);refine wpAny_bind (slicePart_none (wpAny_bind (slicePart_int (wpAny_bind (wpAny_pure ?_)))));show wpAny _ _ (match Builtin.Slice.sliceAdjust none (some kk) 1 (n:Int)with|(lo,hi)=>pure (lo,(1:Int),Builtin.Slice.slicePlaces lo hi 1)) _ _ s;have e1:Builtin.Slice.sliceAdjust none (some kk) 1 (n:Int)=(0,((cut kk n:Nat):Int)):=by
  dsimp only[Builtin.Slice.sliceAdjust,cut];simp only[if_false,h0,if_true];congr 1;have:=cut_n n h0;unfold cut at this
  rwa[if_pos h0]at this
 refine(e1).symm▸?_;have e2:Builtin.Slice.slicePlaces 0 ((cut kk n:Nat):Int) 1=cut kk n:=by
  unfold Builtin.Slice.slicePlaces;rw[if_pos (by decide),Int.ediv_one,dQ,db];by_cases z:0<((cut kk n:Nat):Int)
  ·exact congrArg Int.toNat (if_pos z)
  ·exact(congrArg Int.toNat (if_neg z)).trans (Nat.eq_zero_of_not_pos λq=>z (bq.mpr q)).symm
 show wpAny _ _ (pure ((0:Int),(1:Int),Builtin.Slice.slicePlaces 0 ((cut kk n:Nat):Int) 1)) _ _ s;refine(e2).symm▸?_;exact wpAny_pure h
theorem pick_take(xs:Array Value)(m:Nat)(hm:m<=xs.size):((ao m).filterMap λ(k:Nat)=>xs[((0:Int)+(k:Int)*1).toNat]?).toArray=(xs.toList.take m).toArray:=by
 have e:(λ(k:Nat)=>xs[((0:Int)+(k:Int)*1).toNat]?)=λk=>xs[k]?:=by
  funext k
  have:((0:Int)+(k:Int)*1).toNat=k:=by rw[eQ,fA];rfl
  rw[this]
 refine(e).symm▸?_;congr 1
 induction m with
 |zero=>simp
 |succ m ih=>
  have hlt:m<xs.size:=hm;simp only[fY,List.filterMap_append,ih (bf hm),List.take_add_one];simp[hlt]
theorem getItem_tuple_upto{t sl:Addr}{xs:List Value}{n:Nat}{kk:Int}{u:Tok}{Q:Value->Shared->Prop}{prog:Program}{w:World}{E:Value->Shared->Prop}(ht:s.heap.get? t=some (sqO "tuple" xs n))(hs:s.heap.get? sl=some {cls:=.type "slice",data:=.fields #[.none,.int kk u,.none]})
 (h0:kk<0) (ha:(-kk).toNat<=xs.length) (hl:xs.length<=4096) (h:Q (.ref s.heap.objs.size) {s with heap:=s.heap.push {cls:=.type "tuple",data:=.seq (xs.take (cut kk xs.length)).toArray}}):
 wpAny (model prog w) A (getItem (.ref t) (.ref sl)) Q E s:=by
 have ht':=isTup_of ht;have hcut:cut kk xs.length<xs.length:=cut_lt h0 ha;have hdrop:sizeOk (.seq (xs.take (cut kk xs.length)).toArray):=by
  show(xs.take (cut kk xs.length)).toArray.size<=sizeLine;simp only[aw,fR];exact a6 (dr _ _) (small_4096 hl)
 have hTs:s.TypeIs (.ref sl) "slice":=iea _ hs rfl;dsimp only[getItem]
 try with_reducible refine wpAny_holding ?_
 first|refine wpAny_bind (wpAny_pure ?_)|skip
 refine wpAny_bind (wpAny_sequenceKey ht'.typeIs (rfl) ?_);refine wpAny_bind (wpAny_callSpecial?_slot (name:=Str.ofString "__getitem__") ht'.typeIs slot_tuple_getitem
  (wpAny_call_entry slot_tuple_getitem ht'.typeIs entry_tuple_getitem ?_ (args_tuple_getitem _ _)))
 show wpAny _ _ (Builtin.Tuple.tupleItemsOf (.ref t)>>=_) _ _ s;refine wpAny_bind (tupleItemsOf_ ht' ?_);refine wpAny_bind (wpAny_typeOf hTs ?_);refine wpAny_bind (sliceApplied_upto hs h0 (by simp only[aw];exact ha) ?_);have hno:¬(((0:Int)==0&&(1:Int)==1&&(cut kk xs.length)==xs.length)=true):=by
  have:((cut kk xs.length)==xs.length)=false:=by rw[beq_eq_false_iff_ne];exact aY hcut
  rw[this];simp
 show wpAny _ _ (if((0:Int)==0&&(1:Int)==1&&(cut kk xs.length)==xs.length)=true then _ else _) _ _ s;rw[if_neg hno,pick_take xs.toArray _ (by rw[aw];exact bf hcut)]
 first
  |exact wpAny_bind (m:=Builtin.Tuple.tupleExact _) (wpAny_newObj_type (wpAny_pure (iea _ rfl (wpAny_pure h))) hdrop)
  |exact wpAny_bind (m:=Builtin.Tuple.tupleExact _) (wpAny_newObj_type (wpAny_bind (wpAny_pure (wpAny_pure ⟨_,rfl,wpAny_pure h⟩))) hdrop)
  |exact wpAny_bind (wpAny_bind (m:=Builtin.Tuple.tupleExact _) (wpAny_newObj_type (wpAny_pure (wpAny_pure ⟨_,rfl,wpAny_pure h⟩)) hdrop))
  |exact wpAny_bind (wpAny_bind (m:=Builtin.Tuple.tupleExact _) (wpAny_newObj_type (wpAny_pure ⟨_,rfl,wpAny_pure h⟩) hdrop))
end
section
variable{c:Cx}{k:Nat}{sc:Scope}{Z:Fx}{y y':Gl}{fr:FrL}{s s':Shared}{A:Around}{o o1 o2:Ow}{x v1 v2:Value}{w w':MW}{Q E:Value->Shared->Prop}{e1 e2:Expr}{f g:FO}{b b1 b2:Bool}{pos:Pos}{fv:FV}
theorem Kp.push(a:Addr)(s:Shared)(o:Obj):Kp a s {s with heap:=s.heap.push o}:=.of (λb o e=>Heap.get?_push_of_some _ e) rfl rfl
theorem SE.slice{u:Expr}{p:Pos}(he:SO c k sc e1 f b1)(hu:SV c k sc u fv b2):SE c k sc (.Subscript e1 (.Slice none (some u) none p) pos) (fSlice f fv b2) (b1&&b2):=by
 intro Z y fr s Q ok S q;refine Subscript_ (he.use ok S q λy1 fr1 o v s1 x1 r1 q1=>?_);refine wpAny_Slice (wpAny_evalPart_none (wpAny_evalPart_some (hu.use ok r1.1 q1 λy2 fr2 w u2 s2 x2 r2 q2=>wpAny_evalPart_none ?_)));obtain⟨q2,hd⟩:=q2.out;refine oea (int_is (Q:=λi=>sliceW fr2 o i Q) q2) λkk z_ q2=>?_;subst z_;obtain⟨S2,t,rfl⟩:=r2;refine oea (rd_ok S2 (r1.2.keep x2 hd) q2) λu ru q3=>?_;have e:=x1.trans x2;have hsl:(s2.heap.push {cls:=.type "slice",data:=.fields #[.none,.int kk t,.none]}).get? s2.heap.objs.size=some {cls:=.type "slice",data:=.fields #[.none,.int kk t,.none]}:=Heap.get?_push_size _ rfl;have K1:=Kp.push Z.env.locals s2 {cls:=.type "slice",data:=.fields #[.none,.int kk t,.none]};have S3:=S2.kp K1;have kp:∀b ob,s2.heap.get? b=some ob->_:=λb ob e=>Heap.get?_push_of_some {cls:=.type "slice",data:=.fields #[.none,.int kk t,.none]} e;cases u with
 |lst vs=>
  obtain⟨hl,q4⟩:=q3.out;obtain⟨a,xs,n,rfl,h1,h2⟩:=ru.list S2.hs.keepg;have xl:=h2.length;refine tail_any (isList_of (kp _ _ h1)).typeIs slot_list_getitem.lookup (wpAny_getItem_list_slice (isList_of (kp _ _ h1)) (ieaa _ hsl rfl rfl) .none (.int kk t) .none (by simp) ?_ (by rw[aw,xl];exact small_4096 hl)) (ops:=[.ref s2.heap.objs.size,.ref a]) rfl;rw[pick_upto];refine oea (S3.own (w:=.list (vs.take (cut kk vs.length))) (Kp.push _ _ {cls:=.type "list",data:=.seq (xs.take (cut kk xs.length)).toArray}) (fresh_none _) rfl rfl ⟨xs.take (cut kk xs.length),0,Heap.get?_push_size _ rfl,by rw[xl];exact h2.take _⟩) λy3 x3 r3=>?_;exact⟨y3,fr2,_,e.r x3,r3,q4⟩
 |arg vs=>
  obtain⟨hl,q4⟩:=q3.out;obtain⟨a,ob,xs,n,rfl,h1,hc,hd,h2⟩:=(ru.rep' λ_ z=>nomatch z);have il:(s2.heap.push {cls:=.type "slice",data:=.fields #[.none,.int kk t,.none]}).IsList a xs.toArray:=⟨ob,kp _ _ (S2.hs.keepg _ _ h1),hc,n,hd⟩;have xl:=h2.length;refine tail_any il.typeIs slot_list_getitem.lookup (wpAny_getItem_list_slice il (ieaa _ hsl rfl rfl) .none (.int kk t) .none (by simp) ?_ (by rw[aw,xl];exact small_4096 hl)) (ops:=[.ref s2.heap.objs.size,.ref a]) rfl;rw[pick_upto];refine oea (S3.own (w:=.list (vs.take (cut kk vs.length))) (Kp.push _ _ {cls:=.type "list",data:=.seq (xs.take (cut kk xs.length)).toArray}) (fresh_none _) rfl rfl ⟨xs.take (cut kk xs.length),0,Heap.get?_push_size _ rfl,by rw[xl];exact h2.take _⟩) λy3 x3 r3=>?_;exact⟨y3,fr2,_,e.r x3,r3,q4⟩
 |tup vs=>
  obtain⟨⟨h0,ha⟩,q3⟩:=q3;obtain⟨hl,q4⟩:=q3.out;obtain⟨a,xs,n,rfl,h1,h2⟩:=ru.tup S2.hs.keepg;have xl:=h2.length;refine tail_any (isTup_of (kp _ _ h1)).typeIs slot_tuple_getitem.lookup (getItem_tuple_upto (kp _ _ h1) hsl h0 (by simp only[xl];exact ha) (by rw[xl];exact hl) ?_) (ops:=[.ref s2.heap.objs.size,.ref a]) rfl;refine oeaa (S3.seq (Kp.push _ _ {cls:=.type "tuple",data:=.seq (xs.take (cut kk xs.length)).toArray}) (fresh_none _) (Heap.get?_push_size _ rfl) (vs:=vs.take (cut kk vs.length)) (by rw[xl];exact h2.take _)) λy3 x3 S4 r3=>?_;exact⟨y3,fr2,.v (.tup _),e.r x3,⟨S4,r3⟩,q4⟩
 |_=>exact q3.elim
def fldR(j i:Nat)(w:MW)(Q:Rw->Prop):Prop:=match w with
 |.v x=>(match x with|.cst _=>False|x=>Q (.v x))
 |_=>Q (.fld j i)
def objW(w:Option MW)(q:Nat->List Nat->List MW->Prop):Prop:=match w with
 |some w=>(match w with|.obj C ks ws=>q C ks ws|_=>False)
 |none=>False
def yes(b:Bool)(X:Prop):Prop:=match b with|true=>X|false=>False
theorem yes.out{b:Bool}{X:Prop}(h:yes b X):b=true/\X:=by
 cases b with
 |true=>exact⟨rfl,h⟩
 |false=>exact h.elim
theorem objW.out{w:Option MW}{q:Nat->List Nat->List MW->Prop}(h:objW w q):∃C ks ws,w=some (.obj C ks ws)/\q C ks ws:=by
 cases w with
 |none=>exact h.elim
 |some w=>cases w with
  |obj C ks ws=>exact ieeea C ks ws rfl h
  |_=>exact h.elim
noncomputable def putWs:List Nat->List MW->Nat->MW->List MW
 |k0::ks,w0::ws,k,w=>match aT k k0 with|true=>w::ws|false=>w0::putWs ks ws k w
 |_,_,_,w=>[w]
noncomputable def putKs:List Nat->Nat->List Nat
 |[],k=>[k]
 |k0::ks,k=>match aT k k0 with|true=>k0::ks|false=>k0::putKs ks k
structure GetOk(c:Cx)(C:Addr)(k:Nat):Prop where
 plain:plainGet c.Kf C (nm k)=true
 hasD:hasDictIn c.Kf C=true
 attr:∃attr,findIn c.Kf (.ref C) (nm k)=some attr/\noGet c.Kf attr=true
structure SetOk(c:Cx)(C:Addr)(k:Nat):Prop where
 plain:findIn c.Kf (.ref C) "__setattr__"=some (some (.builtin "object.__setattr__"))
 over:plainOver c.Kf C=true
 taker:takerIn c.Kf C (nm k)=some none
 hasD:hasDictIn c.Kf C=true
theorem rep_handed{v:V}{g:GM}(r:Rep g v x)(h:∀y,v≠.cst y):handedIn x=true:=by
 cases v with
 |none=>subst r;rfl
 |bool b=>subst r;rfl
 |int i=>obtain⟨t,rfl⟩:=r;rfl
 |str i=>obtain⟨t,rfl⟩:=r;rfl
 |tup vs=>obtain⟨a,_,_,rfl,_⟩:=r;rfl
 |lst vs=>obtain⟨a,_,_,rfl,_⟩:=r;rfl
 |rng a b=>obtain⟨a,_,_,_,rfl,_⟩:=r;rfl
 |arg vs=>obtain⟨a,_,_,_,rfl,_⟩:=r;rfl
 |cst y=>exact absurd rfl (h y)
theorem Flds.str{h:Heap}{g:GM}{B:Nat->Addr}:∀{ks:List Nat} {ws:List MW} {ds:List DictEntry},Flds c h g B ks ws ds->ds.any (·.refKey)=false:=by
 intro ks
 induction ks with
 |nil=>rintro ws ds ⟨_,rfl⟩;rfl
 |cons j ks ih=>
  intro ws ds f;cases ws with
  |nil=>exact f.elim
  |cons w0 ws=>cases ds with
   |nil=>exact f.elim
   |cons d ds=>
    obtain⟨⟨t,e4,_⟩,f⟩:=f;simp only[eG,ih f];unfold DictEntry.refKey;refine(e4)▸?_;rfl
theorem getL_of{name:Str}{ds:List DictEntry}{e:DictEntry}(h:ds.find? (·.key.isStr name)=some e):getL name ds=some (some e.val):=by unfold getL;rw[h]
theorem getL_some{name:Str}{ds:List DictEntry}(h:ds.any (·.refKey)=false):(getL name ds).isSome=true:=by
 unfold getL;cases ds.find? λd=>d.key.isStr name with
 |some e=>rfl
 |none=>dsimp only;rw[h];rfl
theorem St.getAttr{i C:Nat}{ks:List Nat}{ws:List MW}{j:Nat}{pl:Bool}{q:Rw->Prop}(S:St c Z y fr s)(e:getF fr i=some (.obj C ks ws))(hm:lookK ks ws j=some w)(G:GetOk c C j)(h:fldR i j w q)
 (t:∀r val s',RE c Z y fr s' r val->q r->Q val s'):wpAny c.M A (getAttr (.ref (y.L (.var i) 0)) (nm j) pl) Q E s:=by
 obtain⟨ds,n,h1,h2,_,f⟩:=S.objAt e;refine oea (f.get hm) λd z_ g1=>?_;clear hm;obtain⟨t4,_,_,v,_⟩:=z_;refine oea G.attr λattr a1 a2=>?_;have I:W.InstAt s.heap (y.L (.var i) 0) (instObj C (y.L (.var i) 1)) C (some (dictOf ds n)):=⟨h1,rfl,rfl,h2⟩;have go:∀r,(∀tk,RE c Z y fr {s with toks:=tk} r d.val)->q r->handedIn d.val=true->wpAny c.M A (PySem.getAttr (.ref (y.L (.var i) 0)) (nm j) pl) Q E s:=λr hr hq hv=>
  get_value (kIn S) I (plainGet_of G.plain).1 (findObj_own G.hasD a1 a2 (getL_of g1)) hv (t r _ _ (hr _) hq)
 have fl:d.val=Value.ref (y.L (.var i) (j+2))->q (.fld i j)->wpAny c.M A (PySem.getAttr (.ref (y.L (.var i) 0)) (nm j) pl) Q E s:=λhv hq=>go (.fld i j) (λtk=>⟨S.toks _,hv⟩) hq (by rw[hv];rfl);cases w with
 |v u=>
  have gv:q (.v u)->(∀y,u≠.cst y)->wpAny c.M A (PySem.getAttr (.ref (y.L (.var i) 0)) (nm j) pl) Q E s:=λhq hc=>go (.v u) (λtk=>⟨S.toks _,v⟩) hq (rep_handed v hc);cases u with
  |cst z=>exact h.elim
  |_=>exact gv h λ_ z=>nomatch z
 |list vs=>exact fl v h
 |dict es=>exact fl v h
 |obj C ks ws=>exact fl v h
theorem ValW.ref{g:GM}{a:Addr}(h:w.own=true)(v:ValW g a w x):x=.ref a:=by
 cases w with
 |v x=>exact ff h
 |_=>exact v
theorem ValW.of{g:GM}{a:Addr}(h:w.own=true)(v:x=.ref a):ValW g a w x:=by
 cases w with
 |v x=>exact ff h
 |_=>exact v
theorem fldN_mem{n:Nat}:∀{ks:List Nat} {ws:List MW},n∈fldN ks ws->∃j∈ks,n=j+2:=by
 intro ks
 induction ks with
 |nil=>intro ws h;cases(show _∈([]:List Nat)from h)
 |cons j ks ih=>
  intro ws h;cases ws with
  |nil=>cases(show _∈([]:List Nat)from h)
  |cons w ws=>
   rw[fldN_c]at h;have tl:n∈fldN ks ws->∃j'∈j::ks,n=j'+2:=λh=>by refine oea (ih h) λj' h1 h2=>?_;exact iea j' (.tail _ h1) h2
   clear ih;cases z:w.own with
   |true=>
    rw[z]at h;rcases aj.mp h with rfl|h
    ·exact iea j (.head _) rfl
    ·exact tl h
   |false=>rw[z]at h;exact tl h
theorem fldN_own{i:Nat}{w:MW}(ow:w.own=true):∀{ks:List Nat} {ws:List MW},lookK ks ws i=some w->i+2∈fldN ks ws:=by
 intro ks
 induction ks with
 |nil=>intro ws h;cases ws<;>exact nos h
 |cons j ks ih=>
  intro ws h;cases ws with
  |nil=>exact nos h
  |cons w0 ws=>
   replace h:=(lookK_c)▸h;rw[fldN_c];cases q:aT i j with
   |true=>replace h:=(q)▸h;injection h with h;refine h▸?_;rw[ow,az q];exact .head _
   |false=>
    replace h:=(q)▸h;cases w0.own with
    |true=>exact .tail _ (ih h)
    |false=>exact ih h
theorem Flds.repl{h h':Heap}{g:GM}{B:Nat->Addr}{i:Nat}(ow:w.own=true)(ow':w'.own=true)(l:LeafAt c h' g (B (i+2)) w'):∀{ks:List Nat} {ws:List MW} {ds:List DictEntry},ks.Nodup->Flds c h g B ks ws ds->lookK ks ws i=some w->(∀n∈fldN ks ws,n≠i+2->∀o,h.get? (B n)=some o->h'.get? (B n)=some o)->
 Flds c h' g B ks (replW ks ws i w') ds/\fldN ks (replW ks ws i w')=fldN ks ws:=by
 intro ks
 induction ks with
 |nil=>intro ws ds _ f e;cases ws<;>exact nos e
 |cons j ks ih=>
  intro ws ds nd f e hk;cases ws with
  |nil=>exact nos e
  |cons w0 ws=>
   cases ds with
   |nil=>exact f.elim
   |cons d ds=>
    obtain⟨n1,n2⟩:=aE.mp nd;replace e:=(lookK_c)▸e;simp only[fldN_c]at hk;clear nd;rw[fldN_c (w:=w0)];refine(show replW (j::ks) (w0::ws) i w'=(match aT i j with|true=>w'::ws|false=>w0::replW ks ws i w')from rfl).symm▸?_;cases q:aT i j with
    |true=>
     replace e:=(q)▸e;injection e with e;subst e
     have q:=az q;subst q;replace hk:=(ow)▸hk;dsimp only;rw[ow,fldN_c,ow'];obtain⟨⟨t,e4,e5,v,_⟩,f⟩:=f;refine⟨⟨⟨t,e4,e5,.of ow' (v.ref ow),l⟩,f.at (.refl g) λn hn=>⟨rfl,hk n (.tail _ hn) λz=>?_⟩⟩,rfl⟩;refine oea (fldN_mem hn) λj' h1 h2=>?_;exact n1 ((by lia:i=j')▸h1)
    |false=>
     rw[q]at e;dsimp only;simp only[fldN_c];refine oa (ih n2 f.2 e λn hn=>hk n (by cases w0.own with|true=>exact .tail _ hn|false=>exact hn)) λi1 i2=>?_;refine⟨⟨f.1.at (.refl g) λo=>⟨rfl,hk _ (by refine(o)▸?_;exact .head _) λz=>bG q (by lia)⟩,i1⟩,by rw[i2]⟩
noncomputable def MW.leaf:MW->Bool
 |.list _=>true
 |.dict _=>true
 |_=>false
theorem MW.leaf_own{w:MW}(h:w.leaf=true):w.own=true/\w.cells=[0]/\∀C ks ws,w≠.obj C ks ws:=by
 cases w<;>first|exact iaa rfl rfl (λ_ _ _ z=>nomatch z)|exact ff h
theorem LeafAt.node{h:Heap}{g:GM}{B:Nat->Addr}(hw:w.leaf=true)(l:LeafAt c h g (B 0) w):NodeAt c h g B w:=by
 cases w<;>first|exact l|exact ff hw
theorem St.cell(S:St c Z y fr s)(e:plW fr o=some w)(hw:w.own=true):∃i n,InO (om fr Z.X) (.var i) n/\adr y o=y.L (.var i) n:=by
 cases o with
 |v x=>exact nos e
 |loc i=>exact ieea i 0 ⟨w,e,by cases w<;>first|exact .head _|cases hw⟩ rfl
 |fld i j=>
  refine oeeea (plFld e) λC ks ws q e=>?_;exact ieea i (j+2) ⟨_,q,.tail _ (.tail _ (fldN_own hw e))⟩ rfl
theorem St.setLeaf(S:St c Z y fr s)(e:plW fr o=some w)(hw:w.leaf=true)(hw':w'.leaf=true)(keep:∀b ob,b≠adr y o->b≠Z.env.locals->s.heap.get? b=some ob->s'.heap.get? b=some ob)(ns:∀m,s.heap.Ns Z.env.locals m->s'.heap.Ns Z.env.locals m)(lv:(s'.heap.get? Z.env.locals).isSome=true)(hg:s'.gens=s.gens)(ho:s'.os=s.os)
 (l:LeafAt c s'.heap y.g (adr y o) w'):St c Z y (updW fr o w') s':=by
 refine oaa (MW.leaf_own hw) λow cw nw=>?_;refine oaa (MW.leaf_own hw') λow' cw' nw'=>?_;refine oeea (S.cell e ow) λi0 n0 ic ia=>?_;have fin:∀{i:Nat} {u u':MW},getF fr i=some u->u'.cells=u.cells->u.own=true->u'.own=true->i=i0->NodeAt c s'.heap y.g (y.L (.var i)) u'->St c Z y (setF fr i u') s':=λ{i u u'} eu ec o1 o2 ei nd=>by
  subst ei;have lw:∀x n,InO (om (setF fr i u') Z.X) x n->InO (om fr Z.X) x n:=λx n j=>by
   rw[om_set]at j;rcases j.put with⟨rfl,hn⟩|⟨_,j⟩
   ·exact⟨u,eu,ec▸hn⟩
   ·exact j
  refine S.of (S.hs.set (.inl rfl) ic (by refine(ia)▸?_;exact keep) lv hg ho (λx n=>(x,n)) (λx n j=>⟨lw x n j,rfl⟩) (λx n x' n' _ _ z=>Prod.mk.inj z) (λx v ev=>?_) nd) (λa ob fa na ea=>keep a ob (λz=>?_) na ea) ns λj v ev=>?_
  ·rw[om_set]at ev;unfold OM.put at ev;split at ev
   ·refine(ab.inj ev).symm▸?_;exact .inl ⟨‹_›,rfl⟩
   ·exact .inr ⟨‹_›,ev,λ_=>rfl⟩
  ·exact(S.hs.frm a fa).2.2.2 _ _ ic (ia.symm.trans z.symm)
  ·clear lw;rw[getF_setF]at ev;split at ev
   ·rename_i z;refine z▸?_;obtain rfl:=ab.inj ev;exact iea u eu (λval hv=>.of o2 (hv.ref o1))
   ·exact iea v ev (λ_ h=>h)
 cases o with
 |v x=>exact nos e
 |loc i=>
  have i1:InO (om fr Z.X) (.var i) 0:=⟨w,e,by rw[cw];exact .head _⟩;have:i=i0:=Lbl.var.inj (S.hs.inj _ _ _ _ i1 ic ia).1;exact fin e (cw'.trans cw.symm) ow ow' this (l.node hw')
 |fld i j=>
  refine oeeea (plFld e) λC ks ws eu el=>?_;have io:∀n∈MW.cells (.obj C ks ws),InO (om fr Z.X) (.var i) n:=λn hn=>⟨_,eu,hn⟩;have ij:=io (j+2) (.tail _ (.tail _ (fldN_own ow el)));have e0:i=i0:=Lbl.var.inj (S.hs.inj _ _ _ _ ij ic ia).1;obtain⟨ds,n,h1,h2,nd,f⟩:=S.objAt eu;have kp:∀n∈MW.cells (.obj C ks ws),n≠j+2->∀o,s.heap.get? (y.L (.var i) n)=some o->s'.heap.get? (y.L (.var i) n)=some o:=λn hn ne o q=>keep _ o (λz=>ne (S.hs.inj _ _ _ _ (io n hn) ij z).2) (λz=>(S.hs.frm _ (.inl rfl)).2.2.2 _ _ (io n hn) z) q;obtain⟨f',ec⟩:=Flds.repl ow ow' l nd f el λn hn ne=>kp n (.tail _ (.tail _ hn)) ne;have up:updW fr (.fld i j) w'=setF fr i (.obj C ks (replW ks ws j w')):=by show(match getF fr i with|some (.obj C ks ws)=>_|_=>_)=_;rw[eu]
  rw[up];exact fin eu (by show 0::1::_=_;rw[ec];rfl) rfl rfl e0 ⟨ds,n,kp 0 (.head _) (by lia) _ h1,kp 1 (.tail _ (.head _)) (by lia) _ h2,nd,f'⟩
end
noncomputable def stAt:List Stmt->Nat->Stmt
 |[],_=>.Pass ⟨0,0,0,0⟩
 |s::_,0=>s
 |_::r,n+1=>stAt r n
noncomputable def bodyOf:Stmt->List Stmt
 |.FunctionDef (body:=b) ..=>b
 |.ClassDef (body:=b) ..=>b
 |_=>[]
noncomputable def scopeOf:Stmt->Scope
 |.FunctionDef (scope:=s) ..=>s
 |_=>{kind:=.function,names:=[],isGenerator:=false,isCoroutine:=false}
noncomputable def top:List Stmt:=PySem.Challenge.pw_nz0034_01.main.body
noncomputable def tB:List String:=["len","max","min","sum","sorted","range","tuple","list","set","zip"]
noncomputable def tG:List (String×Nat):=[("put_behind",28),("from_values",35),("least",42),("greatest",49),("size",54),("size_domains",54),("next_from",61),("has",68),("has_domains",68),("values",75),("up_to",80),("from_on",85),("without",92),("meet",99),("join",106),("negation",113),("struck",120),("Store",277),("Propagator",319),("AllDifferentBounds",369),("Matching",407),("AllDifferentValues",456),("standing",465),("Count",510),("NumberOfValues",583),("Placing",633),("Cardinality",711),("count_rule",720),("_law_dip",727),("_law_told",732),("_law_keeps",737),("_law_goal",742),("_law_beside",749),("_law_lists",754),("_law_points",759),("_law_is_led",764),("_law_is_brought",769),("law",774)]
noncomputable def tK:List Nat:=[28,35,42,49,54,61,68,75,80,85,92,99,106,113,120,277,319,369,407,456,465,510,583,633,711,720,727,732,737,742,749,754,759,764,769,774,148,162,169,176,183,190,197,204,211,225,232,239,246,253,260,346,351,356,361,366,390,397,404,434,439,446,453,488,493,500,507,535,540,547,554,559,566,573,580,604,611,618,625,630,660,665,672,677,684,689,694,701,708]
noncomputable def tF:List (Nat×Stmt×List Nat):=[(28,(stAt top 2),[46,78,57]),(35,(stAt top 3),[97]),(42,(stAt top 4),[27]),(49,(stAt top 5),[27]),(54,(stAt top 6),[27]),(61,(stAt top 8),[27,141]),(68,(stAt top 9),[27,141]),(75,(stAt top 11),[27]),(80,(stAt top 12),[27,66]),(85,(stAt top 13),[27,66]),(92,(stAt top 14),[27,141]),(99,(stAt top 15),[27,32]),(106,(stAt top 16),[27,32]),(113,(stAt top 17),[76]),(120,(stAt top 18),[76,27]),(141,(stAt (bodyOf (stAt top 21)) 0),[122]),(148,(stAt (bodyOf (stAt top 21)) 1),[122,30]),(162,(stAt (bodyOf (stAt top 21)) 3),[122,151]),(169,(stAt (bodyOf (stAt top 21)) 4),[122,151]),(176,(stAt (bodyOf (stAt top 21)) 5),[122,151]),(183,(stAt (bodyOf (stAt top 21)) 6),[122,151]),(190,(stAt (bodyOf (stAt top 21)) 7),[122,151,141]),(197,(stAt (bodyOf (stAt top 21)) 8),[122,151]),(204,(stAt (bodyOf (stAt top 21)) 9),[122,151]),(211,(stAt (bodyOf (stAt top 21)) 10),[122,151]),(225,(stAt (bodyOf (stAt top 21)) 12),[122,76,114,127]),(232,(stAt (bodyOf (stAt top 21)) 13),[122,76,114]),(239,(stAt (bodyOf (stAt top 21)) 14),[122,76]),(246,(stAt (bodyOf (stAt top 21)) 15),[122,114]),(253,(stAt (bodyOf (stAt top 21)) 16),[122]),(260,(stAt (bodyOf (stAt top 21)) 17),[122,91]),(295,(stAt (bodyOf (stAt top 22)) 0),[122,118,132]),(346,(stAt (bodyOf (stAt top 24)) 1),[122]),(351,(stAt (bodyOf (stAt top 24)) 2),[122,46]),(356,(stAt (bodyOf (stAt top 24)) 3),[122,131]),(361,(stAt (bodyOf (stAt top 24)) 4),[122,131,0,9]),(366,(stAt (bodyOf (stAt top 24)) 5),[122,126,0,9]),(383,(stAt (bodyOf (stAt top 25)) 0),[122,131,118]),(390,(stAt (bodyOf (stAt top 25)) 1),[122,106]),(397,(stAt (bodyOf (stAt top 25)) 2),[122,141,18]),(404,(stAt (bodyOf (stAt top 25)) 3),[122,141]),(434,(stAt (bodyOf (stAt top 26)) 1),[122]),(439,(stAt (bodyOf (stAt top 26)) 2),[122,46]),(446,(stAt (bodyOf (stAt top 26)) 3),[122,131]),(453,(stAt (bodyOf (stAt top 26)) 4),[122,131,107,40]),(465,(stAt top 28),[151,30]),(488,(stAt (bodyOf (stAt top 29)) 1),[122,131]),(493,(stAt (bodyOf (stAt top 29)) 2),[122,131]),(500,(stAt (bodyOf (stAt top 29)) 3),[122,97]),(507,(stAt (bodyOf (stAt top 29)) 4),[122]),(535,(stAt (bodyOf (stAt top 30)) 1),[122,131]),(540,(stAt (bodyOf (stAt top 30)) 2),[122,131]),(547,(stAt (bodyOf (stAt top 30)) 3),[122,131]),(554,(stAt (bodyOf (stAt top 30)) 4),[122,131]),(559,(stAt (bodyOf (stAt top 30)) 5),[122,131]),(566,(stAt (bodyOf (stAt top 30)) 6),[122,131,100,69,6,114]),(573,(stAt (bodyOf (stAt top 30)) 7),[122,97]),(580,(stAt (bodyOf (stAt top 30)) 8),[122]),(599,(stAt (bodyOf (stAt top 31)) 0),[122,1,79,58]),(604,(stAt (bodyOf (stAt top 31)) 1),[122,101]),(611,(stAt (bodyOf (stAt top 31)) 2),[122,86]),(618,(stAt (bodyOf (stAt top 31)) 3),[122,147]),(625,(stAt (bodyOf (stAt top 31)) 4),[122,101,147,18]),(630,(stAt (bodyOf (stAt top 31)) 5),[122,101]),(660,(stAt (bodyOf (stAt top 32)) 1),[122,141,78,57]),(665,(stAt (bodyOf (stAt top 32)) 2),[122,131,151]),(672,(stAt (bodyOf (stAt top 32)) 3),[122,131]),(677,(stAt (bodyOf (stAt top 32)) 4),[122,131]),(684,(stAt (bodyOf (stAt top 32)) 5),[122,131,108,102]),(689,(stAt (bodyOf (stAt top 32)) 6),[122,108,102]),(694,(stAt (bodyOf (stAt top 32)) 7),[122,131,108,101]),(701,(stAt (bodyOf (stAt top 32)) 8),[122,97]),(708,(stAt (bodyOf (stAt top 32)) 9),[122]),(720,(stAt top 34),[137]),(727,(stAt top 36),[39,81]),(732,(stAt top 37),[39]),(737,(stAt top 38),[137,109]),(742,(stAt top 39),[39]),(749,(stAt top 40),[39,151,141]),(754,(stAt top 41),[131]),(759,(stAt top 42),[75]),(764,(stAt top 43),[137,131,80]),(769,(stAt top 44),[39,137,80]),(774,(stAt top 45),[119])]
noncomputable def tS:List (Nat×Stmt×List Nat×Nat):=[(339,(stAt (bodyOf (stAt top 24)) 0),[122,116],369),(427,(stAt (bodyOf (stAt top 26)) 0),[122,116],456),(481,(stAt (bodyOf (stAt top 29)) 0),[122,136,142,91],510),(528,(stAt (bodyOf (stAt top 30)) 0),[122,136,91],583),(653,(stAt (bodyOf (stAt top 32)) 0),[122,136,147,79,58],711)]
noncomputable def lookN{α:Type}:List (Nat×α)->Nat->Option α
 |[],_=>none
 |(j,x)::r,i=>match aT j i with|true=>some x|false=>lookN r i
set_option smartUnfolding false in
theorem lookN_c{α:Type}{i j:Nat}{x:α}{r:List (Nat×α)}:lookN ((j,x)::r) i=match aT j i with|true=>some x|false=>lookN r i:=rfl
noncomputable def tM:List (Nat×List (Nat×Nat)):=[(277,[(94,148),(29,162),(61,169),(78,176),(57,183),(51,190),(64,197),(142,204),(148,211),(34,225),(133,232),(28,239),(38,246),(112,253),(110,260)]),(369,[(137,346),(20,351),(111,356),(77,361),(145,366)]),(456,[(137,434),(20,439),(111,446),(145,453)]),(510,[(111,488),(134,493),(20,500),(137,507)]),(583,[(111,535),(17,540),(45,547),(16,554),(11,559),(10,566),(20,573),(137,580)]),(711,[(146,660),(103,665),(111,672),(134,677),(24,684),(70,689),(135,694),(20,701),(137,708)]),(407,[(120,390),(50,397),(23,404)]),(633,[(87,604),(106,611),(41,618),(89,625),(113,630)])]
noncomputable def methA(C m:Nat):Option Nat:=match lookN tM C with|some l=>lookN l m|none=>none
noncomputable def tA:List (Nat×Nat):=[(277,348619284910541079570900197780511801737216),(369,5444850177813189806896484008266905419776),(456,5444850177813189806896484008266905419776),(510,5667743435742231697717528522433439742296064),(583,92557136109575912333598954271349365800960),(711,178498518890508058042458213893725663398985728),(407,20282448289277898092080843980800),(633,604463198037690806173954)]
noncomputable def okAt(C k:Nat):Bool:=match lookN tA C with|some m=>f7 m k|none=>false
noncomputable def tC:List (Nat×Nat):=[(277,141),(369,339),(456,427),(510,481),(583,528),(711,653),(407,383),(633,599)]
noncomputable def leafW:MW->Bool
 |.obj _ _ _=>false
 |_=>true
def asgAW(i:Nat)(z:Rz)(fr:FrL)(Q:Fw->FrL->Prop)(t:Rw):Prop:=match t with
 |.loc j=>objW (getF fr j) λC ks ws=>yes (okAt C i) (yes (leafW z.mw) (yes (cA ws.length 900) (Q .nxt (setF fr j (.obj C (putKs ks i) (putWs ks ws i z.mw))))))
 |_=>False
def attrK(i:Nat)(Q:Rw->FrL->Prop)(r:Rw)(fr1:FrL):Prop:=match r with
 |.loc j=>objW (getF fr1 j) λC ks ws=>yes (okAt C i) (sm (lookK ks ws i) λw=>fldR j i w (atF Q fr1))
 |_=>False
noncomputable def fAttr(i:Nat)(f:FE):FE:=λγ fr Q=>f γ fr (attrK i Q)
section
open Classical
variable{c:Cx}{K g:GM}{O:OM}{L:LM}{F:Addr->Prop}{s:Shared}
def Given(O:OM)(L:LM)(F2:Addr->Prop)(src:Lbl->Option Lbl)(a:Addr):Prop:=(∃x z n,src x=some z/\InO O x n/\a=L x n)∨F2 a
noncomputable def cutK(O:OM)(L:LM)(F2:Addr->Prop)(src:Lbl->Option Lbl)(s:Shared):GM:=λa=>if Given O L F2 src a then none else s.heap.get? a
theorem cutK_some{F2:Addr->Prop}{src:Lbl->Option Lbl}{a:Addr}(h:¬Given O L F2 src a):cutK O L F2 src s a=s.heap.get? a:=if_neg h
theorem HS.cut(h:HS c K g O L F s)(src:Lbl->Option Lbl){O2:OM}{L2:LM}{F2:Addr->Prop}(hF:∀a,F2 a->F a)(inj:∀x x' z,src x=some z->src x'=some z->x=x')
 (h1:∀z w,O2 z=some w->w.own=true->∃x,src x=some z/\O x=some w/\∀n,L2 z n=L x n):HS c (cutK O L F2 src s) g O2 L2 F2 s/\∀b o,K b=some o->cutK O L F2 src s b=some o:=by
 have nG:∀b,(K b).isSome=true∨(g b).isSome=true->¬Given O L F2 src b:=λb e z=>by
  have:K b=none/\g b=none:=by
   rcases z with⟨x,z,n,_,i,rfl⟩|z
   ·exact h.own x n i
   ·exact⟨(h.frm b (hF b z)).1,(h.frm b (hF b z)).2.1⟩
  rw[this.1,this.2]at e;rcases e with e|e<;>exact ff e
 have fr:∀z n,InO O2 z n->∃x,src x=some z/\InO O x n/\L2 z n=L x n:=λz n i=>by
  obtain⟨w,e,hn⟩:=i;have ow:w.own=true:=by cases w<;>first|rfl|cases hn
  refine oeaa (h1 z w e ow) λx e1 e2 e3=>?_;exact ieaa x e1 ⟨w,e2,hn⟩ (e3 n)
 have kk:∀b o,K b=some o->cutK O L F2 src s b=some o:=λb o e=>by rw[cutK_some (nG b (.inl (by rw[e];rfl)))];exact h.keepK b o e
 refine⟨⟨λb o e=>kk b o (h.base b o e),λb o e=>?_,h.keepg,h.gens,h.os,λz w e=>?_,λz n z' n' i i' e=>?_,λz n i=>?_,λa fa=>iaaa (if_pos (.inr fa)) ((h.frm a (hF a fa)).2.1) ((h.frm a (hF a fa)).2.2.1) (λz n i=>?_)⟩,kk⟩
 ·unfold cutK at e;split at e
  ·exact nos e
  ·exact e
 ·cases ow:w.own with
  |false=>cases w<;>first|trivial|cases ow
  |true=>
   refine oeaa (h1 z w e ow) λx _ e2 e3=>?_;exact(h.node x w e2).at (.refl g) λn _=>⟨e3 n,λ_ q=>q⟩
 ·refine oeaa (fr z n i) λx a1 a2 a3=>?_;refine oeaa (fr z' n' i') λx' b1 b2 b3=>?_;clear i';simp only[a3,b3]at e;clear b3;obtain⟨rfl,rfl⟩:=h.inj _ _ _ _ a2 b2 e;replace b1:=(a1)▸b1;refine(ab.inj b1)▸?_;exact⟨rfl,rfl⟩
 ·refine oeaa (fr z n i) λx a1 a2 a3=>?_;exact⟨if_pos (.inl (ieeeaa x z n a1 a2 a3)),by rw[a3];exact(h.own x n a2).2⟩
 ·refine oeaa (fr z n i) λx a1 a2 a3=>?_;rw[a3];exact(h.frm a (hF a fa)).2.2.2 x n a2
inductive Back(O O3:OM)(L L3 L':LM)(src:Lbl->Option Lbl)(R:Lbl->Lbl->Prop)(x:Lbl)(w:MW):Prop
 |came (z:Lbl) (r:R x z) (e:O3 z=some w) (l:∀n,L' x n=L3 z n):Back O O3 L L3 L' src R x w
 |old (n:src x=none) (e:O x=some w) (l:∀n,L' x n=L x n):Back O O3 L L3 L' src R x w
theorem HS.join(h:HS c K g O L F s){src:Lbl->Option Lbl}{F2 F3:Addr->Prop}(hF:∀a,F2 a->F a)(kk:∀b o,K b=some o->cutK O L F2 src s b=some o){s':Shared}{g':GM}{O3:OM}{L3:LM}(h3:HS c (cutK O L F2 src s) g' O3 L3 F3 s')(ge:GExt (cutK O L F2 src s) g g')(hF3:∀a,F2 a->F3 a)
 (R:Lbl->Lbl->Prop) (inj:∀x x' z,R x z->R x' z->x=x') {O':OM} {L':LM} (hO:∀x w,O' x=some w->Back O O3 L L3 L' src R x w):HS c K g' O' L' F s'/\GExt K g g':=by
 have old:∀x n,src x=none->InO O x n->cutK O L F2 src s (L x n)=s.heap.get? (L x n):=λx n e i=>cutK_some λz=>by
  rcases z with⟨x',z,n',e',i',q⟩|z
  ·obtain⟨rfl,_⟩:=h.inj _ _ _ _ i i' q;replace e':=(e)▸e';exact nos e'
  ·exact(h.frm _ (hF _ z)).2.2.2 x n i rfl
 have oldS:∀x n,src x=none->InO O x n->(cutK O L F2 src s (L x n)).isSome=true:=λx n e i=>by rw[old x n e i];exact h.lives i
 have fr:∀x n,InO O' x n->(∃z,R x z/\InO O3 z n/\L' x n=L3 z n)∨(src x=none/\InO O x n/\L' x n=L x n):=λx n i=>by
  obtain⟨w,e,hn⟩:=i;rcases hO x w e with⟨z,r,e,l⟩|⟨r,e,l⟩
  ·exact .inl (ieaa z r ⟨w,e,hn⟩ (l n))
  ·exact .inr ⟨r,⟨w,e,hn⟩,l n⟩
 have ap:∀z n x n',InO O3 z n->src x=none->InO O x n'->L3 z n≠L x n':=λz n x n' i e i' q=>by
  have a:=(h3.own z n i).1;have b:=oldS x n' e i';rw[←q,a]at b;exact ff b
 have frk:∀a,F a->¬F2 a->cutK O L F2 src s a=s.heap.get? a:=λa fa n=>cutK_some λz=>by
  rcases z with⟨x,z,n',_,i,q⟩|z
  ·exact(h.frm a fa).2.2.2 x n' i q.symm
  ·exact n z
 refine iaa ⟨h.base,λb o e=>h3.keepK b o (kk b o e),h3.keepg,h3.gens,h3.os,λx w e=>?_,λx n x' n' i i' e=>?_,λx n i=>?_,λa fa=>?_⟩ ge.1 (λa e k=>?_)
 ·rcases hO x w e with⟨z,r,e,l⟩|⟨r,e,l⟩
  ·exact(h3.node z w e).at (.refl _) λn _=>⟨l n,λ_ q=>q⟩
  ·exact(h.node x w e).at ge.1 λn hn=>⟨l n,λo q=>h3.keepK _ o (by rw[old x n r ⟨w,e,hn⟩];exact q)⟩
 ·rcases fr x n i with⟨z,r,j,l⟩|⟨r,j,l⟩<;>rcases fr x' n' i' with⟨z',r',j',l'⟩|⟨r',j',l'⟩<;>simp only[l,l']at e
  ·clear i';obtain⟨rfl,rfl⟩:=h3.inj _ _ _ _ j j' e;exact⟨inj _ _ _ r r',rfl⟩
  ·exact absurd e (ap _ _ _ _ j r' j')
  ·exact absurd e.symm (ap _ _ _ _ j' r j)
  ·exact h.inj _ _ _ _ j j' e
 ·rcases fr x n i with⟨z,r,j,l⟩|⟨r,j,l⟩<;>refine(l).symm▸?_
  ·obtain⟨a,b⟩:=h3.own z n j;refine⟨?_,b⟩;cases q:K (L3 z n)with
   |none=>rfl
   |some o=>replace a:=(kk _ o q)▸a;injection a
  ·exact⟨(h.own x n j).1,ge.2 _ (h.own x n j).2 (oldS x n r j)⟩
 ·by_cases f2:F2 a
  ·have a3:=h3.frm a (hF3 a f2);refine iaaa ((h.frm a fa).1) a3.2.1 a3.2.2.1 (λx n i=>?_);rcases fr x n i with⟨z,r,j,l⟩|⟨r,j,l⟩<;>rw[l]
   ·exact a3.2.2.2 z n j
   ·exact(h.frm a fa).2.2.2 x n j
  ·have e:=frk a fa f2;have lv:=(h.frm a fa).2.2.1;obtain⟨o,q⟩:=bw.mp lv;refine iaaa ((h.frm a fa).1) (ge.2 a (h.frm a fa).2.1 (by rw[e];exact lv)) (by rw[h3.keepK a o (e.trans q)];rfl) (λx n i z=>?_);rcases fr x n i with⟨y,r,j,l⟩|⟨r,j,l⟩
   ·have b:=(h3.own y n j).1;simp only[←l,z,e,q]at b;injection b
   ·exact(h.frm a fa).2.2.2 x n j (l.symm.trans z)
 ·obtain⟨o,q⟩:=bw.mp k;exact ge.2 a e (by rw[kk a o q];rfl)
end
noncomputable abbrev FF:=List MW->(Rz->List MW->Prop)->Prop
noncomputable def omL(ws:List MW):OM:=λl=>match l with
 |.tmp k=>ws[k]?
 |.var _=>none
def VsOk(g:GM)(L:LM):Nat->List MW->List Value->Prop
 |_,[],xs=>xs=[]
 |n,w::ws,xs=>CnAt (λv=>ValW g (L (.tmp n) 0) w v) (λvs=>VsOk g L (n+1) ws vs) xs
def SameW:List MW->List MW->Prop
 |[],ws'=>ws'=[]
 |w::ws,ws'=>∃w' r,ws'=w'::r/\(w.own=false->w'=w)/\w'.own=w.own/\SameW ws r
noncomputable def Rz.ws:Rz->List MW
 |.v _=>[]
 |.fresh w=>[w]
def ResV(g:GM)(a:Addr)(z:Rz)(val:Value):Prop:=match z with
 |.v x=>Rep g x val
 |.fresh w=>w.own=true/\val=.ref a
inductive FP(c:Cx)(K g:GM)(L:LM)(ws:List MW)(Q:Rz->List MW->Prop)(val:Value)(s':Shared):Prop
 |mk (g':GM) (L':LM) (ws':List MW) (z:Rz) (ge:GExt K g g') (sm:SameW ws ws') (ad:∀i<ws.length,L' (.tmp i) 0=L (.tmp i) 0) (hs:HS c K g' (omL (ws'++z.ws)) L' (λ_=>False) s') (rv:ResV g' (L' (.tmp ws.length) 0) z val) (q:Q z ws'):FP c K g L ws Q val s'
def FSW(c:Cx)(k:Nat)(f:Value)(F:FF):Prop:=
 ∀K g L ws vals A s Q,Rm k A->HS c K g (omL ws) L (λ_=>False) s->VsOk g L 0 ws vals->F ws Q->codeAny c.M A (.call f ⟨vals,[]⟩) (λr s'=>∃val,r=.ok (.ret val)/\FP c K g L ws Q val s') s
theorem FSW.of{c:Cx}{k:Nat}{f:Value}{F F':FF}(h:FSW c k f F)(w:∀ws Q,F' ws Q->F ws Q):FSW c k f F':=
 λK g L ws vals A s Q rm hs hv q=>h K g L ws vals A s Q rm hs hv (w ws Q q)
inductive CallF(γ:Ct)(f:Nat)(ws:List MW)(Q:Rz->List MW->Prop):Prop
 |mk (k':Nat) (F:FF) (e:FSW γ.c k' (.ref f) F) (hk:k'<=γ.k) (h:F ws Q):CallF γ f ws Q
noncomputable def argW(fr:FrL):Ow->Option MW
 |.v x=>some (.v x)
 |.loc i=>match getF fr i with
  |some w=>(match w.own with|true=>some w|false=>none)
  |none=>none
 |.fld _ _=>none
noncomputable def argsW(fr:FrL):List Ow->Option (List MW)
 |[]=>some []
 |o::os=>match argW fr o with
  |some w=>(match argsW fr os with|some ws=>some (w::ws)|none=>none)
  |none=>none
set_option smartUnfolding false in
theorem argsW_c{fr:FrL}{o:Ow}{os:List Ow}:argsW fr (o::os)=match argW fr o with|some w=>(match argsW fr os with|some ws=>some (w::ws)|none=>none)|none=>none:=rfl
noncomputable def locsW:List Ow->List Nat
 |[]=>[]
 |o::os=>match o with|.loc i=>i::locsW os|_=>locsW os
noncomputable def memN(i:Nat):List Nat->Bool
 |[]=>false
 |j::r=>match aT j i with|true=>true|false=>memN i r
noncomputable def nodupN:List Nat->Bool
 |[]=>true
 |i::r=>match memN i r with|true=>false|false=>nodupN r
noncomputable def putW:List Ow->List MW->FrL->FrL
 |o::os,w::ws,fr=>(match o with|.loc i=>setF (putW os ws fr) i w|_=>putW os ws fr)
 |_,_,fr=>fr
def callK(os:List Ow)(fr:FrL)(Q:Rw->FrL->Prop)(r:Rz)(ws':List MW):Prop:=Q r.toRw (putW os ws' fr)
def callOs(γ:Ct)(f:Nat)(os:List Ow)(fr:FrL)(Q:Rw->FrL->Prop):Prop:=match argsW fr os with
 |some ws=>yes (nodupN (locsW os)) (CallF γ f ws (callK os fr Q))
 |none=>False
theorem memN_iff(i:Nat):∀l:List Nat,memN i l=true↔i∈l
 |[]=>⟨λh=>ff h,λh=>(aN h).elim⟩
 |j::r=>by
  dsimp only[memN];cases h:aT j i with
  |true=>simp[az h]
  |false=>
   have:=bG h;rw[aj,memN_iff i r];exact⟨.inr,λz=>z.resolve_left λz=>this z.symm⟩
theorem nodupN_cons{i:Nat}{r:List Nat}(h:nodupN (i::r)=true):i∉r/\nodupN r=true:=by
 dsimp only[nodupN]at h;cases e:memN i r with
 |true=>replace h:=(e)▸h;exact ff h
 |false=>
  replace h:=(e)▸h;exact⟨(λz=>by replace e:=((memN_iff i r).mpr z)▸e;injection e),h⟩
noncomputable def argIx(n:Nat):List Ow->Nat->Option Nat
 |[],_=>none
 |o::os,i=>match o with
  |.loc j=>if i=j then some n else argIx (n+1) os i
  |_=>argIx (n+1) os i
set_option smartUnfolding false in
theorem argIx_c{n i:Nat}{o:Ow}{os:List Ow}:argIx n (o::os) i=match o with|.loc j=>if i=j then some n else argIx (n+1) os i|_=>argIx (n+1) os i:=rfl
section
variable{c:Cx}{k:Nat}{sc:Scope}{Z:Fx}{y y':Gl}{fr:FrL}{s s':Shared}{A:Around}{os:List Ow}{ws ws':List MW}
theorem argIx_mem:∀{os:List Ow} {n i j:Nat},argIx n os i=some j->i∈locsW os/\n<=j:=by
 intro os
 induction os with
 |nil=>intro n i j e;exact nos e
 |cons o os ih=>
  intro n i j e;rw[argIx_c]at e;cases o with
  |loc a=>
   dsimp only at e;split at e
   ·rename_i z;refine(ab.inj e)▸?_;exact⟨by rw[z];exact .head _,aI _⟩
   ·obtain⟨h1,h2⟩:=ih e;exact⟨.tail _ h1,bU h2⟩
  |_=>obtain⟨h1,h2⟩:=ih e;exact⟨h1,bU h2⟩
theorem argIx_inj:∀{os:List Ow} {n i i' j:Nat},argIx n os i=some j->argIx n os i'=some j->i=i':=by
 intro os
 induction os with
 |nil=>intro n i i' j e;exact nos e
 |cons o os ih=>
  intro n i i' j e e';rw[argIx_c]at e e';cases o with
  |loc a=>
   dsimp only at e e';split at e<;>split at e'
   ·rename_i z z';exact z.trans z'.symm
   ·obtain rfl:=ab.inj e;exact absurd (argIx_mem e').2 (bF _)
   ·obtain rfl:=ab.inj e';exact absurd (argIx_mem e).2 (bF _)
   ·exact ih e e'
  |_=>exact ih e e'
theorem argLoc{i:Nat}{w:MW}(h:argW fr (.loc i)=some w):getF fr i=some w/\w.own=true:=by
 have h:(match getF fr i with|some w=>(match w.own with|true=>some w|false=>none)|none=>none)=some w:=h;cases q:getF fr i with
 |none=>replace h:=(q)▸h;exact nos h
 |some w0=>
  replace h:=(q)▸h;dsimp only at h;cases o:w0.own with
  |true=>rw[o]at h;refine(ab.inj h)▸?_;exact⟨rfl,o⟩
  |false=>replace h:=(o)▸h;exact nos h
theorem argIx_get:∀{os:List Ow} {ws:List MW} {n i j:Nat},argsW fr os=some ws->argIx n os i=some j->∃w,ws[j-n]?=some w/\getF fr i=some w/\w.own=true:=by
 intro os
 induction os with
 |nil=>intro ws n i j _ e;exact nos e
 |cons o os ih=>
  intro ws n i j ea e;replace ea:=(argsW_c)▸ea;cases e1:argW fr o with
  |none=>replace ea:=(e1)▸ea;exact nos ea
  |some w=>
   replace ea:=(e1)▸ea;cases e2:argsW fr os with
   |none=>replace ea:=(e2)▸ea;exact nos ea
   |some r=>
    replace ea:=(e2)▸ea;injection ea with ea;subst ea
    have next:argIx (n+1) os i=some j->∃v,(w::r)[j-n]?=some v/\getF fr i=some v/\v.own=true:=λe=>by
     refine oea (ih e2 e) λv h1 h2=>?_;have:=(argIx_mem e).2;exact iea v (by rw[(eI (fO this)).symm];exact h1) h2
    replace e:=(argIx_c)▸e;cases o with
    |loc a=>
     dsimp only at e;split at e
     ·rename_i z;injection e with e;refine e.symm▸?_;refine z▸?_
      exact iea w (by rw[cZ];rfl) (argLoc e1)
     ·exact next e
    |_=>exact next e
theorem argIx_all:∀{os:List Ow} {ws:List MW} {n j:Nat} {w:MW},argsW fr os=some ws->nodupN (locsW os)=true->ws[j]?=some w->w.own=true->∃i,argIx n os i=some (n+j):=by
 intro os
 induction os with
 |nil=>intro ws n j w ea _ e;obtain rfl:=ab.inj ea;exact nos e
 |cons o os ih=>
  intro ws n j w ea nd e ow;replace ea:=(argsW_c)▸ea;cases e1:argW fr o with
  |none=>replace ea:=(e1)▸ea;exact nos ea
  |some w0=>
   replace ea:=(e1)▸ea;cases e2:argsW fr os with
   |none=>replace ea:=(e2)▸ea;exact nos ea
   |some r=>
    replace ea:=(e2)▸ea;injection ea with ea;subst ea
    cases o with
    |v x=>cases j with
     |zero=>injection e with e;subst e;obtain rfl:=ab.inj e1;exact ff ow
     |succ j=>obtain⟨i,h⟩:=ih (n:=n+1) e2 nd e ow;exact⟨i,h.trans (by rw[aH];rfl)⟩
    |fld a b=>exact nos e1
    |loc a=>
     obtain⟨n1,n2⟩:=nodupN_cons nd;cases j with
     |zero=>exact⟨a,if_pos rfl⟩
     |succ j=>
      obtain⟨i,h⟩:=ih (n:=n+1) e2 n2 e ow;exact⟨i,(if_neg λz:i=a=>n1 (z▸(argIx_mem h).1)).trans (h.trans (by rw[aH];rfl))⟩
theorem args_len:∀{os:List Ow} {ws:List MW},argsW fr os=some ws->ws.length=os.length:=by
 intro os
 induction os with
 |nil=>intro ws ea;refine(ab.inj ea)▸?_;rfl
 |cons o os ih=>
  intro ws ea;replace ea:=(argsW_c)▸ea;cases e1:argW fr o with
  |none=>replace ea:=(e1)▸ea;exact nos ea
  |some w0=>
   replace ea:=(e1)▸ea;cases e2:argsW fr os with
   |none=>replace ea:=(e2)▸ea;exact nos ea
   |some r=>replace ea:=(e2)▸ea;injection ea with ea;subst ea;exact congrArg bz (ih e2)
theorem SameW.get:∀{ws ws':List MW},SameW ws ws'->ws'.length=ws.length/\∀(j:Nat) (w:MW),ws[j]?=some w->∃w':MW,ws'[j]?=some w'/\w'.own=w.own:=by
 intro ws
 induction ws with
 |nil=>rintro ws' rfl;exact⟨rfl,λj w e=>nomatch e⟩
 |cons w ws ih=>
  rintro ws' ⟨w',r,rfl,h1,h2,h3⟩;obtain⟨i1,i2⟩:=ih h3;refine⟨congrArg bz i1,λj v e=>?_⟩;cases j with
  |zero=>refine(ab.inj e)▸?_;exact iea w' rfl h2
  |succ j=>exact i2 j v e
theorem putW_get:∀{os:List Ow} {n i:Nat} {ws':List MW} {w:MW},os.length=ws'.length->getF (putW os ws' fr) i=some w->(argIx n os i=none/\getF fr i=some w)∨∃j,argIx n os i=some (n+j)/\ws'[j]?=some w:=by
 intro os
 induction os with
 |nil=>intro n i ws' w hl e;cases ws' with
  |nil=>exact .inl ⟨rfl,e⟩
  |cons _ _=>injection hl
 |cons o os ih=>
  intro n i ws' w hl e;cases ws' with
  |nil=>injection hl
  |cons w1 r=>
   have hl:=bz.inj hl;have nx:getF (putW os r fr) i=some w->(argIx (n+1) os i=none/\getF fr i=some w)∨∃j,argIx (n+1) os i=some (n+j)/\(w1::r)[j]?=some w:=λe=>by
    rcases ih (n:=n+1) hl e with h|⟨j,h1,h2⟩
    ·exact .inl h
    ·exact .inr ⟨j+1,h1.trans (by rw[aH];rfl),h2⟩
   refine(argIx_c).symm▸?_;cases o with
   |loc a=>
    have e:getF (setF (putW os r fr) a w1) i=some w:=e;clear hl;rw[getF_setF]at e;dsimp only;split at e
    ·rename_i z;refine(ab.inj e)▸?_;refine(if_pos z).symm▸?_;exact .inr (iea 0 rfl rfl)
    ·rename_i z;refine(if_neg z).symm▸?_;exact nx e
   |_=>exact nx e
theorem VsOk_of:∀{os:List Ow} {ws:List MW} {vals:List Value} {n:Nat} {L2:LM},argsW fr os=some ws->OsOk y os vals->nodupN (locsW os)=true->(∀i j,argIx n os i=some j->L2 (.tmp j) 0=y.L (.var i) 0)->VsOk y.g L2 n ws vals:=by
 intro os
 induction os with
 |nil=>intro ws vals n L2 ea ho _ _;refine(ab.inj ea)▸?_;exact ho
 |cons o os ih=>
  intro ws vals n L2 ea ho nd hL;replace ea:=(argsW_c)▸ea;cases e1:argW fr o with
  |none=>replace ea:=(e1)▸ea;exact nos ea
  |some w0=>
   replace ea:=(e1)▸ea;cases e2:argsW fr os with
   |none=>replace ea:=(e2)▸ea;exact nos ea
   |some r=>
    replace ea:=(e2)▸ea;injection ea with ea;subst ea
    obtain⟨v,vs,rfl,h1,h2⟩:=ho;cases o with
    |v x=>refine(ab.inj e1)▸?_;exact⟨v,vs,rfl,h1,ih e2 h2 nd hL⟩
    |fld a b=>exact nos e1
    |loc a=>
     obtain⟨n1,n2⟩:=nodupN_cons nd;refine⟨v,vs,rfl,?_,ih e2 h2 n2 λi j e=>hL i j ((if_neg λz:i=a=>n1 (z▸(argIx_mem e).1)).trans e)⟩;exact .of (argLoc e1).2 ((h1).trans (by rw[hL a n (if_pos rfl)]))
theorem call_run{f:Value}{F:FF}{vals:List Value}{Q:Rw->FrL->Prop}{t:Sem Value}(h:FSW c k f F)(rm:Rm k Z.A)(S:St c Z y fr s)(ho:OsOk y os vals)(ea:argsW fr os=some ws)(nd:nodupN (locsW os)=true)(hF:F ws λz ws'=>Q z.toRw (putW os ws' fr))
 (run:∀R:Value->Shared->Prop,codeAny c.M Z.A (.call f ⟨vals,[]⟩) (λr s'=>∃val,r=.ok (.ret val)/\R val s') s->wpAny c.M Z.A t R noE s):wpAny c.M Z.A t (P Z y false (RE c) Q) noE s:=by
 let src:Lbl->Option Lbl:=λl=>match l with
  |.var i=>(argIx 0 os i).map Lbl.tmp
  |.tmp _=>none
 have sx:∀{x z},src x=some z->∃i j,x=.var i/\z=.tmp j/\argIx 0 os i=some j:=λ{x z} e=>by
  cases x with
  |tmp _=>exact nos e
  |var i=>refine oea (dj.mp e) λj e1 z_=>?_;refine z_▸?_;exact ieeaa i j rfl rfl e1
 have hL2:∃L2:LM,∀i j,argIx 0 os i=some j->L2 (.tmp j)=y.L (.var i):=by
  classical
  refine⟨λl=>match l with
   |.tmp j=>if e:∃i,argIx 0 os i=some j then y.L (.var e.choose)else λ_=>0
   |.var _=>λ_=>0,λi j e=>?_⟩
  have ex:∃i,argIx 0 os i=some j:=⟨i,e⟩;show(if e:∃i,argIx 0 os i=some j then y.L (.var e.choose)else λ_=>0)=_;rw[dif_pos ex,argIx_inj ex.choose_spec e]
 obtain⟨L2,hL2⟩:=hL2;obtain⟨hc,kk⟩:=S.hs.cut src (O2:=omL ws) (L2:=L2) (F2:=λ_=>False) (λ_ z=>z.elim) (λx x' z e e'=>by
  refine oeeaa (sx e) λi j z_ z121_ e1=>?_;refine z_▸?_;subst z121_;refine oeeaa (sx e') λi' j' z_ e2 e3=>?_;refine z_▸?_;injection e2 with e2;subst e2;rw[argIx_inj e1 e3]) λz w e ow=>by
  cases z with
  |var _=>exact nos e
  |tmp j=>
   obtain⟨i,hi⟩:=argIx_all (n:=0) ea nd e ow;rw[bB]at hi;refine oeaa (argIx_get ea hi) λw' h1 h2 _=>?_;have h1:ws[j]?=some w':=h1;replace h1:=(show ws[j]?=some w from e)▸h1;refine(ab.inj h1)▸?_;exact ieaa (.var i) (congrArg (eW Lbl.tmp) hi) h2 (λn=>congrFun (hL2 i j hi) n)
 refine wpAny_mono (run _ (h _ _ L2 ws vals Z.A s _ rm hc (VsOk_of ea ho nd λi j e=>by rw[hL2 i j e]) hF)) (λval s' fp=>?_) λ_ _ x=>x;obtain⟨g',L3,ws',z,ge,sm,ad,hs3,rv,q⟩:=fp;obtain⟨sl,sg⟩:=sm.get;have wl:=args_len ea
 let L':LM:=λl=>match l with
  |.var i=>(match argIx 0 os i with|some j=>λn=>if n=0 then y.L (.var i) 0 else L3 (.tmp j) n|none=>y.L (.var i))
  |.tmp m=>if m<Z.X.length then y.L (.tmp m)else L3 (.tmp ws.length)
 have l0:∀i,L' (.var i) 0=y.L (.var i) 0:=λi=>by
  show(match argIx 0 os i with|some j=>λn=>if n=0 then y.L (.var i) 0 else L3 (.tmp j) n|none=>y.L (.var i)) 0=_;cases argIx 0 os i with
  |none=>rfl
  |some j=>exact if_pos rfl
 have lj:∀i j,argIx 0 os i=some j->∀n,L' (.var i) n=L3 (.tmp j) n:=λi j e n=>by
  show(match argIx 0 os i with|some j=>λn=>if n=0 then y.L (.var i) 0 else L3 (.tmp j) n|none=>y.L (.var i)) n=_;refine(e).symm▸?_;dsimp only;split
  ·rename_i z;refine oea (argIx_get ea e) λw h1 _=>?_;simp only[z,ad j (ac.mp h1).1,hL2 i j e]
  ·rfl
 have put:∀i w,getF (putW os ws' fr) i=some w->(argIx 0 os i=none/\getF fr i=some w)∨∃j,argIx 0 os i=some j/\ws'[j]?=some w:=λi w e=>by
  rcases putW_get (n:=0) (wl.symm.trans sl.symm) e with h|⟨j,h1,h2⟩
  ·exact .inl h
  ·exact .inr ⟨j,by rw[h1,bB],h2⟩
 have hinj:∀x x' z',((∃i j,x=Lbl.var i/\z'=Lbl.tmp j/\argIx 0 os i=some j)∨(x=.tmp Z.X.length/\z'=.tmp ws.length))->((∃i j,x'=Lbl.var i/\z'=Lbl.tmp j/\argIx 0 os i=some j)∨(x'=.tmp Z.X.length/\z'=.tmp ws.length))->x=x':=λx x' z' r r'=>by
  rcases r with⟨i,j,rfl,rfl,e1⟩|⟨rfl,rfl⟩<;>rcases r' with⟨i',j',rfl,e2,e3⟩|⟨rfl,e2⟩
  ·injection e2 with e2;subst e2;rw[argIx_inj e1 e3]
  ·cases e2;obtain⟨w,h1,_⟩:=argIx_get ea e1;exact absurd (ac.mp h1).1 (bQ _)
  ·injection e2 with e2;subst e2;refine oea (argIx_get ea e3) λw h1 _=>?_;exact absurd (ac.mp h1).1 (bQ _)
  ·rfl
 obtain⟨hj,gx⟩:=S.hs.join (O':=om (putW os ws' fr) (Z.X++z.ws)) (L':=L') (λ_ z=>z.elim) kk hs3 ge (λ_ z=>z.elim) (λx z=>(∃i j,x=.var i/\z=.tmp j/\argIx 0 os i=some j)∨(x=.tmp Z.X.length/\z=.tmp ws.length)) hinj λx w e=>by
  cases x with
  |var i=>
   rcases put i w e with⟨h1,h2⟩|⟨j,h1,h2⟩
   ·exact .old (by show eW _ _=_;rw[h1];rfl) h2 λn=>by
     show(match argIx 0 os i with|some j=>λn=>if n=0 then y.L (.var i) 0 else L3 (.tmp j) n|none=>y.L (.var i)) n=_;rw[h1]
   ·exact .came (.tmp j) (.inl (ieeaa i j rfl rfl h1)) (by show(ws'++z.ws)[j]?=some w;rw[aS (ac.mp h2).1];exact h2) (lj i j h1)
  |tmp m=>
   have e:(Z.X++z.ws)[m]?=some w:=e;by_cases hm:m<Z.X.length
   ·replace e:=(aS hm)▸e;exact .old rfl e λn=>congrFun (if_pos hm) n
   ·have hm':=aW.mp hm;rw[bt hm']at e;have e0:m-Z.X.length=0:=by
     have:=(ac.mp e).1;cases z with
     |v x=>cases this
     |fresh w=>exact e9.mp this
    have em:m=Z.X.length:=bC (dx.mp e0) hm';rw[e0]at e;refine .came (.tmp ws.length) (.inr ⟨by rw[em],rfl⟩) ?_ λn=>congrFun (if_neg hm) n;show(ws'++z.ws)[ws.length]?=some w;refine(sl)▸?_;rw[bt (aI _),cZ];exact e
 have T:St c {Z with X:=Z.X++z.ws} ⟨g',L'⟩ (putW os ws' fr) s':=S.of hj (λa o fa na e=>hs3.keepK a o (by
  rw[cutK_some];exact e;rintro(⟨x,z,n,_,i,q⟩|z)
  ·exact(S.hs.frm a fa).2.2.2 x n i q.symm
  ·exact z)) (λm ⟨o,es,ep,e,r⟩=>ieeea o es ep (hs3.keepK _ o (by
  rw[cutK_some];exact e;rintro(⟨x,z,n,_,i,q⟩|z)
  ·exact(S.hs.frm _ (.inl rfl)).2.2.2 x n i q.symm
  ·exact z)) r) λi w' e=>by
  rcases put i w' e with⟨h1,h2⟩|⟨j,h1,h2⟩
  ·exact iea w' h2 (λval hv=>by rw[l0];exact hv.mono gx.1)
  ·refine oeaa (argIx_get ea h1) λw h3 h4 h5=>?_;refine oea (sg j w h3) λw'' h6 h7=>?_;replace h6:=(h2)▸h6;refine(ab.inj h6)▸?_;exact iea w h4 (λval hv=>.of (h7.trans h5) ((hv.ref h5).trans (by rw[l0])))
 refine⟨⟨g',L'⟩,_,z.toRw,⟨gx,l0,λe=>(nomatch e),λj hj n=>congrFun (if_pos hj) n⟩,?_,q⟩;cases z with
 |v x=>exact⟨by have T:St c {Z with X:=Z.X++[]} _ _ _:=T;rw[aM]at T;exact T,rv⟩
 |fresh w=>exact iaa T rv.1 (rv.2.trans (congrArg Value.ref (congrFun (if_neg (bQ _)) 0).symm))
end
def callK1(a:Nat)(γ:Ct)(Q:Rw->FrL->Prop)(os:List Ow)(fr:FrL):Prop:=callOs γ a os fr Q
noncomputable def fCall(a:Nat)(fs:Pw (List Ow)):FE:=λγ fr Q=>fs γ fr (callK1 a γ Q)
noncomputable abbrev FBi:=List Ow->FrL->(Rw->FrL->Prop)->Prop
def biK(F:FBi)(Q:Rw->FrL->Prop)(os:List Ow)(fr:FrL):Prop:=F os fr Q
noncomputable def fBi(F:FBi)(fs:Pw (List Ow)):FE:=λγ fr Q=>fs γ fr (biK F Q)
def one(os:List Ow)(q:Ow->Prop):Prop:=match os with
 |o::r=>(match r with|[]=>q o|_=>False)
 |_=>False
noncomputable def intsOf:List V->Option (List Int)
 |[]=>some []
 |x::r=>match x with
  |.int i=>(match intsOf r with|some is=>some (i::is)|none=>none)
  |_=>none
set_option smartUnfolding false in
theorem intsOf_c{x:V}{r:List V}:intsOf (x::r)=match x with|.int i=>(match intsOf r with|some is=>some (i::is)|none=>none)|_=>none:=rfl
theorem intsOf_map:∀ns:List Int,intsOf (ns.map .int)=some ns
 |[]=>rfl
 |n::ns=>by rw[aD,intsOf_c,intsOf_map ns]
def int1(os:List Ow)(q:Int->Prop):Prop:=one os λo=>intW o q
inductive LMt where
 |append|pop|extend|index|count|text
def lmName:LMt->Str->Prop
 |.append,x=>x=Str.ofString "append"
 |.pop,x=>x=Str.ofString "pop"
 |.extend,x=>x=Str.ofString "extend"
 |.index,x=>x=Str.ofString "index"
 |.count,x=>x=Str.ofString "count"
 |.text,_=>True
noncomputable def lmId:LMt->String
 |.append=>"list.append"
 |.pop=>"list.pop"
 |.extend=>"list.extend"
 |.index=>"list.index"
 |.count=>"list.count"
 |.text=>""
noncomputable def lmList:LMt->Bool
 |.text=>false
 |_=>true
noncomputable def rangeI(l h:Int):List Int:=(ao (h-l).toNat).map λ(i:Nat)=>l+(i:Int)
noncomputable def elemsF:V->Option (List V)
 |.tup vs=>some vs
 |.lst vs=>some vs
 |.rng lo hi=>some ((rangeI lo hi).map .int)
 |_=>none
def valW(o:Ow)(q:V->Prop):Prop:=match o with|.v x=>q x|_=>False
def listAt(fr:FrL)(o:Ow)(q:List V->Prop):Prop:=match plW fr o with
 |some w=>(match w with|.list vs=>q vs|_=>False)
 |none=>False
def nilW(os:List Ow)(X:Prop):Prop:=match os with|[]=>X|_=>False
def lmW(lm:LMt)(o:Ow)(os:List Ow)(fr:FrL)(Q:Rw->FrL->Prop):Prop:=match lm with
 |.append=>one os λa=>valW a λx=>listAt fr o λvs=>Sz vs.length 4096 (Q (.v .none) (updW fr o (.list (vs++[x]))))
 |.pop=>nilW os (listAt fr o λvs=>Sz vs.length 4096 (It vs.getLast? λv=>Q (.v v) (updW fr o (.list vs.dropLast))))
 |.extend=>one os λa=>valW a λx=>listAt fr o λvs=>sm (elemsF x) λws=>Sz (vs.length+ws.length) 8192 (Q (.v .none) (updW fr o (.list (vs++ws))))
 |.index=>int1 os λi=>listAt fr o λvs=>It (intsOf vs) λns=>Pr (ns.length<=4096/\i∈ns) (Q (.v (.int (ns.idxOf i))) fr)
 |_=>False
def isLoc(o:Ow)(X:Prop):Prop:=match o with|.loc _=>X|_=>False
def onLst(x:V)(lm:LMt)(F:List V->Prop):Prop:=match x with
 |.lst vs=>(match lm with|.count=>F vs|_=>False)
 |_=>False
theorem onLst_out{x:V}{lm:LMt}{F:List V->Prop}(h:onLst x lm F):∃vs,x=.lst vs/\lm=.count/\F vs:=by
 cases x with
 |lst vs=>cases lm with
  |count=>exact ieaa vs rfl rfl h
  |_=>exact h.elim
 |_=>exact h.elim
def methK1(f:Nat)(o:Ow)(γ:Ct)(Q:Rw->FrL->Prop)(os:List Ow)(fr:FrL):Prop:=callOs γ f (o::os) fr Q
def methK2(lm:LMt)(b2:Bool)(o:Ow)(Q:Rw->FrL->Prop)(os:List Ow)(fr:FrL):Prop:=deep b2 o (lmW lm o os fr Q)
def methK(m:Nat)(lm:LMt)(fs:Pw (List Ow))(b2:Bool)(γ:Ct)(Q:Rw->FrL->Prop)(o:Ow)(fr1:FrL):Prop:=match plW fr1 o with
 |some w=>(match w with
  |.obj C ks _=>isLoc o (sm (methA C m) λf=>yes (!memN m ks) (fs γ fr1 (methK1 f o γ Q)))
  |.list _=>yes (lmList lm) (fs γ fr1 (methK2 lm b2 o Q))
  |_=>False)
 |none=>valW o λx=>onLst x lm λvs=>fs γ fr1 λos fr2=>int1 os λi=>It (intsOf vs) λns=>Q (.v (.int (ns.count i))) fr2
noncomputable def fMeth(m:Nat)(lm:LMt)(fo:FO)(fs:Pw (List Ow))(b2:Bool):FE:=λγ fr Q=>fo γ fr (methK m lm fs b2 γ Q)
structure MethOk(c:Cx)(C:Addr)(name:Str)(f:Addr):Prop where
 plain:plainGet c.Kf C name=true
 attr:findIn c.Kf (.ref C) name=some (some (.ref f))
 fn:isFn c.Kf (.ref f)=true
structure KA(c:Cx):Prop where
 at_:∀C k,okAt C k=true->GetOk c C k/\SetOk c C k
 m:∀C m a,methA C m=some a->MethOk c C (nm m) a/\keepIn c.Kf (.ref a)=true
section
variable{c:Cx}
def CallW(c:Cx)(f:Value)(es:List Expr):Prop:=
 ∀env pos A s first (Q:Value->Shared->Prop),c.Kf.In s.heap->wpAny c.M A (spliced (backTo pos (starEach es env))) (λvs s₁=>c.Kf.In s₁.heap/\wpAny c.M A (call f (first++vs)) Q noE s₁) noE s->wpAny c.M A (callWith pos f first (backTo pos (starEach es env)) []) Q noE s
theorem CallW.b{id:String}{e:Expr}{es:List Expr}(he:∀env,starEach (e::es) env=(false,eval e env)::starEach es env)(hp:∀env pos,(backTo pos (starEach es env)).any (·.1)=false):CallW c (.builtin id) (e::es):=
 λenv pos A s first Q _ h=>callWith_method1 (wpAny_mono h (λ_ _ x=>x.2) λ_ _ x=>x) (he env) (hp env pos)
theorem CallW.b0{id:String}:CallW c (.builtin id) []:=
 λenv pos A s first Q _ h=>callWith_method0 (by
  have h':=h;exact λΓ p hΓ=>by
   have:=h' Γ p hΓ;simpa using this.2 Γ p hΓ)
theorem CallW.t{T:String}{e:Expr}{es:List Expr}(he:∀env,starEach (e::es) env=(false,eval e env)::starEach es env)(hp:∀env pos,(backTo pos (starEach es env)).any (·.1)=false):
 ∀env pos A s (Q:Value->Shared->Prop),wpAny c.M A (spliced (backTo pos (starEach (e::es) env))) (λvs s₁=>c.Kf.In s₁.heap/\wpAny c.M A (call (.type T) ([]++vs)) Q noE s₁) noE s->wpAny c.M A (callWith pos (.type T) [] (backTo pos (starEach (e::es) env)) []) Q noE s:=
 λenv pos A s Q h=>PyProof.Rows.callWith_type1 (wpAny_mono h (λ_ _ x=>x.2) λ_ _ x=>x) (he env) (hp env pos)
theorem CallW.fn{f:Value}{e:Expr}{es:List Expr}(hk:keepIn c.Kf f=true)(he:∀env,starEach (e::es) env=(false,eval e env)::starEach es env)(hp:∀env pos,(backTo pos (starEach es env)).any (·.1)=false):CallW c f (e::es):=
 λenv pos A s first Q X h=>callWith_K X hk h (he env) (hp env pos)
theorem CallW.fn0{f:Value}(hk:keepIn c.Kf f=true):CallW c f []:=
 λenv pos A s first Q X h=>callWith_K0 X hk (by
  have h':=h;exact λΓ p hΓ=>(h' Γ p hΓ).2 Γ p hΓ)
end
section
variable{c:Cx}{k:Nat}{sc:Scope}{Z:Fx}{y y':Gl}{fr:FrL}{s s':Shared}{A:Around}{o o1 o2:Ow}{x v1 v2:Value}{w w':MW}{Q E:Value->Shared->Prop}{e:Expr}{es:List Expr}{f:FE}{fo:FO}{fos:Pw (List Ow)}{b b1 b2:Bool}{pos:Pos}
def BiW(c:Cx)(k:Nat)(f:Value)(b:Bool)(F:FBi):Prop:=∀Z y fr s os vals Q,Rm k Z.A->St c Z y fr s->OsOk y os vals->F os fr Q->wpAny c.M Z.A (call f vals) (P Z y b (RE c) Q) noE s
theorem BiW.fn{a:Nat}:BiW c k (.ref a) false λos fr Q=>callOs ⟨c,k⟩ a os fr Q:=by
 intro Z y fr s os vals Q rm S ho q;unfold callOs at q;cases ea:argsW fr os with
 |none=>rw[ea]at q;exact q.elim
 |some ws=>
  rw[ea]at q;obtain⟨hn,q⟩:=q.out;obtain⟨k',F,hF,hk,q⟩:=q;exact call_run hF (rm.le hk) S ho ea hn q λR hc=>wpAny_call (codeAny_mono hc λr s' ⟨val,e,z⟩=>by refine e▸?_;exact z)
theorem SE.callB{x:Str}{p:Pos}{v:Value}{F:FBi}(hF:BiW c k v b2 F)(hf:CV c sc x p v)
 (hw:∀env pos A s (Q:Value->Shared->Prop),c.Kf.In s.heap->wpAny c.M A (spliced (backTo pos (starEach es env))) (λvs s₁=>c.Kf.In s₁.heap/\wpAny c.M A (PySem.call v ([]++vs)) Q noE s₁) noE s->wpAny c.M A (callWith pos v [] (backTo pos (starEach es env)) []) Q noE s)
 (hd:SOs c k sc es fos b) (he:∀env,eval (.Call (.Name x p) es [] pos) env=(do
     let f ←eval (.Name x p) env
     callWith pos f [] (backTo pos (starEach es env)) (backToKw pos (keywordEach [] env)))):
 SE c k sc (.Call (.Name x p) es [] pos) (fBi F fos) (b&&b2):=by
 intro Z y fr s Q ok S q;refine Call_ (hf Z y fr s _ _ ok.sc S ?_) (he _);refine hw Z.env pos Z.A s _ (kIn S) ((hd pos).use ok S q λy1 fr1 os vs s1 x1 r1 q1=>⟨kIn r1.1,?_⟩);exact wpAny_mono (hF Z y1 fr1 s1 os vs Q ok.rm r1.1 r1.2 q1) (λv s3 h3=>h3.ext x1) λ_ _ h=>h
theorem SE.bi{x:Str}{p:Pos}{v:Value}{F:FBi}(hF:BiW c k v true F)(hf:CV c sc x p v)
 (hw:∀env pos A s (Q:Value->Shared->Prop),c.Kf.In s.heap->wpAny c.M A (spliced (backTo pos (starEach es env))) (λvs s₁=>c.Kf.In s₁.heap/\wpAny c.M A (PySem.call v ([]++vs)) Q noE s₁) noE s->wpAny c.M A (callWith pos v [] (backTo pos (starEach es env)) []) Q noE s)
 (hd:SOs c k sc es fos b) (he:∀env,eval (.Call (.Name x p) es [] pos) env=(do
     let f ←eval (.Name x p) env
     callWith pos f [] (backTo pos (starEach es env)) (backToKw pos (keywordEach [] env)))):
 SE c k sc (.Call (.Name x p) es [] pos) (fBi F fos) b:=by have:=SE.callB hF hf hw hd he;rwa[cu]at this
theorem SE.call{x:Str}{p:Pos}{a:Nat}(hf:CV c sc x p (.ref a))
 (hw:∀env pos A s (Q:Value->Shared->Prop),c.Kf.In s.heap->wpAny c.M A (spliced (backTo pos (starEach es env))) (λvs s₁=>c.Kf.In s₁.heap/\wpAny c.M A (PySem.call (.ref a) ([]++vs)) Q noE s₁) noE s->wpAny c.M A (callWith pos (.ref a) [] (backTo pos (starEach es env)) []) Q noE s)
 (hd:SOs c k sc es fos b) (he:∀env,eval (.Call (.Name x p) es [] pos) env=(do
     let f ←eval (.Name x p) env
     callWith pos f [] (backTo pos (starEach es env)) (backToKw pos (keywordEach [] env)))):
 SE c k sc (.Call (.Name x p) es [] pos) (fCall a fos) false:=by have:=SE.callB (F:=λos fr Q=>callOs ⟨c,k⟩ a os fr Q) BiW.fn hf hw hd he;simp only[d8]at this;exact this
theorem SE.attr(H:KA c){x:Str}{i:Nat}(h:SE c k sc e f b)(hx:nm i=x)
 (hb:∀env,eval (.Attribute e x pos) env=(do
   let o ←eval e env
   standAt pos.atName
   let r ←holding [o] (getAttr o x true)
   letTemporaryGo e o r
   pure r)):SE c k sc (.Attribute e x pos) (fAttr i f) b:=by
 intro Z y fr s Q ok S q;subst hx;refine Attribute_any_ (h.use ok S q λy1 fr1 w val s1 x1 r1 q1=>?_) (hb Z.env);cases w with
 |loc j=>
  obtain⟨S1,rfl⟩:=r1;refine oeeea ((q1).out) λC ks ws eg q1=>?_;obtain⟨g1,q1⟩:=q1.out;refine oea q1.out λw ew q1=>?_;exact S1.getAttr eg ew (H.at_ C i g1).1 q1 λr val s2 r2 q2=>⟨y1,fr1,r,x1,r2,q2⟩
 |_=>exact q1.elim
theorem RepL.snoc{g:GM}{vs:List V}{xs:List Value}{v:V}{x:Value}(r:RepL g vs xs)(h:Rep g v x):RepL g (vs++[v]) (xs++[x]):=(RepL.one h).append r
theorem RepL.dropLast{g:GM}{vs:List V}{xs:List Value}(r:RepL g vs xs):RepL g vs.dropLast xs.dropLast:=by
 simp only[dD,dD,r.length];exact r.take _
theorem upd_list{h:Heap}{a:Addr}{xs:Array Value}{n:Nat}(f:Array Value->Array Value)(e:h.get? a=some (W.listOf xs n)):∃n',(h.update a (Obj.mapSeq f)).get? a=some (W.listOf (f xs) n'):=⟨_,PySem.IsL.update e f⟩
theorem St.listTo{vs vs':List V}{xs':List Value}{n':Nat}(S:St c Z y fr s)(e:plW fr o=some (.list vs))(hs:∀b ob,b≠adr y o->s.heap.get? b=some ob->s'.heap.get? b=some ob)(hn:s'.heap.get? (adr y o)=some (sqO "list" xs' n'))(r:RepL y.g vs' xs')(hg:s'.gens=s.gens)(ho:s'.os=s.os):St c Z y (updW fr o (.list vs')) s':=by
 refine oeea (S.cell e rfl) λi n ic ia=>?_;have na:Z.env.locals≠adr y o:=λz=>(S.hs.frm _ (.inl rfl)).2.2.2 _ _ ic (ia.symm.trans z.symm);refine S.setLeaf e rfl rfl (λb ob n _ e=>hs b ob n e) (λm h=>?_) ?_ hg ho ⟨xs',n',hn,r⟩
 ·refine oeeea h λo es ep h1 r=>?_;exact ieeea o es ep (hs _ _ na h1) r
 ·exact lives_keep (λo=>hs _ o na) (S.hs.frm _ (.inl rfl)).2.2.1
theorem St.dictTo{es es':List (Int×V)}{kvs:List (Int×Value)}(S:St c Z y fr s)(e:plW fr o=some (.dict es))(hs:Heap.SameBut (adr y o) s.heap s'.heap)(hn:s'.heap.DictOf (intKind c.prog c.w) (adr y o) kvs)(hk:kvs.map (·.1)=es'.map (·.1))(r:RepL y.g (es'.map (·.2)) (kvs.map (·.2)))(hg:s'.gens=s.gens)(ho:s'.os=s.os):St c Z y (updW fr o (.dict es')) s':=by
 refine oeea (S.cell e rfl) λi n ic ia=>?_;have na:Z.env.locals≠adr y o:=λz=>(S.hs.frm _ (.inl rfl)).2.2.2 _ _ ic (ia.symm.trans z.symm);obtain⟨ne,_⟩:=S.dictAt e;exact S.setLeaf e rfl rfl (λb ob n _ e=>(hs.2 b n).trans e) (λm h=>h.sameBut hs na) (by rw[hs.2 _ na];exact(S.hs.frm _ (.inl rfl)).2.2.1) hg ho ⟨ne,kvs,hn,hk,r⟩
theorem St.append{vs:List V}{v:V}(S:St c Z y fr s)(e:plW fr o=some (.list vs))(r:Rep y.g v x)(hl:vs.length<=4096)(q:∀s',St c Z y (updW fr o (.list (vs++[v]))) s'->Q .none s'):wpAny c.M A (call (.builtin "list.append") [.ref (adr y o),x]) Q E s:=by
 obtain⟨xs,n,h1,h2⟩:=S.listAt e;exact append_at h1 (λh' hs hn=>q _ (S.listTo e (s':={s with heap:=h'}) (λb ob n e=>(hs.2 b n).trans e) (xs':=xs++[x]) (n':=n+1) (hn.trans (by simp)) (h2.snoc r) rfl rfl)) (by rw[aw,h2.length];exact small_4096 hl)
theorem St.pop{vs:List V}{v:V}(S:St c Z y fr s)(e:plW fr o=some (.list vs))(hv:vs.getLast?=some v)(hl:vs.length<=4096)(q:∀x s',Rep y.g v x->St c Z y (updW fr o (.list vs.dropLast)) s'->Q x s'):wpAny c.M A (call (.builtin "list.pop") [.ref (adr y o)]) Q E s:=by
 obtain⟨xs,n,h1,h2⟩:=S.listAt e;have hlen:=h2.length;refine oea (h2.get (i:=vs.length-1) (by rw[List.getLast?_eq_getElem?]at hv;exact hv)) λx hx rx=>?_;have hy:xs.toArray[xs.toArray.size-1]?=some x:=by rw[aw,hlen];simpa using hx
 refine call_meets PySem.F.slot_list_pop (iea _ h1 rfl) PySem.F.entry_list_pop (PySem.F.args_list_pop_1 _) (PySem.MeetsSeq.list_pop_last (adr y o) _ n x hy (by rw[aw,hlen];exact small_4096 hl)) ⟨h1,q _ _ rx (S.listTo e (n':=n+1) (λb ob n e=>((Heap.SameBut.update ..).2 b n).trans e) ?_ h2.dropLast rfl rfl)⟩;have hp:0<xs.length:=by
  clear hy;clear hlen;cases xs with
  |nil=>exact nos hx
  |cons=>exact ck _
 have e3:xs.toArray.eraseIdxIfInBounds (xs.toArray.size-1)=xs.dropLast.toArray:=by
  unfold Array.eraseIdxIfInBounds;rw[dif_pos (by rw[aw];exact e8 hp fg)];apply Array.toList_inj.mp;simp[dD,List.eraseIdx_eq_take_drop_succ];exact Nat.le_add_of_sub_le (aI _)
 clear hlen;refine(PySem.IsL.update h1 (λxs'=>xs'.eraseIdxIfInBounds (xs.toArray.size-1))).trans ?_;rw[e3,if_neg (by rw[beq_iff_eq,aw,aw,List.length_dropLast];exact aY (e8 hp fg))]
theorem St.setIdx{vs:List V}{v:V}{i:Int}{t:Tok}{j:Nat}{Q:Unit->Shared->Prop}(S:St c Z y fr s)(e:plW fr o=some (.list vs))(r:Rep y.g v x)(hi:i.natAbs<=1000000)(hj:idx? i vs.length=some j)(q:∀s',St c Z y (updW fr o (.list (vs.set j v))) s'->Q () s'):wpAny c.M A (setItem (.ref (adr y o)) (.int i t) x) Q E s:=by
 obtain⟨xs,n,h1,h2⟩:=S.listAt e;have hlen:=h2.length;have fin:∀(j':Nat),j'=j->Q () {s with heap:=s.heap.update (adr y o) (Obj.mapSeq (·.setIfInBounds j' x))}:=λj' ej=>by
  subst ej;obtain⟨n',q'⟩:=upd_list (·.setIfInBounds j' x) h1;exact q _ (S.listTo e (λb ob n e=>((Heap.SameBut.update ..).2 b n).trans e) (n':=n') (xs':=xs.set j' x) (q'.trans (by simp)) (h2.set r j') rfl rfl)
 refine idx_cases hj (λa1 a2 a3=>?_) λa1 a2 a3=>?_
 ·exact ki_setAt h1 a1 (nab63 hi).2 (by rw[aw,hlen];exact(cC a1).mp (a2▸a3)) (fin _ a2.symm)
 ·exact ki_setBack h1 a1 (by rw[aw,hlen];exact ngI a2) (nab63 hi).1 (fin _ (by rw[aw,hlen];exact a3))
noncomputable def put1(es:List (Int×V))(i:Int)(v:V):List (Int×V):=if(es.map (·.1)).contains i then es.map (λe=>if e.1=i then(e.1,v)else e)else es++[(i,v)]
theorem stored_put1{g:GM}{i:Int}{v:V}(r:Rep g v x):∀{es:List (Int×V)} {kvs:List (Int×Value)},kvs.map (·.1)=es.map (·.1)->RepL g (es.map (·.2)) (kvs.map (·.2))->
 (stored kvs i x).map (·.1)=(put1 es i v).map (·.1)/\RepL g ((put1 es i v).map (·.2)) ((stored kvs i x).map (·.2)):=by
 intro es kvs hk hr;have e1:kvs.any (λkv=>decide (kv.1=i))=(es.map (·.1)).contains i:=by
  rw[←hk];clear hr hk
  induction kvs with
  |nil=>rfl
  |cons a l ih=>
   have:decide (a.1=i)=(i==a.1):=by rw[dC,decide_eq_true_eq,beq_iff_eq];exact⟨Eq.symm,Eq.symm⟩
   simp only[eG,aD,d6,ih,this]
 delta stored put1;refine(e1)▸?_;split
 ·clear e1;rename_i z;clear z
  induction es generalizing kvs with
  |nil=>
   cases kvs with
   |nil=>exact⟨rfl,rfl⟩
   |cons _ _=>injection hk
  |cons a l ih=>
   cases kvs with
   |nil=>injection hk
   |cons b m=>
    obtain⟨k1,k2⟩:=d5.inj hk;obtain⟨y,ys,e2,r1,rl⟩:=hr;obtain⟨rfl,rfl⟩:=d5.inj e2;obtain⟨i1,i2⟩:=ih k2 rl;have k1:b.1=a.1:=k1;by_cases w:a.1=i
    ·simp only[aD,if_pos w,if_pos (k1.trans w)];exact⟨by rw[i1,k1],_,_,rfl,r,i2⟩
    ·simp only[aD,if_neg w,if_neg (λq=>w (k1.symm.trans q))];exact⟨by rw[i1,k1],_,_,rfl,r1,i2⟩
 ·simp only[ah,ah,ah,ah,hk];exact⟨rfl,(RepL.one r).append hr⟩
theorem St.setKey{es:List (Int×V)}{v:V}{i:Int}{t:Tok}{Q:Unit->Shared->Prop}(S:St c Z y fr s)(e:plW fr o=some (.dict es))(r:Rep y.g v x)(hl:es.length<=4096)(q:∀s',St c Z y (updW fr o (.dict (put1 es i v))) s'->Q () s'):wpAny c.M A (setItem (.ref (adr y o)) (.int i t) x) Q E s:=by
 obtain⟨hs,kvs,hd,hk,hv⟩:=S.dictAt e;have z:=stored_put1 (i:=i) r hk hv;refine wpAny_setItem_pairs (knd:=intKind c.prog c.w) (k:=i) (by simp[intKind,Value.isInt]) hd (λh' hd' hs'=>q _ (S.dictTo e (s':={s with heap:=h',toks:=s.toks+1}) hs' hd' z.1 z.2 rfl rfl)) ?_;have:kvs.length=es.length:=by have:=congrArg cy hk;simpa using this
 rw[this];exact small_4096 hl
def setP1(fr:FrL)(o:Ow)(i:Int)(x:V)(Q:FrL->Prop)(w:MW):Prop:=match w with
 |.dict es=>Sz es.length 4096 (Q (updW fr o (.dict (put1 es i x))))
 |.list vs=>Sz i.natAbs 1000000 (It (idx? i vs.length) λj=>Q (updW fr o (.list (vs.set j x))))
 |_=>False
def setW(fr:FrL)(o oi:Ow)(x:V)(Q:FrL->Prop):Prop:=intW oi λi=>It (plW fr o) λw=>setP1 fr o i x Q w
theorem setO_ok{oi:Ow}{v:V}{z:Value}{Q0:FrL->Prop}{P:Unit->Shared->Prop}(S:St c Z y fr s)(h1:OVal y o v1)(h2:OVal y oi v2)(r:Rep y.g v z)(h:setW fr o oi v Q0)(q:∀fr' s',St c Z y fr' s'->Q0 fr'->P () s'):wpAny c.M A (setItem v1 v2 z) P E s:=by
 refine oeeaa (int_of h2 h) λi t z_ z37_ h=>?_;subst z_;refine z37_▸?_;refine oea h.out λw e h=>?_;refine(h1.adr e).symm▸?_;cases w with
 |dict es=>have h:=(h).out;exact S.setKey e r h.1 λs' S'=>q _ s' S' h.2
 |list vs=>
  refine oea h.2.out λj ej h2=>?_;exact S.setIdx e r h.1 ej λs' S'=>q _ s' S' h2
 |_=>exact h.elim
end
section
variable{c:Cx}{k:Nat}{sc:Scope}{Z:Fx}{y y':Gl}{fr:FrL}{s s':Shared}{A:Around}{o o1 o2:Ow}{x v1 v2:Value}{w w':MW}{Q E:Value->Shared->Prop}{e:Expr}{es:List Expr}{f:FE}{fo:FO}{fos:Pw (List Ow)}{b b1 b2:Bool}{pos:Pos}
theorem Flds.len{h:Heap}{g:GM}{B:Nat->Addr}:∀{ks:List Nat} {ws:List MW} {ds:List DictEntry},Flds c h g B ks ws ds->ds.length=ws.length:=by
 intro ks
 induction ks with
 |nil=>rintro ws ds ⟨rfl,rfl⟩;rfl
 |cons j ks ih=>
  intro ws ds f;cases ws with
  |nil=>exact f.elim
  |cons w0 ws=>cases ds with
   |nil=>exact f.elim
   |cons d ds=>exact congrArg bz (ih f.2)
theorem putL_len(name:Str)(hs:Int)(key v:Value)(es:List DictEntry):(putL name hs key v es).length<=es.length+1:=by
 induction es with
 |nil=>exact aI _
 |cons e r ih=>
  dsimp only[putL];split
  ·exact cb _
  ·exact bj ih
theorem putKs_nd{i:Nat}:∀{ks:List Nat},ks.Nodup->(putKs ks i).Nodup/\∀j∈putKs ks i,j∈ks∨j=i:=by
 intro ks
 induction ks with
 |nil=>intro _;exact⟨aE.mpr ⟨aN,.nil⟩,λj h=>.inr (af.mp h)⟩
 |cons k0 ks ih=>
  intro nd;obtain⟨n1,n2⟩:=aE.mp nd;dsimp only[putKs];cases q:aT i k0 with
  |true=>exact⟨nd,λj h=>.inl h⟩
  |false=>
   clear nd;obtain⟨i1,i2⟩:=ih n2;refine⟨aE.mpr ⟨λz=>?_,i1⟩,λj h=>?_⟩
   ·rcases i2 _ z with z|z
    ·exact n1 z
    ·exact bG q z.symm
   ·rcases aj.mp h with rfl|h
    ·exact .inl (.head _)
    ·exact(i2 j h).imp (.tail _) id
theorem Flds.put{h h':Heap}{g:GM}{B B':Nat->Addr}{i:Nat}{t:Tok}{val:Value}(v:ValW g (B' (i+2)) w val)(l:LeafAt c h' g (B' (i+2)) w):∀{ks:List Nat} {ws:List MW} {ds:List DictEntry},ks.Nodup->Flds c h g B ks ws ds->(∀n∈fldN ks ws,n≠i+2->B' n=B n/\∀o,h.get? (B n)=some o->h'.get? (B n)=some o)->
 Flds c h' g B' (putKs ks i) (putWs ks ws i w) (putL (nm i) (PyData.keyHash c.w.params (nm i)) (.str (nm i) t) val ds)/\∀n∈fldN (putKs ks i) (putWs ks ws i w),(n∈fldN ks ws/\n≠i+2)∨n=i+2/\w.own=true:=by
 intro ks
 induction ks with
 |nil=>
  rintro ws ds _ ⟨rfl,rfl⟩ _;refine⟨iaa ⟨t,rfl,rfl,v,l⟩ rfl rfl,λn hn=>?_⟩;have hn:n∈(match w.own with|true=>[i+2]|false=>[]):=hn;cases o:w.own with
  |true=>rw[o]at hn;exact .inr ⟨af.mp hn,rfl⟩
  |false=>replace hn:=(o)▸hn;cases hn
 |cons j ks ih=>
  intro ws ds nd f hk;cases ws with
  |nil=>exact f.elim
  |cons w0 ws=>
   cases ds with
   |nil=>exact f.elim
   |cons d ds=>
    obtain⟨n1,n2⟩:=aE.mp nd;have hke:d.key.isStr (nm i)=aT i j:=by
     obtain⟨t,e4,_⟩:=f.1;rw[e4];show(nm j==nm i)=aT i j;cases q:aT i j with
     |true=>refine(az q)▸?_;exact beq_self_eq_true _
     |false=>rw[beq_eq_false_iff_ne];exact λz=>bG q (nm_inj _ _ z).symm
    have tlne:∀n∈fldN ks ws,i=j->n≠i+2:=λn hn e z=>by
     refine oea (fldN_mem hn) λj' h1 h2=>?_;have:j'=j:=by lia
     exact n1 (this▸h1)
    simp only[fldN_c]at hk⊢;dsimp only[putKs,putWs,putL];refine(hke).symm▸?_;clear hke;cases q:aT i j with
    |true=>
     have q:=az q;subst q;obtain⟨⟨t0,e4,e5,_,_⟩,f⟩:=f;refine⟨⟨⟨t0,e4,e5,v,l⟩,f.at (.refl g) λn hn=>hk n (mo_ hn) (tlne n hn rfl)⟩,λn hn=>?_⟩;have tl:n∈fldN ks ws->(n∈(match w0.own with|true=>(i+2)::fldN ks ws|false=>fldN ks ws)/\n≠i+2)∨n=i+2/\w.own=true:=λhn=>.inl ⟨mo_ hn,tlne n hn rfl⟩;have hn:n∈(match w.own with|true=>(i+2)::fldN ks ws|false=>fldN ks ws):=hn;cases o:w.own with
     |true=>
      rw[o]at hn;rcases aj.mp hn with hn|hn
      ·exact .inr ⟨hn,rfl⟩
      ·rw[o]at tl;exact tl hn
     |false=>replace hn:=(o)▸hn;rw[o]at tl;exact tl hn
    |false=>
     have ne:¬j+2=i+2:=λz=>bG q (by lia);refine oa (ih n2 f.2 λn hn=>hk n (mo_ hn)) λi1 i2=>?_;refine⟨⟨f.1.at (.refl g) λo=>hk _ (by refine(o).symm▸?_;exact .head _) ne,i1⟩,λn hn=>?_⟩;have hn:n∈(match w0.own with|true=>(j+2)::fldN (putKs ks i) (putWs ks ws i w)|false=>fldN (putKs ks i) (putWs ks ws i w)):=hn;have tl:n∈fldN (putKs ks i) (putWs ks ws i w)->(n∈(match w0.own with|true=>(j+2)::fldN ks ws|false=>fldN ks ws)/\n≠i+2)∨n=i+2/\w.own=true:=λhn=>(i2 n hn).imp (λz=>⟨by split;exact .tail _ z.1;exact z.1,z.2⟩) id;cases o:w0.own with
     |true=>
      rw[o]at hn;rcases aj.mp hn with rfl|hn
      ·exact .inl ⟨.head _,ne⟩
      ·rw[o]at tl;exact tl hn
     |false=>replace hn:=(o)▸hn;rw[o]at tl;exact tl hn
theorem own_z{z:Rz}(o:z.mw.own=true)(hz:∀C ks ws,z≠.fresh (.obj C ks ws)):∃w,z=.fresh w/\w.cells=[0]/\w.leaf=true:=by
 cases z with
 |v x=>exact ff o
 |fresh w=>
  refine iea w rfl ?_;cases w with
  |v x=>exact ff o
  |obj C ks ws=>exact absurd rfl (hz C ks ws)
  |list vs=>exact⟨rfl,rfl⟩
  |dict vs=>exact⟨rfl,rfl⟩
theorem NodeAt.leafAt{h:Heap}{g:GM}{B:Nat->Addr}(hw:w.leaf=true)(l:NodeAt c h g B w):LeafAt c h g (B 0) w:=by
 cases w<;>first|exact l|exact ff hw
theorem z_val{h:Heap}{g:GM}{a b:Addr}{z:Rz}{val:Value}(o:z.mw.own=false)(rv:ResV g a z val):ValW g b z.mw val/\LeafAt c h g b z.mw:=by
 cases z with
 |v x=>exact⟨rv,trivial⟩
 |fresh w=>exact ff (o.symm.trans rv.1)
theorem St.setAttr{i j C:Nat}{ks:List Nat}{ws:List MW}{z:Rz}{val:Value}{Q:Unit->Shared->Prop}(S:St c {Z with X:=Z.X++z.ws} y fr s)(e:getF fr j=some (.obj C ks ws))(G:SetOk c C i)(hlen:ws.length<=900)(hz:∀C ks ws,z≠.fresh (.obj C ks ws))(rv:ResV y.g (y.L (.tmp Z.X.length) 0) z val)
 (q:∀s' L',(∀n,L' (.var n) 0=y.L (.var n) 0)->(∀m<Z.X.length,∀n,L' (.tmp m) n=y.L (.tmp m) n)->St c Z ⟨y.g,L'⟩ (setF fr j (.obj C (putKs ks i) (putWs ks ws i z.mw))) s'->Q () s'):wpAny c.M A (PySem.setAttr (.ref (y.L (.var j) 0)) (nm i) val) Q E s:=by
 obtain⟨ds,n,h1,h2,nd,f⟩:=S.objAt e;have I:W.InstAt s.heap (y.L (.var j) 0) (instObj C (y.L (.var j) 1)) C (some (dictOf ds n)):=⟨h1,rfl,rfl,h2⟩;have io:∀n∈MW.cells (.obj C ks ws),InO (om fr (Z.X++z.ws)) (.var j) n:=λn hn=>⟨_,e,hn⟩;have i1:=io 1 (.tail _ (.head _));have hloc:=(S.hs.frm _ (.inl rfl)).2.2.2;refine oea (S.frD (y.L (.var j) 1)) λm F back=>?_;have N:=allN_news c.h₀ s.heap Z.env.locals;have n0:c.h₀.get? (y.L (.var j) 1)=none:=by
  cases q:c.h₀.get? (y.L (.var j) 1)with
  |none=>rfl
  |some o=>have:=S.hs.base _ o q;replace this:=((S.hs.own _ _ i1).1)▸this;exact nos this
 refine set_dict (news:=(y.L (.var j) 1,dictOf ds n)::(allN c.h₀ s.heap Z.env.locals).filter (λx=>decide (x.1≠y.L (.var j) 1))) F c.hK (λx hx=>?_) I rfl G.plain G.over G.taker G.hasD (getL_some f.str) rfl (.head λx hx=>of_decide_eq_true (aq.mp hx).2) ?_ λh' F' N'=>?_
 ·rcases aj.mp hx with rfl|hx
  ·exact iaa h2 (hloc _ _ i1) n0
  ·exact N x (aq.mp hx).1
 ·exact a6 (putL_len _ _ _ _ _) (by rw[f.len];exact a6 (bj hlen) (by decide))
 refine oaa (back _ (λp hp ne=>.tail _ (aq.mpr ⟨hp,decide_eq_true ne⟩)) h' F' N') λkp ns lv=>?_;have new:=(N' _ (.head _)).1
 let L':LM:=λl n=>if l=.var j/\n=i+2/\z.mw.own=true then y.L (.tmp Z.X.length) 0 else y.L l n
 have L0:∀{l n},n≠i+2->L' l n=y.L l n:=λh=>if_neg λq=>h q.2.1;have Ll:∀{l n},l≠.var j->L' l n=y.L l n:=λh=>if_neg λq=>h q.1;have Lf:z.mw.own=true->L' (.var j) (i+2)=y.L (.tmp Z.X.length) 0:=λh=>if_pos ⟨rfl,rfl,h⟩;have tmo:∀{w},z=.fresh w->om fr (Z.X++z.ws) (.tmp Z.X.length)=some w:=λ{w} h=>by rw[h];show(Z.X++[w])[_]?=_;simp
 have zc:z.mw.own=true->∃w,z=.fresh w/\w.cells=[0]/\LeafAt c s.heap y.g (y.L (.tmp Z.X.length) 0) w:=λh=>by
  refine oeaa (own_z h hz) λw e cw lf=>?_;exact ieaa w e cw ((S.hs.node _ _ (tmo e)).leafAt lf)
 have keepc:∀l n,InO (om fr (Z.X++z.ws)) l n->¬(l=.var j/\n=1)->∀o,s.heap.get? (y.L l n)=some o->h'.get? (y.L l n)=some o:=λl n h ne o=>kp _ o (λq=>ne (S.hs.inj _ _ _ _ h i1 q)) (hloc _ _ h);have st:ValW y.g (L' (.var j) (i+2)) z.mw val/\LeafAt c h' y.g (L' (.var j) (i+2)) z.mw:=by
  cases o:z.mw.own with
  |false=>exact z_val o rv
  |true=>
   refine oeaa (zc o) λw e cw l=>?_;rw[e]at rv;rw[Lf o,show z.mw=w by rw[e];rfl];exact⟨.of rv.1 rv.2,l.at (.refl _) λ_=>keepc _ _ ⟨w,tmo e,by rw[cw];exact .head _⟩ λq=>(nomatch q.1)⟩
 obtain⟨f',fc⟩:=f.put (t:=s.toks+1) (B':=L' (.var j)) st.1 st.2 nd λn hn ne=>⟨L0 ne,keepc _ n (io n (.tail _ (.tail _ hn))) λq=>by refine oea (fldN_mem hn) λj' _ h=>?_;lia⟩;have nd':NodeAt c h' y.g (L' (.var j)) (.obj C (putKs ks i) (putWs ks ws i z.mw)):=⟨_,_,by rw[L0 (by lia),L0 (by lia)];exact keepc _ 0 (io 0 (.head _)) (by lia) _ h1,by rw[L0 (by lia)];exact new,(putKs_nd nd).1,f'⟩;have cx:∀l n,InO (om (setF fr j (.obj C (putKs ks i) (putWs ks ws i z.mw))) Z.X) l n->(l=.var j/\n=i+2/\z.mw.own=true)∨(¬(l=.var j/\n=i+2/\z.mw.own=true)/\InO (om fr (Z.X++z.ws)) l n/\l≠.tmp Z.X.length):=λl n h=>by
  rw[om_set]at h;rcases h.put with⟨rfl,hn⟩|⟨ne,w,ew,hn⟩
  ·rcases aj.mp hn with rfl|hn
   ·exact .inr ⟨by lia,io 0 (.head _),λq=>nomatch q⟩
   ·rcases aj.mp hn with rfl|hn
    ·exact .inr ⟨by lia,i1,λq=>nomatch q⟩
    ·rcases fc n hn with⟨h1,h2⟩|h
     ·exact .inr ⟨λq=>h2 q.2.1,io n (.tail _ (.tail _ h1)),λq=>nomatch q⟩
     ·exact .inl ⟨rfl,h⟩
  ·refine .inr ⟨λq=>ne q.1,?_⟩;cases l with
   |var a=>exact⟨⟨w,ew,hn⟩,λq=>nomatch q⟩
   |tmp a=>
    have lt:=(ac.mp (show Z.X[a]?=some w from ew)).1;exact⟨⟨w,by show(Z.X++z.ws)[a]?=some w;rw[aS lt];exact ew,hn⟩,λq=>by cases q;exact bQ _ lt⟩
 have T:HS c Z.K y.g (om (setF fr j (.obj C (putKs ks i) (putWs ks ws i z.mw))) Z.X) L' (frameOf Z.env) {s with heap:=h',toks:=s.toks+2}:=by
  classical
  refine HS.set (s':={s with heap:=h',toks:=s.toks+2}) S.hs (.inl rfl) i1 kp lv rfl rfl (λl n=>if l=.var j/\n=i+2/\z.mw.own=true then(.tmp Z.X.length,0)else(l,n)) (λl n h=>?_) (λl n l' n' h h' q=>?_) (λl v ev=>?_) nd'
  ·rcases cx l n h with⟨rfl,rfl,o⟩|⟨ne,h,_⟩
   ·obtain⟨w,hw,cw,_⟩:=zc o;rw[if_pos ⟨rfl,rfl,o⟩];exact⟨⟨w,tmo hw,by rw[cw];exact .head _⟩,Lf o⟩
   ·rw[if_neg ne];exact⟨h,if_neg ne⟩
  ·rcases cx l n h with⟨rfl,rfl,o⟩|⟨ne,h,nt⟩<;>rcases cx l' n' h' with⟨rfl,rfl,o'⟩|⟨ne',h',nt'⟩
   ·exact⟨rfl,rfl⟩
   ·rw[if_pos ⟨rfl,rfl,o⟩,if_neg ne']at q;exact absurd (Prod.mk.inj q).1.symm nt'
   ·rw[if_neg ne,if_pos ⟨rfl,rfl,o'⟩]at q;exact absurd (Prod.mk.inj q).1 nt
   ·rw[if_neg ne,if_neg ne']at q;exact Prod.mk.inj q
  ·rw[om_set]at ev;unfold OM.put at ev;split at ev
   ·cases ev;exact .inl ⟨‹_›,rfl⟩
   ·rename_i ne;refine .inr ⟨ne,?_,λn=>Ll ne⟩;cases l with
    |var a=>exact ev
    |tmp a=>show(Z.X++z.ws)[a]?=some v;rw[aS (ac.mp (show Z.X[a]?=some v from ev)).1];exact ev
 refine q _ L' (λn=>L0 (by lia)) (λm hm n=>Ll λq=>nomatch q) (S.of (s':={s with heap:=h',toks:=s.toks+2}) T (λa o fa na ea=>kp a o (λq=>(S.hs.frm a fa).2.2.2 _ _ i1 q.symm) na ea) ns λn v ev=>?_);rw[getF_setF]at ev;split at ev
 ·subst n;rw[←ab.inj ev];exact iea _ e (λval hv=>(hv).trans (by rw[L0 (by lia)]))
 ·rename_i h;exact iea v ev (λval hv=>by rw[Ll λq=>h (Lbl.var.inj q)];exact hv)
end
def ints2(os:List Ow)(q:Int->Int->Prop):Prop:=match os with
 |o::r=>intW o λi=>int1 r λj=>q i j
 |_=>False
noncomputable def lenW:FBi:=λos fr Q=>one os λo=>match dictW fr o with
 |some es=>Sz es.length 1000000 (Q (.v (.int es.length)) fr)
 |none=>rdW fr o λx=>match x with
  |.tup vs=>Sz vs.length 1000000 (Q (.v (.int vs.length)) fr)
  |.lst vs=>Sz vs.length 1000000 (Q (.v (.int vs.length)) fr)
  |_=>False
def smallI(i:Int):Prop:=i.natAbs<=1000000
noncomputable def rangeW:FBi:=λos fr Q=>match os with
 |[_]=>int1 os λn=>Sz n.natAbs 1000000 (Q (.v (.rng 0 n)) fr)
 |_=>ints2 os λx y=>Sz x.natAbs 1000000 (Sz y.natAbs 1000000 (Q (.v (.rng x y)) fr))
noncomputable def maxW:FBi:=λos fr Q=>ints2 os λx y=>Q (.v (.int (max x y))) fr
noncomputable def minW:FBi:=λos fr Q=>ints2 os λx y=>Q (.v (.int (min x y))) fr
noncomputable def tupW:FBi:=λos fr Q=>one os λo=>rdW fr o λx=>match x with
 |.tup vs=>Q (.v (.tup vs)) fr
 |.lst vs=>Sz vs.length 4096 (Q (.v (.tup vs)) fr)
 |_=>False
noncomputable def lstW:FBi:=λos fr Q=>one os λo=>rdW fr o λx=>match x with
 |.tup vs=>Sz vs.length 4096 (Q (.v (.lst vs)) fr)
 |.lst vs=>Sz vs.length 4096 (Q (.v (.lst vs)) fr)
 |_=>False
def sumSmall(ns:List Int):Prop:=ns.length<=4096/\∀n∈ns,n.natAbs<=1000000
noncomputable def insI(x:Int):List Int->List Int
 |[]=>[x]
 |y::ys=>if x<=y then x::y::ys else y::insI x ys
set_option smartUnfolding false in
theorem insI_c{x y:Int}{ys:List Int}:insI x (y::ys)=if x<=y then x::y::ys else y::insI x ys:=rfl
noncomputable def sortI:List Int->List Int
 |[]=>[]
 |x::xs=>insI x (sortI xs)
theorem insI_perm(x:Int):∀l:List Int,(insI x l).Perm (x::l)
 |[]=>.refl _
 |y::ys=>by
  simp only[insI_c];split
  ·exact .refl _
  ·exact((insI_perm x ys).cons y).trans (.swap x y ys)
theorem sortI_perm:∀l:List Int,(sortI l).Perm l
 |[]=>.refl _
 |x::xs=>(insI_perm x (sortI xs)).trans ((sortI_perm xs).cons x)
theorem insI_asc(x:Int):∀l:List Int,l.Pairwise (·<=·)->(insI x l).Pairwise (·<=·)
 |[],_=>eH _ _
 |y::ys,h=>by
  simp only[insI_c];obtain⟨h1,h2⟩:=cj.mp h;split
  ·rename_i hxy;refine cj.mpr ⟨λz hz=>?_,h⟩;rcases aj.mp hz with rfl|hz
   ·exact hxy
   ·exact aG hxy (h1 z hz)
  ·rename_i hxy;refine cj.mpr ⟨λz hz=>?_,insI_asc x ys h2⟩;rcases aj.mp ((insI_perm x ys).mem_iff.mp hz)with rfl|hz
   ·exact cn (dc.mp hxy)
   ·exact h1 z hz
theorem sortI_asc:∀l:List Int,(sortI l).Pairwise (·<=·)
 |[]=>.nil
 |x::xs=>insI_asc x _ (sortI_asc xs)
theorem asc_of:∀{l:List Int},l.Pairwise (·<=·)->lks_asc l=true
 |[],_=>rfl
 |a::r,h=>by
  obtain⟨h1,h2⟩:=cj.mp h;simp only[lks_asc,aB,aA,decide_eq_true_eq];exact⟨h1,asc_of h2⟩
theorem ints_kf{xs:List Value}{ns:List Int}(h:IntsAre xs ns):kf_ints xs=true/\lks_nums xs=ns:=by
 induction h with
 |nil=>exact⟨rfl,rfl⟩
 |cons n t h ih=>exact⟨ih.1,congrArg (n::·) ih.2⟩
theorem lks_vals_rep(g:GM)(t:Nat->Tok):∀(ns:List Int) (i:Nat),RepL g (ns.map .int) (lks_vals ns i t)
 |[],_=>rfl
 |n::ns,i=>⟨_,_,rfl,⟨t i,rfl⟩,lks_vals_rep g t ns (i+1)⟩
theorem sum_bound:∀(ns:List Int),(∀n∈ns,n.natAbs<=1000000)->ns.sum.natAbs<=1000000*ns.length
 |[],_=>by simp
 |n::ns,h=>by
  simp only[eE,am,d0,cB];exact nabA (h n (.head _)) (sum_bound ns λm hm=>h m (.tail _ hm))
def sumK(Q:Rw->FrL->Prop)(fr:FrL)(ns:List Int):Prop:=Pr (sumSmall ns) (Q (.v (.int ns.sum)) fr)
noncomputable def sumW:FBi:=λos fr Q=>one os λo=>rdW fr o λx=>match x with
 |.lst vs=>It (intsOf vs) (sumK Q fr)
 |_=>False
def sortK(Q:Rw->FrL->Prop)(fr:FrL)(ns:List Int):Prop:=Pr (ns≠[]/\ns.length<64) (Q (.v (.lst ((sortI ns).map .int))) fr)
noncomputable def sortW:FBi:=λos fr Q=>one os λo=>match dictW fr o with
 |some es=>Pr (es≠[]/\es.length<64) (Q (.v (.lst ((sortI (es.map (·.1))).map .int))) fr)
 |none=>rdW fr o λx=>match x with
  |.lst vs=>It (intsOf vs) (sortK Q fr)
  |.tup vs=>It (intsOf vs) (sortK Q fr)
  |_=>False
section
variable{c:Cx}{k:Nat}{sc:Scope}{Z:Fx}{y y':Gl}{fr:FrL}{s s':Shared}{A:Around}{o o1 o2:Ow}{x v1 v2:Value}{w w':MW}{E:Value->Shared->Prop}{os:List Ow}{vals:List Value}
theorem one.out{q:Ow->Prop}(h:OsOk y os vals)(hq:one os q):∃o v,vals=[v]/\OVal y o v/\q o:=by
 cases os with
 |nil=>exact hq.elim
 |cons o r=>cases r with
  |nil=>obtain⟨v,vs,rfl,h1,h2⟩:=h;subst h2;exact ieeaa o v rfl h1 hq
  |cons _ _=>exact hq.elim
theorem int1.out{q:Int->Prop}(h:OsOk y os vals)(hq:int1 os q):∃i t,vals=[.int i t]/\q i:=by
 refine oeeaa (one.out h hq) λo v z_ h1 hq=>?_;refine z_▸?_;refine oeeaa (int_of h1 hq) λi t _ z_ hq=>?_;refine z_▸?_;exact ieea i t rfl hq
theorem ints2.out{q:Int->Int->Prop}(h:OsOk y os vals)(hq:ints2 os q):∃i t j u,vals=[.int i t,.int j u]/\q i j:=by
 cases os with
 |nil=>exact hq.elim
 |cons o1 r=>
  obtain⟨v1,vs,rfl,h1,h2⟩:=h;refine oeeaa (int_of h1 hq) λi t _ z_ hq=>?_;refine z_▸?_;refine oeea (int1.out h2 hq) λj u z_ hq=>?_;refine z_▸?_;exact⟨i,t,j,u,rfl,hq⟩
theorem ints_of{g:GM}{ns:List Int}:∀{xs:List Value},RepL g (ns.map .int) xs->IntsAre xs ns:=by
 induction ns with
 |nil=>intro xs h;subst h;exact .nil
 |cons n ns ih=>rintro xs ⟨y,ys,rfl,⟨t,rfl⟩,hl⟩;exact .cons n t (ih hl)
theorem intsOf_out:∀{vs:List V} {ns:List Int},intsOf vs=some ns->vs=ns.map .int:=by
 intro vs
 induction vs with
 |nil=>intro ns e;obtain rfl:=ab.inj e;rfl
 |cons x r ih=>
  intro ns e;rw[intsOf_c]at e;cases x with
  |int i=>
   dsimp only at e;cases er:intsOf r with
   |none=>replace e:=(er)▸e;exact nos e
   |some is=>replace e:=(er)▸e;refine(ab.inj e)▸?_;refine(ih er).symm▸?_;rfl
  |_=>exact nos e
theorem small_m{n:Nat}(h:n<=1000000):n<2^63:=aL h (a5 rfl)
theorem P.int{b:Bool}{Q:Rw->FrL->Prop}{i:Int}{t u:Tok}(S:St c Z y fr s)(q:Q (.v (.int i)) fr):P Z y b (RE c) Q (.int i t) {s with toks:=u}:=⟨y,fr,.v (.int i),.refl _ _ _,⟨S.toks _,t,rfl⟩,q⟩
theorem lenSq{T:String}{vs:List V}{Q:Rw->FrL->Prop}(hT:T="list"∨T="tuple")(S:St c Z y fr s)(r:SqH s.heap y.g T vs x)(hl:vs.length<=1000000)(q:Q (.v (.int vs.length)) fr):wpAny c.M A (call (.builtin "len") [x]) (P Z y true (RE c) Q) noE s:=by
 obtain⟨a,xs,n,rfl,h2,h3⟩:=r;have e:=h3.length;rw[←e]at q;rcases hT with rfl|rfl
 ·exact call_len_list (isList_of h2) (by rw[aw,e];exact len63 hl) (.int S q)
 ·exact len_tuple (isTup_of h2) (by rw[aw,e];exact len63 hl) (.int S q)
theorem biLen:BiW c k (.builtin "len") true lenW:=by
 intro Z y fr s os vals Q rm S ho q;refine oeeaa (one.out ho q) λo v z_ h1 q=>?_;refine z_▸?_;clear ho;cases ed:dictW fr o with
 |some es=>
  rw[ed]at q;have ed:=dictW_out ed;obtain⟨ne,kvs,hd,hk,_⟩:=S.dictAt ed;have h1:=h1.adr ed;rw[h1];have hkl:kvs.length=es.length:=by have:=congrArg cy hk;simpa using this
  exact call_len_dict (by simpa using ne) hd (by rw[hkl];exact len63 q.1) (by refine(hkl).symm▸?_;exact .int S q.2)
 |none=>
  rw[ed]at q;refine oea (rd_ok S h1 q) λu r q=>?_;cases u with
  |tup vs=>exact lenSq (.inr rfl) S (r.tup S.hs.keepg) q.out.1 q.out.2
  |lst vs=>exact lenSq (.inl rfl) S (r.list S.hs.keepg) q.out.1 q.out.2
  |_=>exact q.elim
theorem small_range{a b:Int}(ha:smallI a)(hb:smallI b):Builtin.Range.small a b 1=true:=by
 exact small_one (aG (by decide) (nabR ha)) (bY (nabL ha) (by decide)) (aG (by decide) (nabR hb)) (bY (nabL hb) (by decide))
theorem rng_made{a b:Int}{t u w:Tok}{Q:Rw->FrL->Prop}(S:St c Z y fr s)(ha:smallI a)(hb:smallI b)(tk:Nat)(q:Q (.v (.rng a b)) fr):P Z y true (RE c) Q (.ref s.heap.objs.size) {s with heap:=s.heap.push {cls:=.type "range",data:=.fields #[.int a t,.int b u,.int 1 w]},toks:=tk}:=by
 refine oa (S.frozen (Kp.push _ s {cls:=.type "range",data:=.fields #[.int a t,.int b u,.int 1 w]}) (fresh_none _) (Heap.get?_push_size _ rfl)) λS' e=>?_;exact⟨_,fr,.v (.rng a b),e,⟨S'.toks _,s.heap.objs.size,t,u,w,rfl,GM.add_same _ _ _,small_range ha hb⟩,q⟩
theorem biRange:BiW c k (.type "range") true rangeW:=by
 intro Z y fr s os vals Q rm S ho q;cases os with
 |nil=>exact q.elim
 |cons o r=>
  cases r with
  |nil=>
   refine oeea (int1.out ho q) λi t z_ q=>?_;refine z_▸?_;exact call_range_1 (rng_made S (by unfold smallI;decide) q.out.1 _ q.out.2)
  |cons o2 r=>
   obtain⟨i,t,j,u,rfl,q⟩:=ints2.out ho q;exact call_range_2 (rng_made S q.out.1 q.out.2.out.1 _ q.out.2.out.2)
theorem biMax:BiW c k (.builtin "max") true maxW:=by
 intro Z y fr s os vals Q rm S ho q;obtain⟨i,t,j,u,rfl,q⟩:=ints2.out ho q;refine oeaa S.frN λm F N back=>?_;exact max_two_N rm.1 F N λh' tk F' N'=>⟨y,fr,.v (.int _),.refl _ _ _,⟨S.kp (back _ (λp hp=>hp) h' tk F' N'),_,rfl⟩,by rw[max_if];exact q⟩
theorem biMin:BiW c k (.builtin "min") true minW:=by
 intro Z y fr s os vals Q rm S ho q;obtain⟨i,t,j,u,rfl,q⟩:=ints2.out ho q;refine oeaa S.frN λm F N back=>?_;exact min_two_N rm.1 F N λh' tk F' N'=>⟨y,fr,.v (.int _),.refl _ _ _,⟨S.kp (back _ (λp hp=>hp) h' tk F' N'),_,rfl⟩,by rw[min_if];exact q⟩
theorem biTuple:BiW c k (.type "tuple") true tupW:=by
 intro Z y fr s os vals Q rm S ho q;refine oeeaa (one.out ho q) λo v z_ h1 q=>?_;subst z_;refine oea (rd_ok S h1 q) λu r q=>?_;clear ho;clear h1;cases u with
 |tup vs=>
  have r0:=r.rep' λ_ z=>nomatch z;obtain⟨a,xs,n,rfl,h2,h3⟩:=r.tup S.hs.keepg;exact call_tuple_tup (isTup_of h2) ⟨y,fr,.v (.tup vs),.refl _ _ _,⟨S,r0⟩,q⟩
 |lst vs=>
  obtain⟨a,xs,n,rfl,h2,h3⟩:=r.list S.hs.keepg;refine call_tuple_list (isList_of h2) (λh' k'=>?_) (by rw[aw,h3.length];exact small_4096 q.out.1);refine oeaa ((S.kp (s':={s with heap:=h'}) (.of k' rfl rfl)).seq (Kp.push _ {s with heap:=h'} {cls:=.type "tuple",data:=.seq xs.toArray}) (fresh_none h') (Heap.get?_push_size _ rfl) h3) λy' e S' r'=>?_;exact⟨y',fr,.v (.tup vs),e,⟨S',r'⟩,q.out.2⟩
 |_=>exact q.elim
theorem lstSq{T:String}{vs:List V}{Q:Rw->FrL->Prop}(hT:T="list"∨T="tuple")(S:St c Z y fr s)(r:SqH s.heap y.g T vs x)(q:Sz vs.length 4096 (Q (.v (.lst vs)) fr)):wpAny c.M A (call (.type "list") [x]) (P Z y true (RE c) Q) noE s:=by
 obtain⟨a,xs,n,rfl,h2,h3⟩:=r;refine call_list_seq a hT h2 rfl rfl (λh' c' k' hn=>?_) (by rw[aw,h3.length];exact small_4096 q.out.1);refine oeaa (S.seq (s':={s with heap:=h'}) (.of k' rfl rfl) (fresh_none _) hn h3) λy' e S' r'=>?_;exact⟨y',fr,.v (.lst vs),e,⟨S',r'⟩,q.out.2⟩
theorem biList:BiW c k (.type "list") true lstW:=by
 intro Z y fr s os vals Q rm S ho q;refine oeeaa (one.out ho q) λo v z_ h1 q=>?_;subst z_;refine oea (rd_ok S h1 q) λu r q=>?_;cases u with
 |tup vs=>exact lstSq (.inr rfl) S (r.tup S.hs.keepg) q
 |lst vs=>exact lstSq (.inl rfl) S (r.list S.hs.keepg) q
 |_=>exact q.elim
theorem ints_getD{xs:List Value}{ns:List Int}(I:IntsAre xs ns):∀(i:Nat) (v:Value),xs[i]?=some v->∃t,v=.int (ns.getD i 0) t:=by
 induction I with
 |nil=>intro i v e;cases i<;>exact nos e
 |cons n t h ih=>
  intro i v e;cases i with
  |zero=>refine(ab.inj e)▸?_;exact⟨t,rfl⟩
  |succ i=>obtain⟨t',e'⟩:=ih i v e;exact⟨t',e'⟩
theorem sum_line{ns:List Int}(hsm:sumSmall ns){j:Nat}(hj:j<ns.length):(-(2^63)<=ns.getD j 0/\ns.getD j 0<2^63)/\(-(2^63)<=(ns.take (j+1)).sum/\(ns.take (j+1)).sum<2^63):=by
 have b1:(ns.getD j 0).natAbs<=1000000:=hsm.2 _ (by rw[a9,a8 hj];exact aP hj);have b2:=sum_bound (ns.take (j+1)) λn hn=>hsm.2 n (List.mem_of_mem_take hn);have b3:(ns.take (j+1)).length<=4096:=a6 (eY _ _) hsm.1;have b4:(ns.take (j+1)).sum.natAbs<=4096000000:=a6 b2 (aU 1000000 b3);exact⟨nab63 b1,nab63 b4⟩
theorem biSum:BiW c k (.builtin "sum") true sumW:=by
 intro Z y fr s os vals Q rm S ho q;refine oeeaa (one.out ho q) λo v z_ h1 q=>?_;subst z_;refine oea (rd_ok S h1 q) λu r q=>?_;clear ho;clear h1;cases u with
 |lst vs=>
  refine oea (It.out q) λns en q2=>?_;clear q;cases intsOf_out en;obtain⟨a,xs,n,rfl,h3,h4⟩:=r.list S.hs.keepg;have I:=ints_of h4;have ne:a≠s.heap.objs.size:=aY (Heap.lt_size h3);have hlen:xs.toArray.size=ns.length:=by rw[aw];exact I.length
  refine call_sum_walk (wpAny_pyIter_list (isList_of h3) ⟨s.heap.objs.size,_,_,_,_,_,λi=>ns.getD i 0,rfl,Walks.list (A:=Z.A.in1) rm.1 s.heap.objs.size a ne xs.toArray,⟨ieaa _ (Heap.get?_push_size _ rfl) rfl rfl,isList_of (Heap.get?_push_of_some _ h3)⟩,?_,?_,?_,?_⟩)
  ·intro b hb;rw[Heap.size_push];rcases aj.mp hb with rfl|hb
   ·exact br _
   ·cases af.mp hb;exact bT (Heap.lt_size h3)
  ·intro i v hi;exact ints_getD I i v (by simpa using hi)
  ·intro j hj;rw[hlen]at hj;rw[PyProof.Rows.preSum_getD];exact sum_line q2.1 hj
  ·intro h' tk t' hk;have e:preSum (λi=>ns.getD i 0) xs.toArray.size=ns.sum:=by
    simp only[PyProof.Rows.preSum_getD,hlen,List.take_length]
   refine(e)▸?_;refine⟨y,fr,.v (.int ns.sum),.refl _ _ _,⟨S.kp (s':={s with heap:=h',toks:=tk}) (.of (λb o e=>hk b o (λz=>?_) (Heap.get?_push_of_some _ e)) rfl rfl),_,rfl⟩,q2.2⟩;simp only[af.mp z,fresh_none]at e;exact nos e
 |_=>exact q.elim
theorem sort_ints{xs:List Value}{ns:List Int}{h1:Heap}{tk:Nat}{Q:Value->Shared->Prop}(S:St c Z y fr s)(k1:∀b o,s.heap.get? b=some o->h1.get? b=some o)(I:IntsAre xs ns)(hne:ns≠[])(h64:ns.length<64)
 (q:∀y' val s',Ext Z true y y'->RV c Z y' fr s' (.lst ((sortI ns).map .int)) val->Q val s'):
 wpAny c.M A (newList xs) (λl s2=>wpAny c.M A (call (.builtin "list.sort") [l]) (λ_ s'=>Q l s') E s2) E {s with heap:=h1,toks:=tk}:=by
 refine wpAny_newList ?_ (by rw[I.length];exact small_4096 (a6 (bf ‹_›) (a5 rfl)));refine oeaa S.frN λm F N back=>?_;have kp:∀b o,s.heap.get? b=some o->(h1.push {cls:=.type "list",data:=.seq xs.toArray}).get? b=some o:=λb o e=>Heap.get?_push_of_some _ (k1 b o e);have nD0:s.heap.get? h1.objs.size=none:=none_of k1 (fresh_none _);have nb0:c.h₀.get? h1.objs.size=none:=none_of (baseAt S) nD0;have hD:(h1.push {cls:=.type "list",data:=.seq xs.toArray}).get? h1.objs.size=some (W.listOf xs.toArray 0):=Heap.get?_push_size _ rfl;have nin:∀p∈allN c.h₀ s.heap Z.env.locals,p.1≠h1.objs.size:=λp hp z=>by have:=(N p hp).1;simp only[z,nD0]at this;exact nos this
 have nL:h1.objs.size≠Z.env.locals:=λz=>by refine oeeea F.ns λo _ _ e _=>?_;simp only[←z,nD0]at e;exact nos e
 refine oa (ints_kf I) λkf kn=>?_;refine lks_sort (q:=sortI ns) (news:=(h1.objs.size,W.listOf xs.toArray 0)::allN c.h₀ s.heap Z.env.locals) (F.keeps kp) (λp hp=>?_) (λt=>.head nin) kf ?_ ?_ (by simp only[show xs.toArray.toList=xs from rfl,I.length];exact h64) λt h' F' N'=>?_
 ·rcases aj.mp hp with rfl|hp
  ·exact iaa hD nL nb0
  ·exact⟨kp _ _ (N p hp).1,(N p hp).2⟩
 ·show lks_ok xs (sortI ns)=true;unfold lks_ok;simp only[kn,asc_of (sortI_asc ns),cu];exact List.isPerm_iff.mpr (sortI_perm ns).symm
 ·clear kp;clear hD;clear kn;clear kf;cases I with
  |nil=>exact absurd rfl hne
  |cons _ _ _=>rfl
 ·refine oeaa (S.seq (back _ (λp hp=>.tail _ hp) h' tk F' N') nD0 (N' _ (.head _)).1 (lks_vals_rep y.g t (sortI ns) 0)) λy' e S' r=>?_;exact q _ _ _ e ⟨S',r⟩
theorem sorted_run{ns:List Int}{Q:Rw->FrL->Prop}(S:St c Z y fr s)(hne:ns≠[])(h64:ns.length<64)
 (hc:∀Q':List Value->Shared->Prop,(∀h' tk xs,(∀b o,s.heap.get? b=some o->h'.get? b=some o)->IntsAre xs ns->Q' xs {s with heap:=h',toks:=tk})->wpAny c.M A.in1 (collect x) Q' noE s)
 (q:Q (.v (.lst ((sortI ns).map .int))) fr):wpAny c.M A (call (.builtin "sorted") [x]) (P Z y true (RE c) Q) noE s:=by
 refine call_function_entry kind_sorted plain_sorted entry_sorted (args_sorted1 _) ?_;refine wpAny_bind (m:=checkCount "sorted" 1 1 _) (wpAny_pure ?_);refine wpAny_bind (hc _ λh' tk xs k' I=>?_);refine wpAny_bind (wpAny_mono (sort_ints (A:=A.in1) (Q:=P Z y true (RE c) Q) S k' I hne h64 λy' val s' e r=>⟨y',fr,.v _,e,r,q⟩) (λl s2 h2=>?_) λ_ _ e=>e);exact wpAny_bind (wpAny_holding (wpAny_mono h2 (λ_ s' x=>wpAny_pure (iea _ rfl x)) λ_ _ e=>e))
theorem sortSq{T:String}{ns:List Int}{Q:Rw->FrL->Prop}(hT:T="list"∨T="tuple")(S:St c Z y fr s)(r:SqH s.heap y.g T (ns.map .int) x)(q:Pr (ns≠[]/\ns.length<64) (Q (.v (.lst ((sortI ns).map .int))) fr)):wpAny c.M A (call (.builtin "sorted") [x]) (P Z y true (RE c) Q) noE s:=by
 obtain⟨a,xs,n,rfl,h2,h3⟩:=r;have I:=ints_of h3;exact sorted_run S q.1.1 q.1.2 (λQ' hQ=>wpAny_collect_seq a hT h2 rfl rfl (λh' k'=>hQ h' s.toks xs k' I) (by rw[aw,I.length];exact small_4096 (a6 (bf q.1.2) (by decide)))) q.2
theorem keys_ints{kvs:List (Int×Value)}:∀(xs:List Value),xs.length=kvs.length->(∀(j:Nat) (v:Value),xs[j]?=some v->∃k x,kvs[j]?=some (k,x)/\(intKind c.prog c.w).is k v=true)->IntsAre xs (kvs.map (·.1)):=by
 induction kvs with
 |nil=>intro xs hl _;cases xs with|nil=>exact .nil|cons _ _=>injection hl
 |cons kv kvs ih=>
  intro xs hl hx;cases xs with
  |nil=>injection hl
  |cons v xs=>
   refine oeea (hx 0 v rfl) λk x e1 e2=>?_;injection e1 with e1;refine e1▸?_;have:∃t,v=.int k t:=by
    cases v<;>simp[intKind,Value.isInt]at e2;refine e2▸?_;exact⟨_,rfl⟩
   obtain⟨t,rfl⟩:=this;exact .cons k t (ih xs (bz.inj hl) λj v e=>hx (j+1) v e)
theorem biSorted:BiW c k (.builtin "sorted") true sortW:=by
 intro Z y fr s os vals Q rm S ho q;refine oeeaa (one.out ho q) λo v z_ h1 q=>?_;refine z_▸?_;clear ho;cases ed:dictW fr o with
 |some es=>
  rw[ed]at q;have ed:=dictW_out ed;obtain⟨ne,kvs,hd,hk,hr⟩:=S.dictAt ed;have h1:=h1.adr ed;refine h1▸?_;have hkl:kvs.length=es.length:=by have:=congrArg cy hk;simpa using this
  obtain⟨ep,hat⟩:=hd.dictAt;have q:=(q);refine sorted_run (ns:=es.map (·.1)) S (by simpa using q.1.1) (by simpa using q.1.2) (λQ' hQ=>kdu_collect (K:=kdl_dict (knd:=intKind c.prog c.w) (kvs:=kvs) (ep:=ep) (by simpa using ne)) rm.1 hat (by rw[hkl];exact small_4096 (a6 (bf q.1.2) (by decide))) λh' tk acc k' hacc=>hQ h' tk acc.toList k' (by refine(hk)▸?_;exact keys_ints _ (by simp only[eZ];exact hacc.1) λj v e=>hacc.2 j v (by refine(cO)▸?_;exact e))) q.2
 |none=>
  rw[ed]at q;refine oea (rd_ok S h1 q) λu r q=>?_;cases u with
  |lst vs=>obtain⟨ns,en,q2⟩:=It.out q;clear q;cases intsOf_out en;exact sortSq (.inl rfl) S (r.list S.hs.keepg) q2
  |tup vs=>obtain⟨ns,en,q2⟩:=It.out q;clear q;cases intsOf_out en;exact sortSq (.inr rfl) S (r.tup S.hs.keepg) q2
  |_=>exact q.elim
end
theorem shiftW{prog:Program}{w:World}{A:Around}{I:Addr}{fp wr:List Addr}{G:Array GenState->Array GenState->Prop}{n:Nat}{P:Nat->Value->Prop}{T:Nat->Shared->Prop}(W:WalksS prog w A I fp wr G n P T)(acc:Array Value):
 WalksS prog w A I fp wr G (acc.size+n) (λj v=>(j<acc.size->acc[j]?=some v)/\(acc.size<=j->P (j-acc.size) v)) (λi s=>acc.size<=i/\T (i-acc.size) s) where
 sub:=W.sub
 grefl:=W.grefl
 gtrans:=W.gtrans
 frame:=λi s h' tk h1 h2 h3=>⟨h1.1,W.frame _ s h' tk h1.2 h2 h3⟩
 item:=λi s Q E hi h1 hq=>W.item (i-acc.size) s Q E (eD h1.1 hi) h1.2 λv s' hP hT hm=>hq v s' ⟨λz=>absurd h1.1 (Nat.not_le.mpr z),λ_=>hP⟩ ⟨bP h1.1,by rw[Nat.succ_sub h1.1];exact hT⟩ hm
 done:=λs Q E h1 hq=>W.done s Q E (by have:=h1.2;rwa[eK]at this) hq
 self:=λi s Q E h1 hq=>W.self _ s Q E h1.2 hq
section
variable{A:Around}{s:Shared}
set_option backward.match.sparseCases true in
theorem extend_range{S r:Addr}{acc:Array Value}{c0:Nat}{a b:Int}{t u v:Tok}{Q:Value->Shared->Prop}{E:Value->Shared->Prop}{prog:Program}{w:World}(hh:A.handled=none)(hS:s.heap.get? S=some (W.listOf acc c0))(hr:IsRange s.heap r a b 1 t u v)(hsmall:Builtin.Range.small a b 1=true)
 {n:Nat} (hn:Builtin.Range.rangeSize a b 1=n) (hlen:acc.size+n<=10000)
 (hR:∀h' tk acc' c',(∀b o,b≠S->s.heap.get? b=some o->h'.get? b=some o)->h'.get? S=some (W.listOf acc' c')->
   ItemsOf (λj v=>(j<acc.size->acc[j]?=some v)/\(acc.size<=j->∃t,v=.int (a+((j-acc.size:Nat):Int)*1) t)) acc' (acc.size+n)->Q .none {s with heap:=h',toks:=tk}):
 wpAny (model prog w) A (call (.builtin "list.extend") [.ref S,.ref r]) Q E s:=by
 have hz:acc.size<=sizeLine:=by rw[sizeLine_eq];exact a6 (an _ _) (a6 hlen (a5 rfl))
 have hz1:acc.size+1<=sizeLine:=by simp only[sizeLine_eq];exact bj (a6 (an _ _) (a6 hlen (a5 rfl)))
 have hSr:S≠r:=λe=>by simp only[e,hr]at hS;simp at hS
 have hSlt:S<s.heap.objs.size:=Heap.lt_size hS;have hSI:S≠s.heap.objs.size:=aY hSlt;have hSf:S∉[s.heap.objs.size]:=λhm=>hSI (af.mp hm);have Wk:=shiftW (Walks.range (prog:=prog) (w:=w) (A:=A.in1) hh s.heap.objs.size a 1 n).toS acc;refine wpAny_call (codeAny_call_builtin PySem.F.slot_list_extend.plain PySem.F.entry_list_extend (PySem.F.slot_list_extend.check _ _ _ _ _ _ _ _ (iea _ hS rfl) (PySem.F.args_list_extend_2 _ _) ?_));show wpAny _ A.in1 (Builtin.List.listExtendWith (.ref S) (.ref r) .none) _ _ s;have key:∀(h:Heap) (c₁ tk:Nat),IsRangeIter h s.heap.objs.size (a+((0:Nat):Int)*1) ((n:Int)-((0:Nat):Int)) 1->(∀b o,b≠S->s.heap.get? b=some o->h.get? b=some o)->
  h.get? S=some (W.listOf acc c₁)->codeAny (model prog w) A (.builtin "list.extend.loop" ⟨[.ref S,.ref s.heap.objs.size,.none],[]⟩) (λr s'=>match r with|.ok (.ret v)=>Q v s'|.ok _=>False|.error e=>E e s') {s with heap:=h,toks:=tk}:=by
  intro h c₁ tk hit hk hS₁;refine codeAny_extend_loopS Wk (by rw[sizeLine_eq];exact a6 hlen (a5 rfl)) S hSf .none n acc.size _ acc c₁ (eK _ _) (an _ _) ⟨aI _,by rw[cZ];exact hit⟩ hS₁ ⟨rfl,λj v e=>⟨λ_=>e,λhj=>absurd (Array.getElem?_eq_some_iff.mp e).1 (aW.mpr hj)⟩⟩ λs' acc' c' hm hS' hacc=>?_;refine(Moved.eq_with hm).symm▸?_;refine hR s'.heap s'.toks acc' c' (λb o hb e=>hm.heap b o (λhmem=>?_) (hk b o hb e)) hS' hacc;rcases aj.mp hmem with e'|hmem
  ·exact hb e'
  ·exact absurd (Heap.lt_size e) (by refine(af.mp hmem)▸?_;exact bQ _)
 refine wpAny_bind (wpAny_typeOf (T:="range") (iea _ hr rfl) ?_);have h1:Builtin.List.listSameRef (.ref S) (.ref r)=false:=by simp[Builtin.List.listSameRef,hSr]
 have h2:(Value.type "range"==Value.type "list")=false:=rfl;have h3:(Value.type "range"==Value.type "tuple")=false:=rfl;simp only[h1,h2,h3,Bool.or_false,bX,if_false];refine wpAny_bind (wpAny_pyIter_range hr hsmall ?_);refine wpAny_bind (wpAny_holding (wpAny_hint_range (n:=n) (Heap.get?_push_of_some _ hr) hn (a6 (bV _ _) (leT (by assumption) rfl)) ?_));have hit₁:IsRangeIter (s.heap.push {cls:=.type "range_iterator",data:=.fields #[rawInt a,rawInt (Builtin.Range.rangeSize a b 1),rawInt 1]}) s.heap.objs.size (a+((0:Nat):Int)*1) ((n:Int)-((0:Nat):Int)) 1:=by
  show IsRangeIter _ _ _ _ _;refine(hn)▸?_;simpa using Heap.get?_push_size _ rfl
 have hS₁:=Heap.get?_push_of_some {cls:=.type "range_iterator",data:=.fields #[rawInt a,rawInt (Builtin.Range.rangeSize a b 1),rawInt 1]} hS;refine wpAny_ite_split (λ_=>?_) (λ_=>wpAny_pure ⟨plainId_quiet PySem.F.plain_extend_loop _,key _ c0 _ hit₁ (λb o _ e=>Heap.get?_push_of_some _ e) hS₁⟩);refine wpAny_bind (wpAny_rule ?_);refine wpAny_bind ?_;refine wpAny_bind (wpAny_updateSeq hS₁ rfl ?_ hz (by rw[fW];exact bj hz));have hS₂:=Heap.get?_update_self (Obj.mapSeq (·.push Value.none)) hS₁ rfl;refine wpAny_updateSeq (hz:=by rw[fW];exact hz1) (_hz':=by rw[Array.pop_push];exact bP hz) hS₂ rfl ?_;have hS₃:=Heap.get?_update_self (Obj.mapSeq (·.pop)) hS₂ rfl;refine wpAny_pure ⟨plainId_quiet PySem.F.plain_extend_loop _,key _ _ _ ?_ (λb o hb e=>?_) (by simp only[hS₃];simp[Obj.mapSeq,W.listOf];rfl)⟩
 ·exact(Heap.get?_update_other _ _ hSI).trans ((Heap.get?_update_other _ _ hSI).trans hit₁)
 ·exact(Heap.get?_update_other _ _ (Ne.symm hb)).trans ((Heap.get?_update_other _ _ (Ne.symm hb)).trans (Heap.get?_push_of_some _ e))
end
theorem RepL.of_get{g:GM}:∀{vs:List V} {xs:List Value},xs.length=vs.length->(∀(j:Nat) v,vs[j]?=some v->∃x,xs[j]?=some x/\Rep g v x)->RepL g vs xs:=by
 intro vs
 induction vs with
 |nil=>intro xs hl _;cases xs with|nil=>rfl|cons _ _=>injection hl
 |cons v vs ih=>
  intro xs hl h;cases xs with
  |nil=>injection hl
  |cons x xs=>
   refine oea (h 0 v rfl) λy e r=>?_;refine(ab.inj e)▸?_;exact⟨_,xs,rfl,r,ih (bz.inj hl) λj w e=>h (j+1) w e⟩
section
variable{c:Cx}{k:Nat}{sc:Scope}{Z:Fx}{y y':Gl}{fr:FrL}{s s':Shared}{A:Around}{o o1 o2:Ow}{x v1 v2:Value}{w w':MW}{E:Value->Shared->Prop}{os:List Ow}{vals:List Value}{Q:Rw->FrL->Prop}
theorem P.none{b:Bool}{fr':FrL}(S:St c Z y fr' s)(q:Q (.v .none) fr'):P Z y b (RE c) Q .none s:=⟨y,fr',.v .none,.refl _ _ _,⟨S,rfl⟩,q⟩
theorem listAt_out{q:List V->Prop}(h:listAt fr o q):∃vs,plW fr o=some (.list vs)/\q vs:=by
 unfold listAt at h;cases e:plW fr o with
 |none=>rw[e]at h;exact h.elim
 |some w=>
  rw[e]at h;cases w with
  |list vs=>exact iea vs rfl h
  |_=>exact h.elim
theorem val_of{q:V->Prop}(h:OVal y o x)(hq:valW o q):∃u,o=.v u/\Rep y.g u x/\q u:=by
 cases o with
 |v u=>exact ieaa u rfl h hq
 |_=>exact hq.elim
theorem elemsF_out{v:V}{ws:List V}(h:elemsF v=some ws):(∃T,(T="list"∨T="tuple")/\∀g x,Rep g v x->SqAt g T (λxs=>RepL g ws xs) x)∨∃lo hi,v=.rng lo hi/\ws=(rangeI lo hi).map .int:=by
 cases v with
 |tup vs=>refine(ab.inj h)▸?_;exact .inl (iea ("tuple") (.inr rfl) (λg x r=>r))
 |lst vs=>refine(ab.inj h)▸?_;exact .inl (iea ("list") (.inl rfl) (λg x r=>r))
 |rng lo hi=>refine(ab.inj h)▸?_;exact .inr (ieea lo hi rfl rfl)
 |_=>exact nos h
theorem rangeI_len(lo hi:Int):(rangeI lo hi).length=(hi-lo).toNat:=by unfold rangeI;simp only[a7,be]
theorem extend_ok{vs ws:List V}{v:V}(hh:A.handled=none)(S:St c Z y fr s)(e:plW fr o=some (.list vs))(r:Rep y.g v x)(hw:elemsF v=some ws)(hl:vs.length+ws.length<=8192)(q:Q (.v .none) (updW fr o (.list (vs++ws)))):wpAny c.M A (call (.builtin "list.extend") [.ref (adr y o),x]) (P Z y true (RE c) Q) noE s:=by
 obtain⟨xs,n,h3,h4⟩:=S.listAt e;have xl:=h4.length;rcases elemsF_out hw with⟨T,hT,hr⟩|⟨lo,hi,rfl,rfl⟩
 ·obtain⟨b,zs,m,rfl,h5,h6⟩:=hr _ _ r;have h5:=S.hs.keepg _ _ h5;have zl:=h6.length;have fin:P Z y true (RE c) Q .none {s with heap:=s.heap.update (adr y o) (Obj.mapSeq λx=>x++zs.toArray)}:=P.none (S.listTo e (s':={s with heap:=s.heap.update (adr y o) (Obj.mapSeq λx=>x++zs.toArray)}) (λb ob n e=>((Heap.SameBut.update ..).2 b n).trans e) (xs':=xs++zs) ((PySem.IsL.update h3 (λx=>x++zs.toArray)).trans (by simp;rfl)) (h6.append h4) rfl rfl) q;have l0:xs.length+zs.length<=sizeLine:=by simp only[xl,zl,sizeLine_eq];exact a6 hl (a5 rfl)
  have l2:xs.toArray.size<=sizeLine:=a6 (an _ _) l0;have l3:xs.toArray.size+zs.toArray.size<=sizeLine+1:=bP l0;have hlong:Builtin.List.listTooLong (xs.toArray.size+zs.toArray.size)=false:=by
   exact decide_eq_false (aW.mpr l0)
  rcases hT with rfl|rfl
  ·exact call_meets PySem.F.slot_list_extend ⟨_,h3,rfl⟩ PySem.F.entry_list_extend (PySem.F.args_list_extend_2 _ _) (PySem.AutoSeq1.list_extend_list_list_0 (adr y o) xs.toArray n b zs.toArray m (by rw[hlong,d8];exact cE) l2 l3) ⟨h3,h5,fin⟩
  ·exact call_meets PySem.F.slot_list_extend ⟨_,h3,rfl⟩ PySem.F.entry_list_extend (PySem.F.args_list_extend_2 _ _) (PySem.AutoSeq1.list_extend_list_tuple_0 (adr y o) xs.toArray n b zs.toArray m (by rw[hlong,d8];exact cE) l2 l3) ⟨h3,h5,fin⟩
 ·obtain⟨b,t,u,v,rfl,h5,hsm⟩:=r;have hr:Builtin.Range.rangeSize lo hi 1=(((hi-lo).toNat:Nat):Int):=by
   unfold Builtin.Range.rangeSize;rw[if_pos (by decide)];by_cases z:lo<hi
   ·rw[if_pos z,Int.ediv_one,db];exact(bJ (bZ (cn z))).symm
   ·rw[if_neg z,fG (ft (bD.mp z))];rfl
  rw[a7,rangeI_len]at hl;refine extend_range hh h3 (S.hs.keepg _ _ h5) hsm hr (by rw[aw,xl];exact a6 hl (a5 rfl)) λh' tk acc' c' kp hn hacc=>?_;have asz:acc'.size=xs.length+(hi-lo).toNat:=hacc.1;refine P.none (S.listTo e (s':={s with heap:=h',toks:=tk}) kp (xs':=acc'.toList) (n':=c') (hn.trans (by show _=some (W.listOf acc'.toList.toArray c');simp only[Array.toArray_toList])) (RepL.of_get (by simp only[aa,a7,rangeI_len,eZ,asz,xl]) λj w hj=>?_) rfl rfl) q;have hjlt:=(ac.mp hj).1;simp only[aa,a7,rangeI_len]at hjlt;have jlt:j<acc'.size:=by simp only[asz,xl];exact hjlt
  refine iea _ (by rw[cO];exact de jlt) ?_;obtain⟨p1,p2⟩:=hacc.2 j _ (de jlt);by_cases hjx:j<vs.length
  ·rw[aS hjx]at hj;refine oea (h4.get hj) λz hz rz=>?_;have:=p1 (by simp only[aw,xl];exact hjx);rw[show xs.toArray[j]?=some z by simpa using hz]at this;refine(ab.inj this)▸?_;exact rz
  ·have hjx:=aW.mp hjx;replace hj:=(bt hjx)▸hj;obtain⟨t',ht'⟩:=p2 (by simp only[aw,xl];exact hjx);simp only[ht'];have:=(bI (n:=(hi-lo).toNat) (i:=j-vs.length) (eD hjx hjlt));simp only[rangeI,av,ae,this]at hj;obtain rfl:=ab.inj hj;exact⟨t',by simp only[aw,xl,fA]⟩
theorem index_ok{ns:List Int}{i:Int}{t:Tok}(S:St c Z y fr s)(r:SqH s.heap y.g "list" (ns.map .int) x)(hl:ns.length<=4096)(hi:i∈ns)(q:Q (.v (.int (ns.idxOf i))) fr):wpAny c.M A (call (.builtin "list.index") [x,.int i t]) (P Z y true (RE c) Q) noE s:=by
 obtain⟨a,xs,n,rfl,h3,h4⟩:=r;have I:=ints_of h4;have hlen:=I.length;have hj:ns.idxOf i<ns.length:=bx.mpr hi;refine call_meets PySem.F.slot_list_index (iea _ h3 rfl) PySem.F.entry_list_index (PySem.F.args_list_index_2 _ _)
  (PySem.SeqAt.list_indexAt a xs.toArray n _ _ (.int i t) (isInt i) (ns.idxOf i) (by simpa[hlen]using hj) (bY (bv.mpr (a6 (bf hj) hl)) (by decide)) ?_ ?_) ⟨h3,λy hy=>(eq_isInt i t I y (by simpa using hy)).at _ _,.int S q⟩
 ·show isInt i xs[ns.idxOf i]=true;refine(isInt_at i I _ (by rw[hlen];exact hj) hj).symm▸?_;simpa using bW hj
 ·intro j hjs hlt;show isInt i xs[j]=false;rw[isInt_at i I j (by exact hjs) (eP hlt hj)];exact ne_of_lt_idxOf hlt _
theorem lm_ok{lm:LMt}(hh:A.handled=none)(S:St c Z y fr s)(h0:OVal y o x)(ho:OsOk y os vals)(h:lmW lm o os fr Q):wpAny c.M A (call (.builtin (lmId lm)) (x::vals)) (P Z y true (RE c) Q) noE s:=by
 cases lm with
 |append=>
  obtain⟨o2,v,rfl,h1,h⟩:=one.out ho h;refine oeaa (val_of h1 h) λu z_ r h=>?_;subst z_;refine oea (listAt_out h) λvs e h=>?_;refine(h0.adr e).symm▸?_;exact S.append e r h.out.1 λs' S'=>.none S' h.out.2
 |pop=>
  cases os with
  |cons _ _=>exact h.elim
  |nil=>
   cases(ho);refine oea (listAt_out h) λvs e h=>?_;refine oea h.out.2.out λv ev h2=>?_;refine(h0.adr e).symm▸?_;exact S.pop e ev h.out.1 λx s' r S'=>⟨y,_,.v v,.refl _ _ _,⟨S',r⟩,h2⟩
 |extend=>
  refine oeeaa (one.out ho h) λo2 v z_ h1 h=>?_;subst z_;refine oeaa (val_of h1 h) λu z_ r h=>?_;subst z_;refine oea (listAt_out h) λvs e h=>?_;refine oea (sm.out h) λws ev h=>?_;refine(h0.adr e).symm▸?_;exact extend_ok hh S e r ev h.out.1 h.out.2
 |index=>
  refine oeea (int1.out ho h) λi t z_ h=>?_;refine z_▸?_;refine oea (listAt_out h) λvs e h=>?_;refine oea (It.out h) λns en h2=>?_;replace e:=(intsOf_out en)▸e;obtain⟨xs,n,h3,h4⟩:=S.listAt e;exact index_ok S ⟨_,xs,n,h0.adr e,h3,h4⟩ h2.1.1 h2.1.2 h2.2
 |_=>exact h.elim
theorem lm_finds{lm:LMt}{X:Str}{vs:List V}{pl:Sem Bool}{Q:Value×List Value->Shared->Prop}(hl:lmName lm X)(h:lmList lm=true)(r:SqH s.heap y.g "list" vs x)(q:Q (.builtin (lmId lm),[x]) s):wpAny c.M A (getMethod x X pl) Q noE s:=by
 obtain⟨a,xs,n,rfl,h1,_⟩:=r;have go:∀{id:String},Slot "list" X id->typeOf (.builtin id)=pure (.type "method_descriptor")->Q (.builtin id,[.ref a]) s->wpAny c.M A (getMethod (.ref a) X pl) Q noE s:=λslot hty q=>getMethod_builtin (iea _ h1 rfl) PySem.F.plainAttrs_list slot hty (λa e=>by injection e with e;subst e;exact iea _ h1 rfl) q;cases lm with
 |append=>cases(hl);exact go PySem.F.slot_list_append PySem.F.type_list_append q
 |pop=>cases(hl);exact go PySem.F.slot_list_pop PySem.F.type_list_pop q
 |extend=>cases(hl);exact go PySem.F.slot_list_extend PySem.F.type_list_extend q
 |index=>cases(hl);exact go PySem.F.slot_list_index PySem.F.type_list_index q
 |count=>cases(hl);exact go PySem.F.slot_list_count PySem.F.type_list_count q
 |text=>exact ff h
theorem Flds.none{h:Heap}{g:GM}{B:Nat->Addr}{name:Str}:∀{ks:List Nat} {ws:List MW} {ds:List DictEntry},Flds c h g B ks ws ds->(∀k∈ks,nm k≠name)->ds.find? (·.key.isStr name)=none:=by
 intro ks
 induction ks with
 |nil=>rintro ws ds ⟨_,rfl⟩ _;rfl
 |cons j ks ih=>
  intro ws ds f hk;cases ws with
  |nil=>exact f.elim
  |cons w0 ws=>cases ds with
   |nil=>exact f.elim
   |cons d ds=>
    obtain⟨⟨t,e4,_⟩,f⟩:=f;rw[dw,ih f λk h=>hk k (.tail _ h)];rw[e4];show¬(nm j==name)=true;rw[beq_iff_eq];exact hk j (.head _)
theorem meth_finds{i C:Nat}{ks:List Nat}{ws:List MW}{m f:Nat}{pl:Sem Bool}{Q:Value×List Value->Shared->Prop}(S:St c Z y fr s)(e:getF fr i=some (.obj C ks ws))(M:MethOk c C (nm m) f)(hk:memN m ks=false)(q:Q (.ref f,[.ref (y.L (.var i) 0)]) s):wpAny c.M A (getMethod (.ref (y.L (.var i) 0)) (nm m) pl) Q noE s:=by
 obtain⟨ds,n,h1,h2,_,fl⟩:=S.objAt e;have I:W.InstAt s.heap (y.L (.var i) 0) (instObj C (y.L (.var i) 1)) C (some (dictOf ds n)):=⟨h1,rfl,rfl,h2⟩;have nn:∀k∈ks,nm k≠nm m:=λj hj z=>by replace hk:=((memN_iff m ks).mpr (nm_inj _ _ z▸hj))▸hk;injection hk
 refine method_fn (kIn S) I (plainGet_of M.plain).1 (plainGet_of M.plain).2 M.attr (beq_iff_eq.mp M.fn) ?_ q;show(lookIn (nm m) (dictOf ds n)).map _=_;simp only[lookIn_dict];unfold getL;refine(fl.none nn)▸?_;rw[fl.str];rfl
variable{e:Expr}{es:List Expr}{fo:FO}{fos:Pw (List Ow)}{b b1 b2:Bool}{pos:Pos}
theorem SE.meth(H:KA c){X:Str}{ap:Pos}{m:Nat}{lm:LMt}(hx:nm m=X)(hl:lmName lm X)(hW:∀id,CallW c (.builtin id) es)(hT:∀f:Nat,keepIn c.Kf (.ref f)=true->CallW c (.ref f) es)(ho:SO c k sc e fo b1)(hd:SOs c k sc es fos b2)
 (he:∀env,∃pl,eval (.Call (.Attribute e X ap) es [] pos) env=(do
   let ov ←eval e env
   standAt ap.atName
   let(f,first) ←holding [ov] (getMethod ov X pl)
   callWith pos f first (backTo pos (starEach es env)) (backToKw pos (keywordEach [] env)))):
 SE c k sc (.Call (.Attribute e X ap) es [] pos) (fMeth m lm fo fos b2) false:=by
 intro Z y fr s Q ok S q;refine oe (he Z.env) λpl he=>?_;refine methodCall_KW (pl:=pl) (ho.use ok S q λy1 fr1 o v s1 x1 r1 q1=>?_) he;clear he;clear he;obtain⟨S1,r1⟩:=r1;have run:∀{f:Value} {F:List Ow->FrL->Prop} {b:Bool},CallW c f es->fos ⟨c,k⟩ fr1 F->(∀y2 fr2 os vs s2,Ext Z b2 y1 y2->St c Z y2 fr2 s2->OsOk y2 os vs->F os fr2->wpAny c.M Z.A (PySem.call f (v::vs)) (P Z y2 b (RE c) Q) noE s2)->wpAny c.M Z.A (callWith pos f [v] (backTo pos (starEach es Z.env)) []) (P Z y false (RE c) Q) noE s1:=λ{f F b} hW hF hc=>
  hW Z.env pos Z.A s1 [v] _ (kIn S1) ((hd pos).use ok S1 hF λy2 fr2 os vs s2 x2 r2 q2=>⟨kIn r2.1,wpAny_mono (hc y2 fr2 os vs s2 x2 r2.1 r2.2 q2) (λv3 s3 h3=>by
   obtain⟨y3,fr3,w3,x3,r3,q3⟩:=h3;exact⟨y3,fr3,w3,((x1.trans x2).trans x3).off,r3,q3⟩) λ_ _ h=>h⟩)
 unfold methK at q1;cases ep:plW fr1 o with
 |some w0=>
  rw[ep]at q1;cases w0 with
  |obj C ks ws=>
   cases o with
   |loc i=>
    refine oea ((q1).out) λfa hm q1=>?_;obtain⟨hn,q1⟩:=q1.out;have hn:memN m ks=false:=by rwa[bO]at hn
    obtain⟨M,hk⟩:=H.m C m fa hm;obtain rfl:=(r1);subst hx;refine meth_finds S1 ep M hn (run (b:=false) (hT fa hk) q1 λy2 fr2 os vs s2 x2 S2 o2 q2=>?_);exact BiW.fn Z y2 fr2 s2 (.loc i::os) (_::vs) Q ok.rm S2 ⟨_,_,rfl,congrArg Value.ref (x2.r0 i).symm,o2⟩ q2
   |_=>exact q1.elim
  |list vs=>
   obtain⟨hn,q1⟩:=q1.out;obtain⟨xs,n,h1,h2⟩:=S1.listAt ep;exact lm_finds hl hn ⟨_,xs,n,r1.adr ep,h1,h2⟩ (run (hW _) q1 λy2 fr2 os vs s2 x2 S2 o2 q2=>lm_ok ok.rm.1 S2 (r1.keep x2 q2.out.2) o2 q2.out.1)
  |_=>exact q1.elim
 |none=>
  simp only[ep]at q1;obtain⟨u,rfl,r1,q1⟩:=val_of r1 q1;refine oeaa (onLst_out q1) λvs z_ z39_ q1=>?_;subst z_;subst z39_;obtain⟨a,xs,n,rfl,h1,h2⟩:=r1;refine lm_finds (lm:=.count) hl rfl ⟨a,xs,n,rfl,S1.hs.keepg _ _ h1,h2⟩ (run (b:=true) (hW _) q1 λy2 fr2 os us s2 x2 S2 o2 q2=>?_);refine oeea (int1.out o2 q2) λi t z_ q2=>?_;refine z_▸?_;refine oea (It.out q2) λns en q3=>?_;rw[intsOf_out en]at h2;exact count_list_ints (isList_of (S2.hs.keepg _ _ (x2.g.1 _ _ h1))) (ints_of h2) (.int S2 q3)
end
noncomputable def lexGo(fin:Bool):List (Int×Int)->Bool
 |[]=>fin
 |(a,b)::r=>if a==b then lexGo fin r else decide (a<b)
set_option smartUnfolding false in
theorem lexGo_c{fin:Bool}{a b:Int}{r:List (Int×Int)}:lexGo fin ((a,b)::r)=if a==b then lexGo fin r else decide (a<b):=rfl
theorem lexGo_n{fin:Bool}:lexGo fin []=fin:=rfl
noncomputable def lexLt(x y:List Int):Bool:=lexGo (decide (x.length<y.length)) (x.zip y)
noncomputable def KasT.ansB{α:Type}(n:Nat)(f:Nat->Nat->Bool):KasT α->Option α
 |.ret a=>some a
 |.ask i j k=>if i<n/\j<n then KasT.ansB n f (k (f i j))else none
set_option smartUnfolding false in
theorem ansB_c{α:Type}{n i j:Nat}{f:Nat->Nat->Bool}{k:Bool->KasT α}:KasT.ansB n f (.ask i j k)=if i<n/\j<n then KasT.ansB n f (k (f i j))else none:=rfl
theorem KasT.wp_ansB{α:Type}{n:Nat}{f:Nat->Nat->Bool}{ask:Nat->Nat->(Bool->Shared->Prop)->Shared->Prop}{G:α->Shared->Prop}{s:Shared}(h:∀i j C,i<n->j<n->C (f i j) s->ask i j C s)(t:KasT α)(a:α)(e:KasT.ansB n f t=some a)(g:G a s):t.kasWp ask G s:=by
 induction t with
 |ret b=>rw[←ab.inj e]at g;exact g
 |ask i j k ih=>
  simp only[ansB_c]at e;by_cases hij:i<n/\j<n
  ·rw[if_pos hij]at e;exact h i j _ hij.1 hij.2 (ih (f i j) e)
  ·rw[if_neg hij]at e;exact nos e
noncomputable def sortP(ts:List (List Int)):Option (List (List Int)):=
 if ts.length=1 then some ts else if 2<=ts.length/\ts.length<64 then
  (KasT.ansB ts.length (λi j=>lexLt (ts.getD i []) (ts.getD j [])) (kas_sort ts.length)).bind λp=>if p.toList.all (·<ts.length)then some (p.toList.map (ts.getD · []))else none
 else none
noncomputable def tupI(ns:List Int):V:=.tup (ns.map .int)
section
variable{prog:Program}{w:World}{A:Around}{E:Value->Shared->Prop}{s:Shared}
theorem lex_run{fin:Bool}{Q:Bool->Shared->Prop}:∀{xs ys:List Value} {as bs:List Int} (i:Nat),IntsAre xs as->IntsAre ys bs->Q (lexGo fin (as.zip bs)) s->KatLex prog w A true fin Q (xs.zip ys) i s:=by
 intro xs ys as bs i hx
 induction hx generalizing ys bs i with
 |nil=>intro _ q;exact kat_nil q
 |cons a t hx ih=>
  intro hy q;cases hy with
  |nil=>exact kat_nil q
  |cons b u hy=>
   refine kat_cons (wpAny_eqBool_int (kat_go (λe=>kat_yes (ih (i+1) hy ?_)) λe=>kat_no ?_))
   ·rw[cD,lexGo_c,if_pos e]at q;exact q
   ·have q:Q (decide (a<b)) s:=by
     rw[cD,lexGo_c,if_neg (by simpa using e)]at q;exact q
    cases i with
    |zero=>exact oneLt_int q
    |succ i=>exact kat_one _ _ (lt_int q)
def TupAt(h:Heap)(v:Value)(ns:List Int):Prop:=∃a xs n,v=.ref a/\h.get? a=some (sqO "tuple" xs n)/\IntsAre xs ns
def TupsAt(h:Heap):List Value->List (List Int)->Prop
 |[],[]=>True
 |v::vs,t::ts=>(TupAt h v t/\t≠[])/\TupsAt h vs ts
 |_,_=>False
theorem TupsAt.length{h:Heap}:∀{vs:List Value} {ts:List (List Int)},TupsAt h vs ts->vs.length=ts.length
 |[],[],_=>rfl
 |_::_,_::_,⟨_,r⟩=>by simp[TupsAt.length r]
 |[],_::_,r=>r.elim
 |_::_,[],r=>r.elim
theorem TupsAt.get{h:Heap}{vs:List Value}:∀{ts:List (List Int)},TupsAt h vs ts->∀i,i<ts.length->TupAt h (vs.getD i .none) (ts.getD i []):=by
 induction vs with
 |nil=>
  intro ts T i hi;cases ts with
  |nil=>exact absurd hi (bR _)
  |cons _ _=>exact T.elim
 |cons v vs ih=>
  intro ts T i hi;cases ts with
  |nil=>exact T.elim
  |cons t ts=>cases i with
   |zero=>exact T.1.1
   |succ i=>exact ih T.2 i (cM hi)
theorem TupsAt.kat{h:Heap}{vs:List Value}:∀{ts:List (List Int)},TupsAt h vs ts->∃fs,KatTups h vs fs/\fs.length=vs.length/\∀v∈fs,∃i t,v=.int i t:=by
 induction vs with
 |nil=>
  intro ts T;cases ts with
  |nil=>exact ieaa ([]) trivial rfl (λ_ h=>nomatch h)
  |cons _ _=>exact T.elim
 |cons v vs ih=>
  intro ts T;cases ts with
  |nil=>exact T.elim
  |cons t ts=>
   obtain⟨⟨⟨a,xs,n,ev,h1,h2⟩,ne⟩,r⟩:=T;refine oeaa (ih r) λfs h3 h4 h5=>?_;cases h2 with
   |nil=>exact absurd rfl ne
   |cons i u h2=>exact ieaa (.int i u::fs) (⟨⟨a,_,_,n,ev,h1,rfl,rfl,rfl⟩,h3⟩) (congrArg bz h4) (λv hv=>(aj.mp hv).elim (λe=>iee i u e) (h5 v))
theorem ask_tups{vs:List Value}{ts:List (List Int)}(T:TupsAt s.heap vs ts)(i j:Nat)(C:Bool->Shared->Prop)(hi:i<ts.length)(hj:j<ts.length)(q:C (lexLt (ts.getD i []) (ts.getD j [])) s):kas_ask prog w A (tuples' true) vs i j C s:=by
 unfold kas_ask;refine oeeeaa (T.get i hi) λa xs n e1 h1 I1=>?_;refine oeeeaa (T.get j hj) λb ys m e2 h2 I2=>?_;rw[e1,e2];refine kat_lt h1 rfl h2 rfl (lex_run 0 I1 I2 ?_);have l1:=I1.length;have l2:=I2.length;simpa[l1,l2]using(show C (lexGo (decide ((ts.getD i []).length<(ts.getD j []).length)) ((ts.getD i []).zip (ts.getD j []))) s from q)
theorem kind_tups{vs:List Value}{ts:List (List Int)}{Q:SortKind->Shared->Prop}(T:TupsAt s.heap vs ts)(hne:0<ts.length)(q:Q (tuples' true) s):wpAny (model prog w) A (keyKind' vs.toArray) Q E s:=by
 refine oeaa T.kat λfs h1 h2 h3=>?_;have:=T.length;refine kat_kind (T:=.type "int") h1 (by lia) (λv hv=>?_) (rfl) q;refine oee (h3 v hv) λi t z_=>?_;subst z_;exact .now
theorem sort_one{a:Addr}{x:Value}{n:Nat}{Q:Value->Shared->Prop}(ho:s.heap.get? a=some (W.listOf [x].toArray n))
 (q:∀h' c,(∀b o,b≠a->s.heap.get? b=some o->h'.get? b=some o)->h'.get? a=some (W.listOf [x].toArray c)->Q .none {s with heap:=h'}):wpAny (model prog w) A (call (.builtin "list.sort") [.ref a]) Q E s:=by
 refine wpAny_call_entry slot_list_sort (iea _ ho rfl) entry_list_sort ?_ (args_list_sort _);have s1:=Heap.SameBut.update s.heap a (Obj.mapSeq λ_=>(#[]:Array Value));obtain⟨e1,ho1⟩:∃e1,(s.heap.update a (Obj.mapSeq λ_=>(#[]:Array Value))).get? a=some (seqObj "list" #[] e1):=⟨_,get?_update_seq ho λ_=>#[]⟩;have ho3:(((s.heap.update a (Obj.mapSeq λ_=>(#[]:Array Value))).push (seqObj "tuple" [x].toArray 0)).push (seqObj "list" #[] 0)).get? a=some (seqObj "list" #[] e1):=Heap.get?_push_of_some _ (Heap.get?_push_of_some _ ho1);rw[list_sort_plain];refine wpAny_bind (listItems_at ho rfl ?_);refine wpAny_bind (listUpdate_at ho rfl ?_ (by simp[sizeLine_eq]) (aZ _));refine wpAny_bind (seqEpoch_at ho1 rfl ?_);refine wpAny_bind (wpAny_newTuple ?_ (by simp[sizeLine_eq]));refine wpAny_bind (wpAny_newList ?_ (aZ _));refine wpAny_holding ?_;have hn2:([x].toArray:Array Value).size<2:=by simp
 refine wpAny_bind (wpAny_pure ?_);refine wpAny_bind (wpAny_pure ?_);dsimp only;refine wpAny_bind (seqEpoch_at ho3 rfl ?_);obtain⟨c2,hc2⟩:=(⟨_,get?_update_seq ho3 λ_=>[x].toArray⟩:∃c2,((((s.heap.update a (Obj.mapSeq λ_=>(#[]:Array Value))).push (seqObj "tuple" [x].toArray 0)).push (seqObj "list" #[] 0)).update a (Obj.mapSeq λ_=>[x].toArray)).get? a=some (seqObj "list" [x].toArray c2));have hout:Array.map (λx:Keyed=>x.snd) (arrOf (SortSt.mk' general' (#[x].zip #[x]) #[] 7 none))=#[x]:=by
  show Array.map (λx:Keyed=>x.snd) (#[x].zip #[x])=#[x];simp
 refine(hout).symm▸?_;refine wpAny_bind (listUpdate_at ho3 rfl ?_ (aZ _) (by simp[sizeLine_eq]));simp only[bne_self_eq_false,bX,if_false];refine wpAny_pure (iea _ rfl (q _ c2 (λb o nb e=>?_) hc2));rw[(Heap.SameBut.update _ a _).2 b nb];exact Heap.get?_push_of_some _ (Heap.get?_push_of_some _ ((s1.2 b nb).trans e))
end
def SortT(vs:List V)(q:List V->Prop):Prop:=∃ts out,vs=ts.map tupI/\(∀t∈ts,t≠[])/\sortP ts=some out/\q (out.map tupI)
noncomputable def sortTW:FBi:=λos fr Q=>one os λo=>rdW fr o λx=>match x with
 |.lst vs=>SortT vs λout=>Q (.v (.lst out)) fr
 |.tup vs=>SortT vs λout=>Q (.v (.lst out)) fr
 |_=>False
section
variable{c:Cx}{k:Nat}{Z:Fx}{y y':Gl}{fr:FrL}{s s':Shared}{A:Around}{x:Value}{E:Value->Shared->Prop}{g:GM}
theorem tupsAt_of{h:Heap}(kg:∀b o,g b=some o->h.get? b=some o):∀{ts:List (List Int)} {xs:List Value},RepL g (ts.map tupI) xs->(∀t∈ts,t≠[])->TupsAt h xs ts:=by
 intro ts
 induction ts with
 |nil=>intro xs r _;subst r;trivial
 |cons t ts ih=>
  rintro _ ⟨y,ys,rfl,r,rl⟩ hne;obtain⟨a,xs,n,ev,h1,h2⟩:=r;exact⟨⟨ieeeaa a xs n ev (kg _ _ h1) (ints_of h2),hne t (.head _)⟩,ih rl λt h=>hne t (.tail _ h)⟩
theorem rep_pick{ts:List (List Int)}{xs:List Value}(r:RepL g (ts.map tupI) xs):∀p:List Nat,(∀i∈p,i<ts.length)->RepL g ((p.map (ts.getD · [])).map tupI) (p.map λi=>xs.getD i Value.none):=by
 intro p
 induction p with
 |nil=>intro _;rfl
 |cons i p ih=>
  intro h;have hi:=h i (.head _);refine oea (r.get (i:=i) (v:=tupI (ts.getD i [])) (by simp[hi])) λx e1 e2=>?_;exact⟨x,_,by simp[e1],e2,ih λi h'=>h i (.tail _ h')⟩
theorem sort_tups{xs:List Value}{ts out:List (List Int)}{h1:Heap}{tk:Nat}{Q:Value->Shared->Prop}(S:St c Z y fr s)(k1:∀b o,s.heap.get? b=some o->h1.get? b=some o)(I:RepL y.g (ts.map tupI) xs)(hne:∀t∈ts,t≠[])(hp:sortP ts=some out)
 (q:∀y' val s',Ext Z true y y'->RV c Z y' fr s' (.lst (out.map tupI)) val->Q val s'):
 wpAny c.M A (newList xs) (λl s2=>wpAny c.M A (call (.builtin "list.sort") [l]) (λ_ s'=>Q l s') E s2) E {s with heap:=h1,toks:=tk}:=by
 have hlen:xs.length=ts.length:=by simpa using I.length
 have nD0:s.heap.get? h1.objs.size=none:=none_of k1 (fresh_none _);have kp:∀b o,s.heap.get? b=some o->(h1.push {cls:=.type "list",data:=.seq xs.toArray}).get? b=some o:=λb o e=>Heap.get?_push_of_some _ (k1 b o e);have hD:(h1.push {cls:=.type "list",data:=.seq xs.toArray}).get? h1.objs.size=some (W.listOf xs.toArray 0):=Heap.get?_push_size _ rfl;unfold sortP at hp;split at hp
 ·rename_i one;injection hp with hp;injections;subst_vars;obtain⟨x,rfl⟩:=eM.mp (hlen.trans one);refine wpAny_newList ?_ (small_n (by show 1<=1000;decide));refine sort_one hD λh' cc hk ha=>?_;refine oeaa (S.seq (s':={s with heap:=h',toks:=tk}) (.of (λb o e=>hk b o (λz=>by subst z;rw[nD0]at e;cases e) (kp b o e)) rfl rfl) nD0 ha I) λy' e S' r=>?_;exact q _ _ _ e ⟨S',r⟩
 split at hp
 ·rename_i two;refine oea (Option.bind_eq_some_iff.mp hp) λp hp1 hp2=>?_;split at hp2
  ·rename_i hall;obtain rfl:=ab.inj hp2;refine wpAny_newList ?_ (by rw[hlen];exact small_n (a6 (bf two.2) (by decide)));refine oeaa S.frN λm F N back=>?_;have nin:∀p∈allN c.h₀ s.heap Z.env.locals,p.1≠h1.objs.size:=λp hp z=>by have:=(N p hp).1;simp only[z,nD0]at this;exact nos this
   have nb0:c.h₀.get? h1.objs.size=none:=none_of (baseAt S) nD0;have nL:h1.objs.size≠Z.env.locals:=λz=>by refine oeeea F.ns λo _ _ e _=>?_;rw[←z,nD0]at e;exact nos e
   refine wpAny_call_entry slot_list_sort (iea _ hD rfl) entry_list_sort (kat_list_sort (n:=0) (F.keeps kp) (N.grown kp) hD nL nb0 nin (by rw[hlen];exact two.1) (by rw[hlen];exact two.2) λe1 h' F' N'=>?_) (args_list_sort _);have S1:=S.kp (back _ (λp hp=>.tail _ hp) h' tk F' N');have T:TupsAt h' xs ts:=tupsAt_of S1.hs.keepg I hne;refine kind_tups T (bH (by decide) two.1) ?_;simp only[hlen];refine KasT.wp_ansB (n:=ts.length) (f:=λi j=>lexLt (ts.getD i []) (ts.getD j [])) (λi j C hi hj hC=>ask_tups T i j C hi hj hC) _ p hp1 ?_;refine KasFin.intro F' N' (.head nin) λh3 cc F3 N3=>iea _ rfl ?_;refine oeaa (S.seq (back _ (λp hp=>.tail _ hp) h3 tk F3 N3) nD0 (N3 _ (.head _)).1 (rep_pick I p.toList λi hi=>by simpa using aA.mp hall i hi)) λy' e S' r=>?_;exact q _ _ _ e ⟨S',r⟩
  ·exact nos hp2
 ·exact nos hp
theorem sortTSq{T:String}{ts out:List (List Int)}{Q:Rw->FrL->Prop}(hT:T="list"∨T="tuple")(S:St c Z y fr s)(r:SqH s.heap y.g T (ts.map tupI) x)(hne:∀t∈ts,t≠[])(hp:sortP ts=some out)(q:Q (.v (.lst (out.map tupI))) fr):wpAny c.M A (call (.builtin "sorted") [x]) (P Z y true (RE c) Q) noE s:=by
 obtain⟨a,xs,n,rfl,h2,I⟩:=r;have hlen:xs.length=ts.length:=by simpa using I.length
 have hsz:ts.length<=1000:=by
  unfold sortP at hp;split at hp
  ·rename_i h;rw[h];decide
  ·split at hp
   ·rename_i h;exact a6 (bf h.2) (by decide)
   ·exact nos hp
 refine call_function_entry kind_sorted plain_sorted entry_sorted (args_sorted1 _) ?_;refine wpAny_bind (m:=checkCount "sorted" 1 1 _) (wpAny_pure ?_);refine wpAny_bind (wpAny_collect_seq a hT h2 rfl rfl (λh' k'=>?_) (by simp only[aw,hlen];exact small_n hsz));refine wpAny_bind (wpAny_mono (sort_tups (A:=A.in1) (Q:=P Z y true (RE c) Q) (tk:=s.toks) S k' I hne hp λy' val s' e r=>⟨y',fr,.v _,e,r,q⟩) (λl s2 h2=>?_) λ_ _ e=>e);exact wpAny_bind (wpAny_holding (wpAny_mono h2 (λ_ s' x=>wpAny_pure (iea _ rfl x)) λ_ _ e=>e))
theorem biSortedT:BiW c k (.builtin "sorted") true sortTW:=by
 intro Z y fr s os vals Q rm S ho q;refine oeeaa (one.out ho q) λo v z_ h1 q=>?_;subst z_;refine oea (rd_ok S h1 q) λu r q=>?_;cases u with
 |lst vs=>obtain⟨ts,out,e,h1,h2,h3⟩:=(show SortT _ _ from q);subst e;exact sortTSq (.inl rfl) S (r.list S.hs.keepg) h1 h2 h3
 |tup vs=>obtain⟨ts,out,e,h1,h2,h3⟩:=(show SortT _ _ from q);subst e;exact sortTSq (.inr rfl) S (r.tup S.hs.keepg) h1 h2 h3
 |_=>exact q.elim
end
noncomputable abbrev FS:=Pw Fw
noncomputable def fNext:FS:=λγ fr Q=>Q .nxt fr
inductive Nx(γ:Ct)(g:FS)(fr:FrL)(Q:Fw->FrL->Prop):Prop
 |mk (h:g γ fr Q):Nx γ g fr Q
def seqK(g:FS)(γ:Ct)(Q:Fw->FrL->Prop)(fl:Fw)(fr:FrL):Prop:=match fl with
 |.nxt=>Nx γ g fr Q
 |.ret r=>Q (.ret r) fr
noncomputable def fSeq(f g:FS):FS:=λγ fr Q=>f γ fr (seqK g γ Q)
noncomputable def fIfS(t:FB)(f g:FS):FS:=λγ fr Q=>t γ fr (ifK f g γ Q)
def retW:Rw->FrL->(Fw->FrL->Prop)->Prop
 |.v x,fr,Q=>Q (.ret (.v x)) fr
 |.fresh w,fr,Q=>match w with|.list vs=>Q (.ret (.v (.lst vs))) fr|w=>Q (.ret (.fresh w)) fr
 |.loc i,fr,Q=>match getF fr i with|some w=>(match w with|.list vs=>Q (.ret (.v (.lst vs))) (setF fr i (.v (.lst vs)))|_=>False)|none=>False
 |.fld _ _,_,_=>False
def retK(Q:Fw->FrL->Prop)(r:Rw)(fr:FrL):Prop:=retW r fr Q
def nxtK{α:Type}(Q:Fw->FrL->Prop)(_:α)(fr:FrL):Prop:=Q .nxt fr
noncomputable def fRet(f:FE):FS:=λγ fr Q=>f γ fr (retK Q)
noncomputable def fRet0:FS:=λγ fr Q=>Q (.ret (.v .none)) fr
noncomputable def fExp(f:FE):FS:=λγ fr Q=>f γ fr (nxtK Q)
def asgK2(i:Nat)(Q:Fw->FrL->Prop)(z:Rz)(fr:FrL):Prop:=Q .nxt (setF fr i z.mw)
def asgK(i:Nat)(Q:Fw->FrL->Prop)(r:Rw)(fr:FrL):Prop:=ownW r fr (asgK2 i Q)
noncomputable def fAsg(i:Nat)(f:FE):FS:=λγ fr Q=>f γ fr (asgK i Q)
noncomputable def setRs:List Nat->List Rz->FrL->FrL
 |i::is,z::zs,fr=>setRs is zs (setF fr i z.mw)
 |_,_,fr=>fr
noncomputable def setBack:List Nat->List Rz->FrL->FrL
 |i::is,z::zs,fr=>setF (setBack is zs fr) i z.mw
 |_,_,fr=>fr
noncomputable def setVs:List Nat->List V->FrL->FrL
 |i::is,z::zs,fr=>setVs is zs (setF fr i (.v z))
 |_,_,fr=>fr
def asgTK(is:List Nat)(back:Bool)(Q:Fw->FrL->Prop)(zs:List Rz)(fr1:FrL):Prop:=Q .nxt (match back with|true=>setBack is zs fr1|false=>setRs is zs fr1)
noncomputable def fAsgT(is:List Nat)(f:Pw (List Rz))(back:Bool):FS:=λγ fr Q=>f γ fr (asgTK is back Q)
def asgUK(is:List Nat)(Q:Fw->FrL->Prop)(x:V)(fr1:FrL):Prop:=match x with
 |.tup vs=>yes (aT vs.length is.length) (Q .nxt (setVs is vs fr1))
 |_=>False
noncomputable def fAsgU(is:List Nat)(f:FV):FS:=λγ fr Q=>f γ fr (asgUK is Q)
def asgAK3(i:Nat)(Q:Fw->FrL->Prop)(z:Rz)(t:Rw)(fr:FrL):Prop:=asgAW i z fr Q t
def asgAK2(i:Nat)(g:FE)(γ:Ct)(Q:Fw->FrL->Prop)(z:Rz)(fr:FrL):Prop:=g γ fr (asgAK3 i Q z)
def asgAK(i:Nat)(g:FE)(γ:Ct)(Q:Fw->FrL->Prop)(r:Rw)(fr:FrL):Prop:=ownW r fr (asgAK2 i g γ Q)
noncomputable def fAsgA(i:Nat)(f:FE)(g:FE):FS:=λγ fr Q=>f γ fr (asgAK i g γ Q)
def asgIK2(Q:Fw->FrL->Prop)(x:V)(fr:FrL)(o oi:Ow):Prop:=setW fr o oi x (Q .nxt)
def asgIK(g h:FO)(b2:Bool)(γ:Ct)(Q:Fw->FrL->Prop)(x:V)(fr:FrL):Prop:=f2 γ g h b2 (asgIK2 Q x) fr
noncomputable def fAsgI(f:FV)(g h:FO)(b2:Bool):FS:=λγ fr Q=>f γ fr (asgIK g h b2 γ Q)
structure ExtS(Z:Fx)(asg:List Nat)(y y':Gl):Prop where
 g:GExt Z.K y.g y'.g
 r:∀i,i∉asg->y'.L (.var i) 0=y.L (.var i) 0
inductive PS(c:Cx)(Z:Fx)(y:Gl)(asg:List Nat)(Q:Fw->FrL->Prop)(fl:Flow)(s':Shared):Prop
 |nxt (y':Gl) (fr':FrL) (e:ExtS Z asg y y') (hf:fl=.next) (S:St c Z y' fr' s') (q:Q .nxt fr'):PS c Z y asg Q fl s'
 |ret (y':Gl) (fr':FrL) (z:Rz) (val:Value) (e:ExtS Z asg y y') (hf:fl=.ret val) (r:RE c Z y' fr' s' z.toRw val) (q:Q (.ret z) fr'):PS c Z y asg Q fl s'
abbrev JS(c:Cx)(k:Nat)(sc:Scope)(m:Env->Sem Flow)(f:FS)(asg:List Nat):Prop:=
 ∀Z y fr s Q,Fx.Ok k sc Z->St c Z y fr s->f ⟨c,k⟩ fr Q->wpAny c.M Z.A (m Z.env) (PS c Z y asg Q) noE s
abbrev SS1(c:Cx)(k:Nat)(sc:Scope)(st:Stmt)(f:FS)(asg:List Nat):Prop:=JS c k sc (λenv=>exec st env) f asg
abbrev SS(c:Cx)(k:Nat)(sc:Scope)(sts:List Stmt)(f:FS)(asg:List Nat):Prop:=JS c k sc (λenv=>execs sts env) f asg
def Writable(sc:Scope)(x:Str):Prop:=sc.names.lookup x=some .local∨sc.names.lookup x=some .cell
inductive NamesAre:List Expr->List Nat->Prop
 |nil:NamesAre [] []
 |cons {x:Str} {i:Nat} {p:Pos} {es:List Expr} {is:List Nat} (h:nm i=x) (r:NamesAre es is):NamesAre (.Name x p::es) (i::is)
def allW(sc:Scope):List Expr->Prop
 |.Name x _::es=>Writable sc x/\allW sc es
 |[]=>True
 |_=>False
section
variable{c:Cx}{k:Nat}{sc:Scope}{Z:Fx}{y y' y2:Gl}{fr fr':FrL}{s s':Shared}{A:Around}{b b1 b2:Bool}{f g:FE}{fv gv:FV}{fo go:FO}{fb:FB}{fs gs:FS}{a1 a2:List Nat}{e:Expr}{pos:Pos}{Q:Fw->FrL->Prop}{fl:Flow}{m:Env->Sem Flow}
theorem JS.use(h:JS c k sc m fs a1){Q:Fw->FrL->Prop}{R:Flow->Shared->Prop}(ok:Fx.Ok k sc Z)(S:St c Z y fr s)(q:fs ⟨c,k⟩ fr Q)(t:∀fl s',PS c Z y a1 Q fl s'->R fl s'):wpAny c.M Z.A (m Z.env) R noE s:=
 wpAny_mono (h Z y fr s Q ok S q) t λ_ _ h=>h
theorem Ext.asS(e:Ext Z b y y'):ExtS Z a1 y y':=⟨e.g,λi _=>e.r0 i⟩
theorem ExtS.refl:ExtS Z a1 y y:=⟨.refl _ _,λ_ _=>rfl⟩
theorem ExtS.trans(h1:ExtS Z a1 y y')(h2:ExtS Z a2 y' y2):ExtS Z (a1++a2) y y2:=
 ⟨h1.g.trans h2.g,λi n=>(h2.r i λz=>n (bm _ z)).trans (h1.r i λz=>n (aK _ z))⟩
theorem ExtS.weak(h:ExtS Z a1 y y')(w:∀i∈a1,i∈a2):ExtS Z a2 y y':=⟨h.g,λi n=>h.r i λz=>n (w i z)⟩
theorem ExtS.tr(h1:ExtS Z a1 y y')(h2:ExtS Z a1 y' y2):ExtS Z a1 y y2:=(h1.trans h2).weak λi hi=>(aO.mp hi).elim id id
theorem ExtS.after(h1:Ext Z b y y')(h2:ExtS Z a1 y' y2):ExtS Z a1 y y2:=(Ext.asS h1).tr h2
theorem PS.after(h1:ExtS Z a2 y y')(w:∀i∈a1,i∈a2)(h:PS c Z y' a1 Q fl s):PS c Z y a2 Q fl s:=by
 cases h with
 |nxt y2 fr2 e hf S q=>exact .nxt y2 fr2 (h1.tr (e.weak w)) hf S q
 |ret y2 fr2 z val e hf r q=>exact .ret y2 fr2 z val (h1.tr (e.weak w)) hf r q
theorem SS.nil:SS c k sc [] fNext []:=λZ y fr s Q ok S q=>wpAny_execs_nil (.nxt y fr .refl rfl S q)
theorem SS.cons{st:Stmt}{sts:List Stmt}(h:SS1 c k sc st fs a1)(hs:SS c k sc sts gs a2):SS c k sc (st::sts) (fSeq fs gs) (a1++a2):=by
 intro Z y fr s Q ok S q;refine wpAny_execs_cons (h.use ok S q λfl s1 h1=>?_);cases h1 with
 |nxt y1 fr1 e hf S1 q1=>
  subst hf;obtain⟨q1⟩:=q1;exact hs.use ok S1 q1 λfl s2 h2=>h2.after (e.weak λi=>aK _) λi=>bm _
 |ret y1 fr1 z val e hf r q1=>
  subst hf;exact .ret y1 fr1 z val (e.weak λi=>aK _) rfl r q1
theorem SS1.if_{t:Expr}{p1 p2:List Stmt}(ht:SB c k sc t fb b)(h1:SS c k sc p1 fs a1)(h2:SS c k sc p2 gs a2):SS1 c k sc (.If t p1 p2 pos) (fIfS fb fs gs) (a1++a2):=by
 intro Z y fr s Q ok S q;refine wpAny_If (ht.use ok S q λy1 fr1 b b' s1 e1 r1 q1=>?_);obtain⟨S1,rfl⟩:=r1;cases b with
 |true=>exact h1.use ok S1 q1.t λfl s2 h2=>h2.after (Ext.asS e1) λi=>aK _
 |false=>exact h2.use ok S1 q1.f λfl s2 h2=>h2.after (Ext.asS e1) λi=>bm _
theorem SS1.ret(h:SE c k sc e f b):SS1 c k sc (.Return (some e) pos) (fRet f) []:=by
 intro Z y fr s Q ok S q;refine wpAny_Return_some (h.use ok S q λy1 fr1 w val s1 e1 r1 q1=>?_);have pur:purW w fr1 (λx fr=>Q (.ret (.v x)) fr)->PS c Z y [] Q (.ret val) s1:=λq=>by
  obtain⟨y2,fr2,x,e2,r2,q2⟩:=pur_of r1 q;exact .ret y2 fr2 (.v x) val (Ext.asS (e1.r e2)) rfl r2 q2
 cases w with
 |v x=>exact .ret y1 fr1 (.v x) val (Ext.asS e1) rfl r1 q1
 |fresh w=>cases w with
  |list vs=>exact pur q1
  |v x=>exact .ret y1 fr1 (.fresh _) val (Ext.asS e1) rfl r1 q1
  |dict es=>exact .ret y1 fr1 (.fresh _) val (Ext.asS e1) rfl r1 q1
  |obj C ks ws=>exact .ret y1 fr1 (.fresh _) val (Ext.asS e1) rfl r1 q1
 |loc i=>exact pur q1
 |fld i k=>exact q1.elim
theorem SS1.ret0:SS1 c k sc (.Return none pos) fRet0 []:=λZ y fr s Q ok S q=>wpAny_Return_none (.ret y fr (.v .none) _ .refl rfl ⟨S,rfl⟩ q)
theorem not_interactive{env:Env}(h:env.scope.kind=.function):interactive env=false:=by unfold interactive;refine(h).symm▸?_;rfl
theorem SS1.expr(h:SE c k sc e f b)(hw:∀env,swapsWith e none pos.line env=pure false):SS1 c k sc (.Expr e pos) (fExp f) []:=by
 intro Z y fr s Q ok S q;refine wpAny_Expr_any (h.use ok S q λy1 fr1 w val s1 e1 r1 q1=>.nxt y1 fr1 (Ext.asS e1) rfl ?_ q1) (not_interactive S.ok.kind) (hw Z.env);cases w with
 |fresh w=>exact r1.1.dropTmp
 |_=>exact r1.1
theorem St.nil_{Z:Fx}(S:St c {Z with X:=Z.X++[]} y fr s):St c Z y fr s:=by rw[aM]at S;exact S
theorem St.putR{i:Nat}{x:Str}{z:Rz}{val:Value}{P:Unit->Shared->Prop}{E:Value->Shared->Prop}(ok:Fx.Ok k sc Z)(r:RE c Z y fr s z.toRw val)(hx:nm i=x)(hk:Writable sc x)(q:∀y' s',ExtS Z [i] y y'->St c Z y' (setF fr i z.mw) s'->P () s'):wpAny c.M A (storeName Z.env x val) P E s:=by
 cases z with
 |v u=>exact r.1.putV hx (writes ok.sc hk) r.2 λs' S'=>q y s' .refl S'
 |fresh w=>exact St.putTmp (Z:=Z) (X2:=[]) r.1 hx (writes ok.sc hk) r.2.1 r.2.2 λs' L' h1 _ S'=>q ⟨y.g,L'⟩ s' ⟨.refl _ _,λj n=>h1 j (λz=>n (z▸.head _)) 0⟩ S'.nil_
theorem SS1.asg{i:Nat}{x:Str}{p:Pos}(h:SE c k sc e f b)(hx:nm i=x)(hk:Writable sc x)(hw:∀env,env.scope=sc->swapsWith e (some (.Name x p)) pos.line env=pure false):SS1 c k sc (.Assign [.Name x p] e pos) (fAsg i f) [i]:=by
 intro Z y fr s Q ok S q;refine wpAny_Assign_Name (h.use ok S q λy1 fr1 w val s1 e1 r1 q1=>?_) (hw Z.env ok.sc);obtain⟨y2,fr2,z,e2,r2,q2⟩:=own_of r1 q1;exact St.putR ok r2 hx hk λy3 s3 e3 S3=>.nxt y3 _ (.after (e1.r e2) e3) rfl S3 q2
theorem NamesAre.len{es:List Expr}{is:List Nat}(h:NamesAre es is):es.length=is.length:=by
 induction h with
 |nil=>rfl
 |cons _ _ ih=>exact congrArg bz ih
theorem assignEach_len{env:Env}{es:List Expr}{is:List Nat}(h:NamesAre es is):(assignEach es env).length=es.length/\(assignEach es env).findIdx? (·.1)=none:=by
 induction h with
 |nil=>exact⟨rfl,rfl⟩
 |@cons x i p es is h r ih=>
  show((false,assign (.Name x p) env)::assignEach es env).length=_/\((false,assign (.Name x p) env)::assignEach es env).findIdx? (·.1)=none;refine⟨congrArg bz ih.1,?_⟩;rw[List.findIdx?_cons,ih.2];rfl
theorem RsOk.length{rs:List Rz}:∀{n:Nat} {vs:List Value},RsOk y n rs vs->vs.length=rs.length:=by
 induction rs with
 |nil=>intro n vs h;subst h;rfl
 |cons r rs ih=>
  intro n vs h;cases r with
  |v x=>obtain⟨v,vs,rfl,h,hs⟩:=h;exact congrArg bz (ih hs)
  |fresh w=>obtain⟨v,vs,rfl,h,hs⟩:=h;exact congrArg bz (ih hs)
theorem RsOk.shift{d:Nat}{rs:List Rz}(hg:GSub y.g y'.g):∀{n:Nat} {vs:List Value},RsOk y (n+d) rs vs->(∀j,n<=j->∀m,y'.L (.tmp j) m=y.L (.tmp (j+d)) m)->RsOk y' n rs vs:=by
 induction rs with
 |nil=>exact λh _=>h
 |cons r rs ih=>
  intro n vs h e;cases r with
  |v x=>obtain⟨v,vs,rfl,h,hs⟩:=h;exact⟨v,vs,rfl,h.mono hg,ih hs e⟩
  |fresh w=>
   obtain⟨v,vs,rfl,h,hs⟩:=h;exact⟨v,vs,rfl,⟨h.1,h.2.trans (by rw[e n (aI _)])⟩,ih (n:=n+1) (by rw[aH];exact hs) λj hj=>e j (bU hj)⟩
theorem St.inOrder{E:Value->Shared->Prop}{P:Unit->Shared->Prop}(ok:Fx.Ok k sc Z):∀{rs:List Rz} {es:List Expr} {is:List Nat} {vals:List Value} {y:Gl} {fr:FrL} {s:Shared},NamesAre es is->allW sc es->es.length=rs.length->St c {Z with X:=Z.X++mwsR rs} y fr s->RsOk y Z.X.length rs vals->
 (∀y' s',ExtS Z is y y'->St c Z y' (setRs is rs fr) s'->P () s')->wpAny c.M A (assignInOrder ((assignEach es Z.env).map (·.2)) vals) P E s:=by
 intro rs
 induction rs with
 |nil=>
  intro es is vals y fr s hn _ hl S r q;cases hn with
  |nil=>refine(r)▸?_;exact wpAny_assignInOrder_none (q y s .refl S.nil_)
  |cons _ _=>injection hl
 |cons r0 rs ih=>
  intro es is vals y fr s hn hw hl S r q;cases hn with
  |nil=>injection hl
  |@cons x i p es is hx hn=>
   have hl':=bz.inj hl;have up:∀{y1 y':Gl},ExtS Z [i] y y1->ExtS Z is y1 y'->ExtS Z (i::is) y y':=λh1 h2=>h1.trans h2;clear hl;cases r0 with
   |v u=>
    obtain⟨v,vs,rfl,h,hs⟩:=r;show wpAny c.M A (assignInOrder (assign (.Name x p) Z.env::(assignEach es Z.env).map (·.2)) (v::vs)) P E s;refine wpAny_assignInOrder_more (assign_Name ?_);exact St.putV (Z:={Z with X:=Z.X++mwsR rs}) S hx (writes ok.sc hw.1) h λs1 S1=>ih hn hw.2 hl' S1 hs λy' s' e' S'=>q y' s' (up .refl e') S'
   |fresh w=>
    obtain⟨v,vs,rfl,h,hs⟩:=r;show wpAny c.M A (assignInOrder (assign (.Name x p) Z.env::(assignEach es Z.env).map (·.2)) (v::vs)) P E s;refine wpAny_assignInOrder_more (assign_Name ?_);exact St.putTmp (Z:=Z) S hx (writes ok.sc hw.1) h.1 h.2 λs1 L' h1 h2 S1=>ih hn hw.2 hl' S1 (RsOk.shift (y:=y) (y':=⟨y.g,L'⟩) (d:=1) (.refl _) hs λj hj m=>by show L' _ _=_;rw[h2,if_neg (aW.mpr hj)]) λy' s' e' S'=>q y' s' (up (y1:=⟨y.g,L'⟩) ⟨.refl _ _,λj n=>h1 j (λz=>n (z▸.head _)) 0⟩ e') S'
noncomputable def nmsOf(es:List Expr):List Str:=es.map λe=>match e with|.Name x _=>x|_=>""
theorem St.backOrder{E:Value->Shared->Prop}{P:Unit->Shared->Prop}:∀{rs:List Rz} {es:List Expr} {is:List Nat} {vals:List Value} {Z:Fx} {y:Gl} {fr:FrL} {s:Shared} (rest:List (Value->Sem Unit)) (restv:List Value),Fx.Ok k sc Z->NamesAre es is->allW sc es->es.length=rs.length->St c {Z with X:=Z.X++mwsR rs} y fr s->RsOk y Z.X.length rs vals->
 (∀y' s',ExtS Z is y y'->(∀j<Z.X.length,y'.L (.tmp j)=y.L (.tmp j))->St c Z y' (setBack is rs fr) s'->wpAny c.M A (assignInOrder rest restv) P E s')->
 wpAny c.M A (assignInOrder (((nmsOf es).reverse.map λn=>bindName Z.env n)++rest) (vals.reverse++restv)) P E s:=by
 intro rs
 induction rs with
 |nil=>
  intro es is vals Z y fr s rest restv ok hn _ hl S r q;cases hn with
  |nil=>cases(r);exact q y s .refl (λ_ _=>rfl) S.nil_
  |cons _ _=>injection hl
 |cons r0 rs ih=>
  intro es is vals Z y fr s rest restv ok hn hw hl S r q;cases hn with
  |nil=>injection hl
  |@cons x i p es is hx hn=>
   have hl':=bz.inj hl;have up:∀{y1 y':Gl},ExtS Z is y y1->ExtS Z [i] y1 y'->ExtS Z (i::is) y y':=λh1 h2=>(h1.trans h2).weak λj hj=>(aO.mp hj).elim (.tail _) λh=>by cases af.mp h;exact .head _
   have step:∀{v:Value} {vs:List Value},wpAny c.M A (assignInOrder (((nmsOf es).reverse.map λn=>bindName Z.env n)++(bindName Z.env x::rest)) (vs.reverse++(v::restv))) P E s->
    wpAny c.M A (assignInOrder (((nmsOf (.Name x p::es)).reverse.map λn=>bindName Z.env n)++rest) ((v::vs).reverse++restv)) P E s:=λ{v vs} h=>by
    simp only[show nmsOf (.Name x p::es)=x::nmsOf es from rfl,df,ah,bg,df,bg];exact h
   cases r0 with
   |v u=>
    obtain⟨v,vs,rfl,h,hs⟩:=r;refine step (ih (bindName Z.env x::rest) (v::restv) ok hn hw.2 hl' S hs λy1 s1 e1 t1 S1=>wpAny_assignInOrder_more (bindName_ ?_));exact S1.putV hx (writes ok.sc hw.1) (h.mono e1.g.1) λs2 S2=>q y1 s2 (up e1 .refl) t1 S2
   |fresh w=>
    obtain⟨v,vs,rfl,h,hs⟩:=r;have hl2:(Z.X++[w]).length=Z.X.length+1:=aa;refine step (ih (Z:=Z.push w) (bindName Z.env x::rest) (v::restv) ⟨ok.sc,ok.rm⟩ hn hw.2 hl' (by show St c {Z with X:=(Z.X++[w])++mwsR rs} y fr s;rw[bg];exact S) (by refine(hl2)▸?_;exact hs) λy1 s1 e1 t1 S1=>wpAny_assignInOrder_more (bindName_ ?_));refine St.putTmp (Z:=Z) (X2:=[]) S1 hx (writes ok.sc hw.1) h.1 (h.2.trans (by rw[t1 _ (by simp only[hl2];exact br _)])) λs2 L' h1 h2 S2=>q ⟨y1.g,L'⟩ s2 (up (y1:=y1) (y':=⟨y1.g,L'⟩) ⟨e1.g,e1.r⟩ ⟨.refl _ _,λj n=>h1 j (λz=>n (z▸.head _)) 0⟩) (λj hj=>?_) S2.nil_
    funext m
    show L' _ _=_;rw[h2,if_pos hj,t1 j (by simp only[hl2];exact bT hj)]
end
noncomputable def augI(op:Operator)(x y:Int):Int:=match op with
 |.Sub=>x-y
 |_=>x+y
def augW(op:Operator)(fr:FrL)(o oi:Ow)(q:Int->Prop):Prop:=intW oi λi=>listAt fr o λvs=>It (itemAt vs i) λx=>onI x q
noncomputable def fAug(op:Operator)(g h:FO)(f:FV)(b2 b3:Bool):FS:=λγ fr Q=>f2 γ g h b2 (λfr2 o oi=>augW op fr2 o oi λn=>f γ fr2 λy fr3=>onI y λb=>deep b3 o (setW fr3 o oi (.int (augI op n b)) λfr4=>Q .nxt fr4)) fr
noncomputable def fAsgII(f1 g1:FV)(t1 i1 t2 i2:FO)(bi1 bi2:Bool):FS:=λγ fr Q=>f1 γ fr λx fr1=>g1 γ fr1 λy fr2=>f2 γ t1 i1 bi1 (λfr3 o oi=>setW fr3 o oi x λfr4=>f2 γ t2 i2 bi2 (λfr5 o oi=>setW fr5 o oi y λfr6=>Q .nxt fr6) fr4) fr2
section
variable{c:Cx}{k:Nat}{sc:Scope}{Z:Fx}{y y' y2:Gl}{fr fr':FrL}{s s':Shared}{A:Around}{b b1 b2 b3 b4 b5:Bool}{f g:FE}{fv gv:FV}{fo go:FO}{a1 a2:List Nat}{e e1 e2:Expr}{ts es:List Expr}{is:List Nat}{p pos:Pos}{Q:Fw->FrL->Prop}
theorem St.ext(S:St c Z y fr s){h':Heap}(e:Heap.ExtBut s.heap.objs.size s.heap h'):St c Z y fr {s with heap:=h'}:=
 S.kp (.of (λb o q=>e b o (aY (Heap.lt_size q)) q) rfl rfl)
theorem St.garbage{xs:List Value}{P:Value->Shared->Prop}{E:Value->Shared->Prop}(S:St c Z y fr s)(hsz:xs.length<=sizeLine)
 (q:∀a s',St c Z y fr s'->s'.heap.get? a=some (sqO "tuple" xs 0)->P (.ref a) s'):wpAny c.M A (newTuple xs) P E s:=by
 refine wpAny_newTuple ?_ hsz;exact q s.heap.objs.size _ (S.kp (s':={s with heap:=s.heap.push (sqO "tuple" xs 0)}) (.of (λb o e=>Heap.get?_push_of_some _ e) rfl rfl)) (Heap.get?_push_size _ rfl)
theorem isTuple_of{h:Heap}{a:Addr}{xs:List Value}{n:Nat}(e:h.get? a=some (sqO "tuple" xs n)):h.IsTuple a xs.toArray:=by
 first
 |exact⟨n,e⟩
 |exact⟨_,e,rfl,n,rfl⟩
theorem RRs.len{rs:List Rz}{xs:List Value}(hn:NamesAre ts is)(hl:ts.length=es.length)(r:RRs c es.length Z y fr s rs xs):ts.length=rs.length:=hl.trans (r.2.symm.trans r.1.2.length)
theorem SS1.asgT{kk kk2:Nat}{tp p2 pos:Pos}{f:Pw (List Rz)}(h:SRs c k sc es f b)(hn:NamesAre ts is)(hw:allW sc ts)(hl:ts.length=es.length)(hsz:es.length<=1000)
 (hs1:∀env,swapsWithSole [.Tuple ts kk tp] (.Tuple es kk2 p2) pos.line env=pure false) (hs2:∀env,env.scope=sc->swappedStores [.Tuple ts kk tp] (.Tuple es kk2 p2) env=pure none):
 SS1 c k sc (.Assign [.Tuple ts kk tp] (.Tuple es kk2 p2) pos) (fAsgT is f false) is:=by
 intro Z y fr s Q ok S q;refine Assign_Tuple (Tuple_ ((h p2).use ok S q λy1 fr1 rs xs s1 e1 r1 q1=>?_)) (hs1 Z.env) (hs2 Z.env ok.sc);have hrl:=r1.len hn hl;obtain⟨⟨S1,r1⟩,l1⟩:=r1;refine S1.garbage (small_n (l1▸hsz)) λa s2 S2 ha=>?_;obtain⟨a1,a2⟩:=assignEach_len (env:=Z.env) hn;refine wpAny_assign_Tuple ok.rm.1 (isTuple_of ha) (by simp only[a1,aw,hl,l1]) a2 λh' he=>?_;exact St.inOrder ok hn hw hrl (S2.ext he) r1 λy3 s3 e3 S3=>.nxt y3 _ (.after e1 e3) rfl S3 q1
theorem SS1.asgTb{kk kk2:Nat}{tp p2 pos:Pos}{f:Pw (List Rz)}(h:SRs c k sc es f b)(hn:NamesAre ts is)(hw:allW sc ts)(hl:ts.length=es.length)(hsz:es.length<=1000)
 (hs1:∀env,swapsWithSole [.Tuple ts kk tp] (.Tuple es kk2 p2) pos.line env=pure false) (hs2:∀env,env.scope=sc->swappedStores [.Tuple ts kk tp] (.Tuple es kk2 p2) env=pure (some (nmsOf ts))):
 SS1 c k sc (.Assign [.Tuple ts kk tp] (.Tuple es kk2 p2) pos) (fAsgT is f true) is:=by
 intro Z y fr s Q ok S q;refine Assign_Tuple_swapped (Tuple_ ((h p2).use ok S q λy1 fr1 rs xs s1 e1 r1 q1=>?_)) (hs1 Z.env) (hs2 Z.env ok.sc);have hrl:=r1.len hn hl;obtain⟨⟨S1,r1⟩,l1⟩:=r1;refine S1.garbage (small_n (l1▸hsz)) λa s2 S2 ha=>?_;refine(show(nmsOf ts).length=xs.toArray.size by rw[nmsOf,a7,aw,hl,l1]).symm▸?_;refine wpAny_unpackItems_tuple ok.rm.1 (isTuple_of ha) λh' he=>?_;have:=St.backOrder (A:=Z.A) (P:=λ_=>PS c Z y is Q .next) (E:=noE) [] [] ok hn hw hrl (S2.ext he) r1 λy3 s3 e3 _ S3=>wpAny_assignInOrder_none (.nxt y3 _ (.after e1 e3) rfl S3 q1);rw[aM,aM]at this;exact this
theorem St.putVs{E:Value->Shared->Prop}{P:Unit->Shared->Prop}(ok:Fx.Ok k sc Z):∀{vs:List V} {es:List Expr} {is:List Nat} {xs:List Value} {fr:FrL} {s:Shared},NamesAre es is->allW sc es->es.length=vs.length->St c Z y fr s->RepL y.g vs xs->
 (∀s',St c Z y (setVs is vs fr) s'->P () s')->wpAny c.M A (assignInOrder ((assignEach es Z.env).map (·.2)) xs) P E s:=by
 intro vs
 induction vs with
 |nil=>
  intro es is xs fr s hn _ hl S r q;cases hn with
  |nil=>refine(r)▸?_;exact wpAny_assignInOrder_none (q s S)
  |cons _ _=>injection hl
 |cons v vs ih=>
  intro es is xs fr s hn hw hl S r q;cases hn with
  |nil=>injection hl
  |@cons x i p es is hx hn=>
   obtain⟨w,ws,rfl,h,hs⟩:=r;exact wpAny_assignInOrder_more (assign_Name (S.putV hx (writes ok.sc hw.1) h λs1 S1=>ih hn hw.2 (bz.inj hl) S1 hs q))
theorem St.unpack{vs:List V}{kk:Nat}{tp:Pos}{val:Value}{P:Unit->Shared->Prop}{E:Value->Shared->Prop}(ok:Fx.Ok k sc Z)(hA:A.handled=none)(S:St c Z y fr s)(hn:NamesAre ts is)(hw:allW sc ts)(r:Rep y.g (.tup vs) val)(hl:vs.length=is.length)
 (q:∀s',St c Z y (setVs is vs fr) s'->P () s'):wpAny c.M A (assign (.Tuple ts kk tp) Z.env val) P E s:=by
 obtain⟨a,xs,n,rfl,ha,hx⟩:=r;obtain⟨a1,a2⟩:=assignEach_len (env:=Z.env) hn;refine wpAny_assign_Tuple hA (isTuple_of (S.hs.keepg _ _ ha)) (by simp only[a1,aw,hn.len,hx.length,hl]) a2 λh' he=>?_;exact St.putVs ok hn hw (by simp only[hn.len,hl]) (S.ext he) hx q
theorem SS1.asgU{kk:Nat}{tp pos:Pos}(h:SV c k sc e fv b)(hn:NamesAre ts is)(hw:allW sc ts)(hs1:∀env,swapsWithSole [.Tuple ts kk tp] e pos.line env=pure false)
 (hs2:∀env,env.scope=sc->swappedStores [.Tuple ts kk tp] e env=pure none):SS1 c k sc (.Assign [.Tuple ts kk tp] e pos) (fAsgU is fv) is:=by
 intro Z y fr s Q ok S q;refine Assign_Tuple (h.use ok S q λy1 fr1 v val s1 e1 r1 q1=>?_) (hs1 Z.env) (hs2 Z.env ok.sc);cases v with
 |tup vs=>
  obtain⟨hl,q1⟩:=yes.out q1;exact St.unpack ok ok.rm.1 r1.1 hn hw r1.2 (az hl) λs3 S3=>.nxt y1 _ (Ext.asS e1) rfl S3 q1
 |_=>exact q1.elim
theorem wpAny_Assign_Attribute{env:Env}{o value:Expr}{x:Str}{pos' pos:Pos}{Q:Flow->Shared->Prop}{E:Value->Shared->Prop}(h:wpAny c.M A (eval value env) (λv s₁=>wpAny c.M A (eval o env) (λov s₂=>wpAny c.M A (PySem.setAttr ov x v) (λ_=>Q .next) E s₂) E s₁) E s)
 (hs1:swapsWithSole [.Attribute o x pos'] value pos.line env=pure false) (hs2:swappedStores [.Attribute o x pos'] value env=pure none):wpAny c.M A (exec (.Assign [.Attribute o x pos'] value pos) env) Q E s:=by
 refine wpAny_Assign_stores (wpAny_mono h (λv s1 h1=>?_) λ_ _ x=>x) hs1 hs2;show wpAny c.M A (do
  let ov ←holding [v] (eval o env)
  standAt pos'.atName
  holding [v,ov] (PySem.setAttr ov x v)
  release [v,ov] []) _ E s1
 exact wpAny_bind (wpAny_holding (wpAny_mono h1 (λov s2 h2=>wpAny_bind (wpAny_standAt (wpAny_bind (wpAny_holding (wpAny_mono h2 (λ_ s3 h3=>wpAny_release h3) λ_ _ x=>x))))) λ_ _ x=>x))
theorem RE.ws{z:Rz}{val:Value}(r:RE c Z y fr s z.toRw val):St c {Z with X:=Z.X++z.ws} y fr s/\ResV y.g (y.L (.tmp Z.X.length) 0) z val:=by
 cases z with
 |v x=>exact⟨by show St c {Z with X:=Z.X++[]} y fr s;rw[aM];exact r.1,r.2⟩
 |fresh w=>exact r
theorem ResV.keep{z:Rz}{val:Value}(e:Ext {Z with X:=Z.X++z.ws} b y y')(r:ResV y.g (y.L (.tmp Z.X.length) 0) z val):ResV y'.g (y'.L (.tmp Z.X.length) 0) z val:=by
 cases z with
 |v x=>exact Rep.mono e.g.1 x r
 |fresh w=>exact⟨r.1,r.2.trans (by rw[e.tm _ (by show _<(Z.X++[w]).length;rw[aa];exact br _)])⟩
theorem SS1.asgA(H:KA c){o e:Expr}{x:Str}{i:Nat}{p pos:Pos}(h:SE c k sc e f b1)(ho:SE c k sc o g b2)(hx:nm i=x)
 (hs1:∀env,swapsWithSole [.Attribute o x p] e pos.line env=pure false) (hs2:∀env,swappedStores [.Attribute o x p] e env=pure none):SS1 c k sc (.Assign [.Attribute o x p] e pos) (fAsgA i f g) []:=by
 intro Z y fr s Q ok S q;refine hx▸?_;refine wpAny_Assign_Attribute (h.use ok S q λy1 fr1 w val s1 e1 r1 q1=>?_) (hs1 Z.env) (hs2 Z.env);obtain⟨y2,fr2,z,e2,r2,q2⟩:=own_of r1 q1;obtain⟨S2,v2⟩:=r2.ws;refine ho.use (Z:={Z with X:=Z.X++z.ws}) ⟨ok.sc,ok.rm⟩ S2 q2 λy3 fr3 t ov s3 e3 r3 q3=>?_;cases t with
 |loc j=>
  obtain⟨S3,rfl⟩:=r3;refine oeeea (objW.out q3) λC ks ws ej q3=>?_;obtain⟨g1,q3⟩:=q3.out;obtain⟨lf,q3⟩:=q3.out;obtain⟨hl,q3⟩:=q3.out;exact St.setAttr S3 ej (H.at_ C i g1).2 (a5 hl) (λC ks ws hz=>by subst hz;exact ff lf) (v2.keep e3) λs4 L4 h0 _ S4=>.nxt ⟨y3.g,L4⟩ _ ⟨(e1.g.trans e2.g).trans e3.g,λi _=>(h0 i).trans ((e3.r0 i).trans ((e2.r0 i).trans (e1.r0 i)))⟩ rfl S4 q3
 |_=>exact q3.elim
theorem SS1.asgI{oe ie e:Expr}{p pos:Pos}(h:SV c k sc e fv b)(ho:SO c k sc oe fo b1)(hi:SO c k sc ie go b2)(hw:∀env,swapsWith e (some (.Subscript oe ie p)) pos.line env=pure false):
 SS1 c k sc (.Assign [.Subscript oe ie p] e pos) (fAsgI fv fo go b2) []:=by
 intro Z y fr s Q ok S q;refine wpAny_Assign_Subscript (h.use ok S q λy1 fr1 v val s1 e1 r1 q1=>?_) (hw Z.env);exact two (h:=λa b=>setItem a b val) ho hi ok r1.1 q1 λy2 fr2 o1 o2 v1 v2 s2 e2 S2 r2 r3 q2=>setO_ok S2 r2 r3 (r1.2.mono e2.g.1) q2 λfr4 s4 S4 q4=>.nxt y2 fr4 (Ext.asS (e1.trans e2)) rfl S4 q4
theorem getIdx{a:Addr}{xs:List Value}{n:Nat}{g:GM}{vs:List V}{i:Int}{u:V}{t:Tok}{Q E:Value->Shared->Prop}(h1:s.heap.get? a=some (sqO "list" xs n))(l1:RepL g vs xs)(h:itemAt vs i=some u)(q:∀x,Rep g u x->Q x s):wpAny c.M A (getItem (.ref a) (.int i t)) Q E s:=by
 obtain⟨hi,j,hj,hv⟩:=itemAt_out h;refine oea (l1.get hv) λw hw rw'=>?_;have len:xs.toArray.size=vs.length:=l1.length;refine idx_cases hj (λh0 e lt=>?_) λh0 hl e=>?_
 ·clear lt;refine wpAny_getItem_list (isList_of h1) h0 (nab63 hi).2 ?_ (q w rw');refine e▸?_;rw[cv];exact hw
 ·refine wpAny_getItem_list_neg (isList_of h1) h0 (by rw[len];exact ngI hl) (nab63 hi).1 ?_ (q w rw');rw[len,e,cv];exact hw
theorem SS1.aug{oe ie e:Expr}{p pos:Pos}{op:Operator}(hop:op=.Add∨op=.Sub)(h:SV c k sc e fv b3)(ho:SO c k sc oe fo b1)(hi:SO c k sc ie go b2)
 (hs:∀ov iv new,augStore ie ov iv new=(do holding [new,ov,iv] (setItem ov iv new);release [new,ov,iv] [];pure .next)):SS1 c k sc (.AugAssign (.Subscript oe ie p) op e pos) (fAug op fo go fv b2 b3) []:=by
 intro Z y fr s Q ok S q;refine wpAny_AugAssign_SubscriptAny (ho.use ok S q λy1 fr1 o1 v1 s1 x1 r1 q1=>hi.use ok r1.1 q1 λy2 fr2 o2 v2 s2 x2 r2 q2=>?_) hs;refine oa q2.out λq2 hd=>?_;have r1':=r1.2.keep x2 hd;refine oeeaa (int_of r2.2 q2) λi t z_ z7_ q3=>?_;subst z_;refine z7_▸?_;refine oea (listAt_out q3) λvs ep q3=>?_;refine oea (It.out q3) λu eu q3=>?_;refine(r1'.adr ep).symm▸?_;obtain⟨xs,n0,hx1,hx2⟩:=r2.1.listAt ep;refine getIdx hx1 hx2 eu λw hw=>?_;refine oea (onI_out q3) λn z_ q3=>?_;subst z_;obtain⟨t2,rfl⟩:=hw;refine h.use ok r2.1 q3 λy3 fr3 v val s3 x3 r3 q3=>?_;refine oea (onI_out q3) λd z_ q3=>?_;subst z_;obtain⟨t3,rfl⟩:=r3.2;obtain⟨q3,hd3⟩:=deep.out q3;have fin:wpAny c.M Z.A (setItem (.ref (adr y2 o1)) (.int i t) (.int (augI op n d) s3.toks)) (λ_=>PS c Z y [] Q .next) noE {s3 with toks:=s3.toks+1}:=
  setO_ok (oi:=.v (.int i)) (v:=.int (augI op n d)) (r3.1.toks _) (r1'.adr ep▸r1'.keep x3 hd3) ⟨t,rfl⟩ ⟨_,rfl⟩ q3 λfr4 s4 S4 q4=>.nxt y3 fr4 (Ext.asS ((x1.trans x2).trans x3)) rfl S4 q4
 rcases hop with e|e<;>rw[e]at fin⊢
 ·exact PySem.AutoIntOps.iadd_0 fin
 ·exact PySem.AutoIntOps.isub_0 fin
theorem assign_sub{env:Env}{o i:Expr}{p:Pos}{v:Value}{Q:Unit->Shared->Prop}{E:Value->Shared->Prop}(h:wpAny c.M A (eval o env) (λov s1=>wpAny c.M A (eval i env) (λiv s2=>wpAny c.M A (setItem ov iv v) Q E s2) E s1) E s):
 wpAny c.M A (assign (.Subscript o i p) env v) Q E s:=by
 exact wpAny_bind (wpAny_holding (wpAny_mono h (λ_ _ h1=>wpAny_bind (wpAny_holding (wpAny_mono h1 (λ_ _ h2=>wpAny_bind (wpAny_standAt (wpAny_bind (wpAny_holding (wpAny_mono h2 (λ_ _ h3=>wpAny_release h3) λ_ _ x=>x))))) λ_ _ x=>x))) λ_ _ x=>x))
theorem sub_step{oe ie:Expr}{v:V}{val:Value}{Q:FrL->Prop}{P:Unit->Shared->Prop}(ok:Fx.Ok k sc Z)(S:St c Z y fr s)(ho:SO c k sc oe fo b1)(hi:SO c k sc ie go b2)(r:Rep y.g v val)(q:f2 ⟨c,k⟩ fo go b2 (λfr o oi=>setW fr o oi v Q) fr)
 (h:∀y' fr' s',Ext Z (b1&&b2) y y'->St c Z y' fr' s'->Q fr'->P () s'):wpAny c.M Z.A (assign (.Subscript oe ie p) Z.env val) P noE s:=
 assign_sub (two (h:=λa b=>setItem a b val) ho hi ok S q λy2 fr2 o1 o2 v1 v2 s2 e2 S2 r2 r3 q2=>setO_ok S2 r2 r3 (r.mono e2.g.1) q2 λfr4 s4 S4 q4=>h y2 fr4 s4 e2 S4 q4)
theorem SS1.asgII{o1 i1 o2 i2:Expr}{pa pb tp p2:Pos}{kk kk2:Nat}{f1 g1:FV}{t1 j1 t2 j2:FO}(h1:SV c k sc e1 f1 b)(h2:SV c k sc e2 g1 b1)(ho1:SO c k sc o1 t1 b2)(hi1:SO c k sc i1 j1 b3)(ho2:SO c k sc o2 t2 b4)(hi2:SO c k sc i2 j2 b5)
 (hst:∀env,starEach [e1,e2] env=(false,eval e1 env)::starEach [e2] env) (hst2:∀env,starEach [e2] env=(false,eval e2 env)::starEach [] env)
 (hs1:∀env,swapsWithSole [.Tuple [.Subscript o1 i1 pa,.Subscript o2 i2 pb] kk tp] (.Tuple [e1,e2] kk2 p2) pos.line env=pure false) (hs2:∀env,env.scope=sc->swappedStores [.Tuple [.Subscript o1 i1 pa,.Subscript o2 i2 pb] kk tp] (.Tuple [e1,e2] kk2 p2) env=pure none)
 (ha:∀env,assignEach [.Subscript o1 i1 pa,.Subscript o2 i2 pb] env=[(false,assign (.Subscript o1 i1 pa) env),(false,assign (.Subscript o2 i2 pb) env)]):
 SS1 c k sc (.Assign [.Tuple [.Subscript o1 i1 pa,.Subscript o2 i2 pb] kk tp] (.Tuple [e1,e2] kk2 p2) pos) (fAsgII f1 g1 t1 j1 t2 j2 b3 b5) []:=by
 intro Z y fr s Q ok S q;refine Assign_Tuple (Tuple_ (spl_cons (hst _) (h1.use ok S q λy1 fr1 u1 v1 s1 x1 r1 q1=>spl_cons (hst2 _) (h2.use ok r1.1 q1 λy2 fr2 u2 v2 s2 x2 r2 q2=>wpAny_pure ?_)))) (hs1 Z.env) (hs2 Z.env ok.sc);refine r2.1.garbage (small_n (by show 2<=1000;decide)) λa s3 S3 ha3=>?_;refine wpAny_assign_Tuple ok.rm.1 (isTuple_of ha3) (by rw[ha];rfl) (by rw[ha];rfl) λh' he=>?_;refine wpAny_assignInOrder_more (sub_step ok (S3.ext he) ho1 hi1 (r1.2.mono x2.g.1) q2 λy4 fr4 s4 e4 S4 q4=>?_);refine wpAny_assignInOrder_more (sub_step ok S4 ho2 hi2 (r2.2.mono e4.g.1) q4 λy5 fr5 s5 e5 S5 q5=>?_);exact wpAny_assignInOrder_none (.nxt y5 fr5 (.after ((x1.trans x2).trans e4) (Ext.asS e5)) rfl S5 q5)
end
inductive Tgt where
 |one (i:Nat)|tup (is:List Nat)
def TgtOk(sc:Scope):Expr->Tgt->Prop
 |.Name x _,.one i=>nm i=x/\Writable sc x
 |.Tuple ts _ _,.tup is=>NamesAre ts is/\allW sc ts
 |_,_=>False
def bindW:Tgt->V->FrL->(FrL->Prop)->Prop
 |.one i,u,fr,Q=>Q (setF fr i (.v u))
 |.tup is,u,fr,Q=>match u with
  |.tup vs=>yes (aT vs.length is.length) (Q (setVs is vs fr))
  |_=>False
noncomputable def loopW(tg:Tgt)(body:FS)(n:Nat):List V->FS
 |[],γ,fr,Q=>Q .nxt fr
 |u::us,γ,fr,Q=>bindW tg u fr λfr1=>body γ fr1 λfl fr2=>match fl with
  |.nxt=>loopW tg body n us γ (fr2.take n) Q
  |.ret r=>Q (.ret r) fr2
inductive Loop(γ:Ct)(tg:Tgt)(body:FS)(us:List V)(fr:FrL)(Q:Fw->FrL->Prop):Prop
 |mk (h:loopW tg body fr.length us γ fr Q):Loop γ tg body us fr Q
def forK(tg:Tgt)(body:FS)(γ:Ct)(Q:Fw->FrL->Prop)(x:V)(fr1:FrL):Prop:=sm (elemsF x) λus=>Loop γ tg body us fr1 Q
noncomputable def fFor(tg:Tgt)(f:FV)(body:FS):FS:=λγ fr Q=>f γ fr (forK tg body γ Q)
noncomputable def whileW(t:FB)(body:FS)(n:Nat):Nat->FS
 |0,_,_,_=>False
 |m+1,γ,fr,Q=>t γ fr λb fr1=>Br b (body γ fr1 λfl fr2=>match fl with
  |.nxt=>whileW t body n m γ (fr2.take n) Q
  |.ret r=>Q (.ret r) fr2) (Q .nxt fr1)
inductive While(t:FB)(body:FS)(γ:Ct)(fr:FrL)(Q:Fw->FrL->Prop):Prop
 |mk (m:Nat) (h:whileW t body fr.length m γ fr Q):While t body γ fr Q
open Classical in
noncomputable def hidK(K:GM)(H:Addr->Prop)(h:Heap):GM:=λa=>if H a then h.get? a else K a
noncomputable abbrev Fx.hid(Z:Fx)(H:Addr->Prop)(h:Heap):Fx:={Z with K:=hidK Z.K H h}
section
variable{c:Cx}{k:Nat}{sc:Scope}{K K1 K2 g g':GM}{O:OM}{L:LM}{F H:Addr->Prop}{Z:Fx}{y y':Gl}{fr fr':FrL}{s s':Shared}{h h':Heap}{A:Around}{b b1 b2:Bool}{fv gv:FV}{fb:FB}{fs:FS}{a1:List Nat}{tg:Tgt}{t it:Expr}{body:List Stmt}{pos:Pos}{us:List V}{I a:Addr}
theorem hidK_in(q:H a):hidK K H h a=h.get? a:=if_pos q
theorem hidK_out(q:¬H a):hidK K H h a=K a:=if_neg q
theorem hidK_eq(e:∀b,H b->h'.get? b=h.get? b):hidK K H h'=hidK K H h:=by
 funext b
 by_cases q:H b
 ·rw[hidK_in q,hidK_in q,e b q]
 ·rw[hidK_out q,hidK_out q]
def HOff(g:GM)(O:OM)(L:LM)(F H:Addr->Prop):Prop:=∀a,H a->g a=none/\¬F a/\∀l n,InO O l n->L l n≠a
theorem HS.offK(hs:HS c K g O L F s)(h1:∀a,H a->(K a).isSome=true/\g a=none):HOff g O L F H:=λa q=>by
 obtain⟨e1,e2⟩:=h1 a q;exact⟨e2,(λz=>by replace e1:=((hs.frm a z).1)▸e1;exact ff e1),λl n i z=>by rw[←z,(hs.own l n i).1]at e1;cases e1⟩
theorem HS.swap(hs:HS c K1 g O L F s)(hb:∀b ob,c.h₀.get? b=some ob->K2 b=some ob)(off:HOff g O L F H)(h2:∀a,¬H a->K2 a=K1 a)(h3:∀a o,H a->K2 a=some o->s'.heap.get? a=some o)
 (k:∀b ob,¬H b->s.heap.get? b=some ob->s'.heap.get? b=some ob) (hg:s'.gens=s.gens) (ho:s'.os=s.os):HS c K2 g O L F s':=by
 refine⟨hb,λb o e=>?_,λb o e=>k b o (λz=>by replace e:=((off b z).1)▸e;exact nos e) (hs.keepg b o e),hg.trans hs.gens,ho.trans hs.os,λl w e=>hs.stay (T:=H) k (.refl g) e λn hn z=>(off _ z).2.2 l n ⟨w,e,hn⟩ rfl,hs.inj,
  λl n i=>⟨(h2 _ λz=>(off _ z).2.2 l n i rfl).trans (hs.own l n i).1,(hs.own l n i).2⟩,λa fa=>?_⟩
 ·by_cases q:H b
  ·exact h3 b o q e
  ·rw[h2 b q]at e;exact k b o q (hs.keepK b o e)
 ·have q:¬H a:=λz=>(off a z).2.1 fa;refine oaaa (hs.frm a fa) λe1 e2 e3 e4=>?_;exact iaaa ((h2 a q).trans e1) e2 (lives_keep (λo=>k a o q) e3) e4
theorem St.swap(S:St c {Z with K:=K1} y fr s)(hb:∀b ob,c.h₀.get? b=some ob->K2 b=some ob)(off:HOff y.g (om fr Z.X) y.L (frameOf Z.env) H)(h2:∀a,¬H a->K2 a=K1 a)(h3:∀a o,H a->K2 a=some o->s'.heap.get? a=some o)
 (k:∀b ob,¬H b->s.heap.get? b=some ob->s'.heap.get? b=some ob) (hg:s'.gens=s.gens) (ho:s'.os=s.os):St c {Z with K:=K2} y fr s':=by
 have ne:∀a,frameOf Z.env a->¬H a:=λa fa z=>(off a z).2.1 fa;refine St.of (Z:={Z with K:=K1}) S (S.hs.swap hb off h2 h3 k hg ho) (λa o fa _ e=>k a o (ne a fa) e) (λm hn=>?_) λi w e=>iea w e (λ_ h=>h);refine oeeea hn λo es ep e r=>?_;exact ieeea o es ep (k _ _ (ne _ (.inl rfl)) e) r
structure Hid(c:Cx)(Z:Fx)(H:Addr->Prop):Prop where
 nK:∀a,H a->Z.K a=none
 n0:∀a,H a->c.h₀.get? a=none
theorem Hid.base(q:Hid c Z H)(hb:∀b ob,c.h₀.get? b=some ob->K b=some ob):∀b ob,c.h₀.get? b=some ob->hidK K H h b=some ob:=λb ob e=>by
 rw[hidK_out (λz=>by replace e:=(q.n0 b z)▸e;exact nos e)];exact hb b ob e
theorem St.hideH(S:St c Z y fr s)(fr0:∀a,H a->s.heap.get? a=none)(k:∀b ob,s.heap.get? b=some ob->s'.heap.get? b=some ob)(hg:s'.gens=s.gens)(ho:s'.os=s.os):Hid c Z H/\(∀a,H a->y.g a=none)/\St c (Z.hid H s'.heap) y fr s':=by
 have q:Hid c Z H:=⟨λa z=>none_of S.hs.keepK (fr0 a z),λa z=>none_of (baseAt S) (fr0 a z)⟩;have off:HOff y.g (om fr Z.X) y.L (frameOf Z.env) H:=λa z=>(S.hs.fresh (fr0 a z)).2;exact⟨q,λa z=>(off a z).1,St.swap (Z:=Z) (K1:=Z.K) S (q.base S.hs.base) off (λa z=>hidK_out z) (λa o z e=>by rw[hidK_in z]at e;exact e) (λb ob _=>k b ob) hg ho⟩
theorem Hid.off(q:Hid c Z H)(S:St c (Z.hid H h) y fr s)(hl:∀a,H a->∃o,h.get? a=some o)(ng:∀a,H a->y.g a=none):HOff y.g (om fr Z.X) y.L (frameOf Z.env) H:=
 S.hs.offK λa z=>⟨by show(hidK Z.K H h a).isSome=true;rw[hidK_in z];obtain⟨o,e⟩:=hl a z;rw[e];rfl,ng a z⟩
theorem Hid.bk(q:Hid c Z H)(S:St c (Z.hid H h) y fr s):∀b ob,c.h₀.get? b=some ob->Z.K b=some ob:=λb ob e=>by
 have:=S.hs.base b ob e
 rwa[show(Z.hid H h).K b=Z.K b from hidK_out (λz=>by replace e:=(q.n0 b z)▸e;exact nos e)]at this
theorem Hid.swap(q:Hid c Z H)(S:St c (Z.hid H h) y fr s)(hl:∀a,H a->∃o,h.get? a=some o)(ng:∀a,H a->y.g a=none)(k:∀b ob,¬H b->s.heap.get? b=some ob->s'.heap.get? b=some ob)(hg:s'.gens=s.gens)(ho:s'.os=s.os):St c (Z.hid H s'.heap) y fr s':=
 St.swap (Z:=Z) S (q.base (q.bk S)) (q.off S hl ng) (λa z=>by rw[hidK_out z,hidK_out z]) (λa o z e=>by rw[hidK_in z]at e;exact e) k hg ho
theorem Hid.gone(q:Hid c Z H)(S:St c (Z.hid H h) y fr s)(hl:∀a,H a->∃o,h.get? a=some o)(ng:∀a,H a->y.g a=none)(k:∀b ob,¬H b->s.heap.get? b=some ob->s'.heap.get? b=some ob)(hg:s'.gens=s.gens)(ho:s'.os=s.os):St c Z y fr s':=
 St.swap (Z:=Z) (K2:=Z.K) S (q.bk S) (q.off S hl ng) (λa z=>by rw[hidK_out z]) (λa o z e=>by replace e:=(q.nK a z)▸e;exact nos e) k hg ho
theorem Hid.ext(q:Hid c Z H)(e:GExt (hidK Z.K H h) g g'):GExt Z.K g g':=
 ⟨e.1,λa n kb=>e.2 a n (by rw[hidK_out (λz=>by replace kb:=(q.nK a z)▸kb;exact ff kb)];exact kb)⟩
structure Turn(c:Cx)(A:Around)(g0:GM)(t:Expr)(I:Addr)(H:Addr->Prop)(us:List V)(T:Nat->Heap->Prop):Prop where
 live:∀i h,T i h->∀a,H a->∃o,h.get? a=some o
 self:∀i s (Q:Value->Shared->Prop) (E:Value->Shared->Prop),T i s.heap->Q (.ref I) s->wpAny c.M A (pyIter (.ref I)) Q E s
 keep:∀i h h',T i h->(∀b,H b∨(g0 b).isSome=true->∀o,h.get? b=some o->h'.get? b=some o)->T i h'
 next:∀Z i u y fr s (R:Value->Shared->Prop) (E:Value->Shared->Prop),Hid c Z H->us[i]?=some u->GSub g0 y.g->(∀a,H a->y.g a=none)->T i s.heap->St c (Z.hid H s.heap) y fr s->
  (∀y' val s',Ext Z true y y'->(∀a,H a->y'.g a=none)->T (i+1) s'.heap->St c (Z.hid H s'.heap) y' fr s'->Rep y'.g u val->R val s')->
  wpAny c.M A (pyNext (.ref I)) (λr s1=>∃v,r=some v/\wpAny c.M A (letOwnedTupleGo t (.ref I) v) (λ_=>R v) E s1) E s
 done:∀Z y fr s (R:Shared->Prop) (E:Value->Shared->Prop),Hid c Z H->(∀a,H a->y.g a=none)->T us.length s.heap->St c (Z.hid H s.heap) y fr s->(∀s',St c Z y fr s'->R s')->wpAny c.M A (pyNext (.ref I)) (λr s1=>r=none/\R s1) E s
theorem Hid.after(q:Hid c Z H){X:List MW}{fr2:FrL}(S:St c {Z with K:=hidK Z.K H h,X:=X} y' fr2 s')(hl:∀a,H a->∃o,h.get? a=some o):∀b,H b->s'.heap.get? b=h.get? b:=λb z=>by
 obtain⟨o,e⟩:=hl b z;rw[e];exact S.hs.keepK b o (by show hidK _ _ _ b=_;rw[hidK_in z];exact e)
theorem Hid.ng(hl:∀a,H a->∃o,h.get? a=some o)(ng:∀a,H a->g a=none)(e:GExt (hidK K H h) g g'):∀a,H a->g' a=none:=λa z=>
 e.2 a (ng a z) (by rw[hidK_in z];obtain⟨o,e⟩:=hl a z;rw[e];rfl)
theorem Turn.still{g0:GM}{T:Nat->Heap->Prop}{i:Nat}{fr2:FrL}{X X':List MW}(W:Turn c A g0 t I H us T)(q:Hid c Z H)(hT:T i s.heap)(S:St c {Z with K:=hidK Z.K H s.heap,X:=X} y fr s)(S':St c {Z with K:=hidK Z.K H s.heap,X:=X'} y' fr2 s')(hg:GSub g0 y.g)(hg':GSub g0 y'.g):T i s'.heap:=
 W.keep _ _ _ hT λb z o e=>by
  rcases z with z|z
  ·rw[q.after S' (W.live _ _ hT) b z];exact e
  ·obtain⟨o',e'⟩:=bw.mp z;have h1:=S.hs.keepg b o' (hg b o' e');replace h1:=(e)▸h1;obtain rfl:=ab.inj h1;exact S'.hs.keepg b o (hg' b o e')
theorem St.bindW{u:V}{val:Value}{P:FrL->Prop}{Q:Unit->Shared->Prop}{E:Value->Shared->Prop}(ok:Fx.Ok k sc Z)(hA:A.handled=none)(ht:TgtOk sc t tg)(S:St c Z y fr s)(r:Rep y.g u val)(hb:bindW tg u fr P)
 (q:∀fr' s',St c Z y fr' s'->P fr'->Q () s'):wpAny c.M A (assign t Z.env val) Q E s:=by
 cases t with
 |Name x p=>
  cases tg with
  |one i=>exact assign_Name (S.putV ht.1 (writes ok.sc ht.2) r λs1 S1=>q _ s1 S1 hb)
  |tup _=>exact ht.elim
 |Tuple ts kk p=>
  cases tg with
  |one _=>exact ht.elim
  |tup is=>cases u with
   |tup vs=>
    obtain⟨hl,hb⟩:=yes.out hb;exact St.unpack ok hA S ht.1 ht.2 r (az hl) λs1 S1=>q _ s1 S1 hb
   |_=>exact hb.elim
 |_=>exact ht.elim
inductive LoopI(c:Cx)(k:Nat)(Z:Fx)(y:Gl)(H:Addr->Prop)(us:List V)(T:Nat->Heap->Prop)(tg:Tgt)(fs:FS)(l:Nat)(a1:List Nat)(Q:Fw->FrL->Prop)(n:Nat)(s:Shared):Prop
 |mk (i:Nat) (y':Gl) (fr:FrL) (hi:i<=us.length) (hn:n=us.length-i) (e:ExtS Z a1 y y') (ng:∀a,H a->y'.g a=none) (S:St c (Z.hid H s.heap) y' fr s) (hT:T i s.heap) (q:loopW tg fs l (us.drop i) ⟨c,k⟩ fr Q):LoopI c k Z y H us T tg fs l a1 Q n s
theorem drop_get{i:Nat}(hi:i<us.length):∃u,us[i]?=some u/\us.drop i=u::us.drop (i+1):=iea (us[i]) (a8 hi) (eA hi)
def LoopR(c:Cx)(Z:Fx)(P:Flow->Shared->Prop)(r:Result)(s':Shared):Prop:=match r with
 |.ok f=>P f s'
 |.error e=>cameBackBy c.M Z.A Z.env noE e s'
def LoopF(P:Flow->Shared->Prop)(I:Shared->Prop)(f:Flow)(s:Shared):Prop:=match f with
 |.next=>I s
 |.cont=>I s
 |.brk=>P .next s
 |.ret v=>P (.ret v) s
theorem loop_run{T:Nat->Heap->Prop}{l:Nat}{Q:Fw->FrL->Prop}(W:Turn c Z.A y.g t I H us T)(hid:Hid c Z H)(ok:Fx.Ok k sc Z)(ht:TgtOk sc t tg)(hb:SS c k sc body fs a1)(ng:∀a,H a->y.g a=none)(S:St c (Z.hid H s.heap) y fr s)(hT:T 0 s.heap)(q:loopW tg fs l us ⟨c,k⟩ fr Q):
 codeAny c.M Z.A (.forLoop t (.ref I) body [] Z.env) (LoopR c Z (PS c Z y a1 Q)) s:=by
 refine codeAny_forLoop_any (LoopI c k Z y H us T tg fs l a1 Q) ?_ us.length ⟨0,y,fr,aZ _,rfl,.refl,ng,S,hT,q⟩;rintro n s ⟨i,y1,fr1,hi,rfl,e1,ng1,S1,hT1,q1⟩;by_cases hlt:i<us.length
 ·refine oea (drop_get hlt) λu hu hd=>?_;rw[hd]at q1;refine wpAny_mono (W.next Z i u y1 fr1 s (λv=>wpAny c.M Z.A (assign t Z.env v) (λ_ s2=>wpAny c.M Z.A (execs body Z.env) (LoopF (PS c Z y a1 Q) λs3=>∃m,m<us.length-i/\LoopI c k Z y H us T tg fs l a1 Q m s3) noE s2) noE) noE hid hu e1.g.1 ng1 hT1 S1 λy2 val s2 e2 ng2 hT2 S2 r2=>?_) (λr s1 z=>?_) λ_ _ x=>x.elim
  ·refine St.bindW (Z:=Z.hid H s2.heap) ⟨ok.sc,ok.rm⟩ ok.rm.1 ht S2 r2 q1 λfr3 s3 S3 q3=>hb.use (Z:=Z.hid H s2.heap) ⟨ok.sc,ok.rm⟩ S3 q3 λfl s4 h4=>?_;have up:∀{y4:Gl},ExtS (Z.hid H s2.heap) a1 y2 y4->ExtS Z a1 y y4/\∀a,H a->y4.g a=none:=λ{y4} e4=>
    ⟨(e1.tr (Ext.asS e2)).tr ⟨hid.ext e4.g,e4.r⟩,Hid.ng (W.live _ _ hT2) ng2 e4.g⟩
   clear q3;cases h4 with
   |nxt y4 fr4 e4 hf S4 q4=>
    subst hf;obtain⟨e5,ng5⟩:=up e4;refine⟨us.length-(i+1),f8 _ _ (by assumption),i+1,y4,fr4.take l,hlt,rfl,e5,ng5,?_,W.still hid (X:=Z.X) (X':=Z.X) hT2 S2 S4 (e1.g.trans e2.g).1 e5.g.1,q4⟩;simp only[Fx.hid,hidK_eq (hid.after S4 (W.live _ _ hT2))];exact St.take (Z:=Z.hid H s2.heap) S4 l
   |ret y4 fr4 z val e4 hf r4 q4=>
    subst hf;obtain⟨e5,ng5⟩:=up e4;have gone:∀{X:List MW},St c (Fx.hid {Z with X:=X} H s2.heap) y4 fr4 s4->St c {Z with X:=X} y4 fr4 s4:=λ{X} S4=>Hid.gone (Z:={Z with X:=X}) ⟨hid.nK,hid.n0⟩ S4 (W.live _ _ hT2) ng5 (λ_ _ _ e=>e) rfl rfl;refine .ret y4 fr4 z val e5 rfl ?_ q4;clear q4;cases z with
    |v x=>exact⟨gone r4.1,r4.2⟩
    |fresh w=>exact⟨gone (X:=Z.X++[w]) r4.1,r4.2⟩
  ·obtain⟨v,rfl,z⟩:=z;exact wpAny_mono z (λ_ _ h=>wpAny_mono h (λ_ _ h=>wpAny_mono h (λf s3 h=>by cases f<;>exact h) λ_ _ x=>x.elim) λ_ _ x=>x.elim) λ_ _ x=>x.elim
 ·have hie:i=us.length:=bC hi (aW.mp hlt);subst hie;rw[dW]at q1;refine wpAny_mono (W.done Z y1 fr1 s (λs'=>St c Z y1 fr1 s') noE hid ng1 hT1 S1 λs' S'=>S') (λr s1 z=>?_) λ_ _ x=>x.elim;obtain⟨rfl,S2⟩:=z;exact wpAny_execs_nil (.nxt y1 fr1 e1 rfl S2 q1)
inductive WhileI(c:Cx)(k:Nat)(Z:Fx)(y:Gl)(fb:FB)(fs:FS)(l:Nat)(a1:List Nat)(Q:Fw->FrL->Prop)(n:Nat)(s:Shared):Prop
 |mk (y':Gl) (fr:FrL) (e:ExtS Z a1 y y') (S:St c Z y' fr s) (q:whileW fb fs l n ⟨c,k⟩ fr Q):WhileI c k Z y fb fs l a1 Q n s
theorem SS1.while_(ht:SB c k sc t fb b)(hb:SS c k sc body fs a1):SS1 c k sc (.While t body [] pos) (While fb fs) a1:=by
 intro Z y fr s Q ok S q;obtain⟨m,q⟩:=q;refine wpAny_While ?_;refine codeAny_whileLoop (WhileI c k Z y fb fs fr.length a1 Q) ?_ m ⟨y,fr,.refl,S,q⟩;rintro n s ⟨y1,fr1,e1,S1,q1⟩;cases n with
 |zero=>exact q1.elim
 |succ n=>
  refine wpAny_mono (ht Z y1 fr1 s _ ok S1 q1) (λb0 s1 h=>?_) λ_ _ x=>x.elim;obtain⟨y2,fr2,b2,e2,r2,q2⟩:=h;obtain⟨S2,rfl⟩:=r2;cases b2 with
  |true=>
   refine wpAny_mono (hb Z y2 fr2 s1 _ ok S2 q2.t) (λfl s2 h=>?_) λ_ _ x=>x.elim;cases h with
   |nxt y3 fr3 e3 hf S3 q3=>subst hf;exact⟨n,br _,y3,_,(e1.tr (Ext.asS e2)).tr e3,S3.take _,q3⟩
   |ret y3 fr3 z val e3 hf r3 q3=>subst hf;exact .ret y3 fr3 z val ((e1.tr (Ext.asS e2)).tr e3) rfl r3 q3
  |false=>exact wpAny_execs_nil (.nxt y2 fr2 (e1.tr (Ext.asS e2)) rfl S2 q2.f)
end
section
variable{c:Cx}{k:Nat}{sc:Scope}{g g0:GM}{Z:Fx}{y y':Gl}{fr fr':FrL}{s s':Shared}{h h':Heap}{A:Around}{b b1 b2:Bool}{fv gv:FV}{fs:FS}{a1:List Nat}{tg:Tgt}{t it:Expr}{body:List Stmt}{pos:Pos}{us:List V}{I a:Addr}
def ItObj(h:Heap)(I:Addr):Prop:=∃ob n,h.get? I=some ob/\ob.cls=.type n/\(n="list_iterator"∨n="tuple_iterator"∨n="range_iterator")
theorem letGo_plain(ht:TgtOk sc t tg){val:Value}{Q:Unit->Shared->Prop}{E:Value->Shared->Prop}(ho:ItObj s.heap I)(h:Q () s):wpAny c.M A (letOwnedTupleGo t (.ref I) val) Q E s:=by
 refine oeeaa ho λob n h1 h2 h3=>?_;cases t with
 |Name x p=>exact wpAny_pure h
 |Tuple ts kk p=>
  cases val with
  |ref a=>
   refine wpAny_bind (wpAny_load h1 ?_);clear h1;obtain⟨cls,dct,dat,sl⟩:=ob;dsimp only at h2⊢;subst h2;cases dat with
   |fields vs=>
    dsimp only;rw[if_neg (by rcases h3 with rfl|rfl|rfl<;>simp)];exact wpAny_pure h
   |_=>exact wpAny_pure h
  |_=>exact wpAny_pure h
 |_=>exact ht.elim
theorem turn_of{fp:List Addr}{P:Nat->Value->Prop}{T:Nat->Heap->Prop}(W:Walks c.prog c.w A I fp [I] us.length P T)(ht:TgtOk sc t tg)(kept:∀b∈fp,b=I∨(g0 b).isSome=true)(item:∀i u val,us[i]?=some u->P i val->Rep g0 u val)(obj:∀i h,T i h->ItObj h I):Turn c A g0 t I (·=I) us T:=by
 refine⟨λi h hT a q=>?_,λi s Q E hT h=>W.self i _ _ _ hT h,λi h h' hT hk=>W.frame i h h' hT λb hb o e=>hk b (kept b hb) o e,λZ i u y fr s R E hid hu hg ng hT S q=>?_,λZ y fr s R E hid ng hT S q=>?_⟩
 ·refine oeea (obj i h hT) λob n e _=>?_;exact⟨ob,q▸e⟩
 ·refine W.item i s _ _ (ac.mp hu).1 hT λval h' tk hP hT' hk=>iea val rfl (letGo_plain ht (obj _ _ hT') ?_);refine q y val _ (.refl _ _ _) ng hT' (hid.swap (s':={s with heap:=h',toks:=tk}) S (λa q=>?_) ng (λb ob nb e=>hk b ob (λz=>nb (af.mp z)) e) rfl rfl) ((item i u val hu hP).mono hg);refine oeea (obj i _ hT) λob n e _=>?_;exact⟨ob,q▸e⟩
 ·refine W.done s _ _ hT λh' tk hk=>⟨rfl,q _ (hid.gone (s':={s with heap:=h',toks:=tk}) S (λa q=>?_) ng (λb ob nb e=>hk b ob (λz=>nb (af.mp z)) e) rfl rfl)⟩;refine oeea (obj _ _ hT) λob n e _=>?_;exact⟨ob,q▸e⟩
theorem St.iter{v:V}{x:Value}{Q:Value->Shared->Prop}{E:Value->Shared->Prop}(hh:A.handled=none)(ht:TgtOk sc t tg)(S:St c Z y fr s)(r:Rep y.g v x)(he:elemsF v=some us)
 (q:∀I T s',Turn c A y.g t I (·=I) us T->T 0 s'.heap->s.heap.get? I=none->(∀b ob,s.heap.get? b=some ob->s'.heap.get? b=some ob)->s'.gens=s.gens->s'.os=s.os->Q (.ref I) s'):wpAny c.M A (pyIter x) Q E s:=by
 have go:∀(o:Obj) (fp:List Addr) (P:Nat->Value->Prop) (T:Nat->Heap->Prop),Walks c.prog c.w A s.heap.objs.size fp [s.heap.objs.size] us.length P T->o.isFreed=false->(∀b∈fp,b=s.heap.objs.size∨(y.g b).isSome=true)->(∀i u val,us[i]?=some u->P i val->Rep y.g u val)->(∀i h,T i h->ItObj h s.heap.objs.size)->
  T 0 (s.heap.push o)->Q (.ref s.heap.objs.size) {s with heap:=s.heap.push o}:=λo fp P T W ho kp it ob h0=>
  q _ T _ (turn_of W ht kp it ob) h0 (fresh_none _) (λb ob e=>Heap.get?_push_of_some _ e) rfl rfl
 have sq:∀{a:Addr} {ws:List V} {xs:List Value} {T:String} {n:Nat},y.g a=some (sqO T xs n)->RepL y.g ws xs->(∀b∈[s.heap.objs.size,a],b=s.heap.objs.size∨(y.g b).isSome=true)/\∀(i:Nat) u val,ws[i]?=some u->xs.toArray[i]?=some val->Rep y.g u val:=λ{a ws xs T n} ha h2=>⟨λb hb=>by
  rcases aj.mp hb with rfl|hb
  ·exact .inl rfl
  ·cases af.mp hb;exact .inr (by rw[ha];rfl),λi u val hu hp=>by
  refine oea (h2.get' (i:=i) (x:=val) (by rw[cv]at hp;exact hp)) λu' hu' ru=>?_;replace hu':=(hu)▸hu';refine(ab.inj hu')▸?_;exact ru⟩
 cases v with
 |tup ws=>
  cases he;obtain⟨a,xs,n,rfl,h0,h2⟩:=r;have h1:=S.hs.keepg _ _ h0;obtain⟨k1,k2⟩:=sq h0 h2;refine wpAny_pyIter_tuple (isTuple_of h1) (go _ _ _ _ ((show xs.toArray.size=us.length from h2.length)▸Walks.tuple (prog:=c.prog) (w:=c.w) hh s.heap.objs.size a (aY (Heap.lt_size h1)) xs.toArray) rfl k1 k2 ?_ ⟨ieaa _ (Heap.get?_push_size _ rfl) rfl rfl,isTuple_of (Heap.get?_push_of_some _ h1)⟩);rintro i h ⟨⟨ob,h1,h2,_⟩,_⟩;exact⟨ob,_,h1,h2,.inr (.inl rfl)⟩
 |lst ws=>
  cases he;obtain⟨a,xs,n,rfl,h0,h2⟩:=r;have h1:=S.hs.keepg _ _ h0;obtain⟨k1,k2⟩:=sq h0 h2;refine wpAny_pyIter_list (isList_of h1) (go _ _ _ _ ((show xs.toArray.size=us.length from h2.length)▸Walks.list (prog:=c.prog) (w:=c.w) hh s.heap.objs.size a (aY (Heap.lt_size h1)) xs.toArray) rfl k1 k2 ?_ ⟨ieaa _ (Heap.get?_push_size _ rfl) rfl rfl,isList_of (Heap.get?_push_of_some _ h1)⟩);rintro i h ⟨⟨ob,h1,h2,_⟩,_⟩;exact⟨ob,_,h1,h2,.inl rfl⟩
 |rng lo hi=>
  obtain rfl:=ab.inj he;obtain⟨a,t,u,v,rfl,h0,hs⟩:=r;have h1:=S.hs.keepg _ _ h0;refine wpAny_pyIter_range h1 hs (go _ [s.heap.objs.size] (λi v=>∃t,v=.int (lo+(i:Int)*1) t) (λi h=>IsRangeIter h s.heap.objs.size (lo+(i:Int)*1) ((((hi-lo).toNat:Nat):Int)-i) 1) (by simp only[a7,rangeI_len];exact Walks.range hh s.heap.objs.size lo 1 _) rfl (λb hb=>.inl (af.mp hb)) (λi u val hu hp=>?_) (λi h e=>ieeaa _ _ e rfl (.inr (.inr rfl))) ?_)
  ·obtain⟨t,rfl⟩:=hp;have hi':=(ac.mp hu).1;simp only[a7,rangeI_len]at hi';simp only[ae,rangeI,ae,bI hi']at hu;refine(ab.inj hu)▸?_;exact⟨t,by rw[fA]⟩
  ·have hr:Builtin.Range.rangeSize lo hi 1=(((hi-lo).toNat:Nat):Int):=by
    unfold Builtin.Range.rangeSize;rw[if_pos (by decide)];split
    ·simp;exact(Int.max_eq_left (bZ (cn ‹_›))).symm
    ·rw[fG (ft (bD.mp ‹_›))];rfl
   show IsRangeIter _ _ _ _ _;refine(hr)▸?_;simpa using Heap.get?_push_size _ rfl
 |_=>exact nos he
theorem SS1.for_(hi:SV c k sc it fv b)(ht:TgtOk sc t tg)(hb:SS c k sc body fs a1)(hf:∀env x,foldedSetIterable it env x=pure x):
 SS1 c k sc (.For t it body [] pos) (fFor tg fv fs) a1:=by
 intro Z y fr s Q ok S q;refine wpAny_For (hi.use ok S q λy1 fr1 v x s1 e1 r1 q1=>?_) (hf Z.env);refine oea (sm.out q1) λus eu q1=>?_;obtain⟨q1⟩:=q1;refine St.iter ok.rm.1 ht r1.1 r1.2 eu λI T s2 W hT fr0 kp hg ho=>?_;refine oaa (r1.1.hideH (H:=(·=I)) (λa z=>z▸fr0) kp hg ho) λhid ng S2=>?_;refine codeAny_mono (loop_run W hid ok ht hb ng S2 hT q1) λr s3 h=>?_;cases r with
 |ok f=>exact PS.after (Ext.asS e1) (λ_ h=>h) h
 |error e=>exact h
end
section
variable{prog:Program}{w:World}{A:Around}{E:Value->Shared->Prop}{s:Shared}
theorem nextOf_tup{it t:Addr}{i:Nat}{items:Array Value}{x:Value}{Q:Value->Shared->Prop}(hit:s.heap.IsTupleIter it t i)(ht:s.heap.IsTuple t items)(hx:items[i]?=some x)
 (hQ:∀h',h'.IsTupleIter it t (i+1)->Heap.SameBut it s.heap h'->Q x {s with heap:=h'}):wpAny (model prog w) A (Builtin.SmallTypes.nextOf (.ref it)) Q E s:=by
 refine oeaa (id hit) λo ho hc hd=>?_;obtain⟨ol,hol,_,nl,hdl⟩:=ht;refine wpAny_bind (wpAny_callSpecial?_slot (name:=Str.ofString "__next__") hit.typeIs PySem.F.slot_tuple_iterator_next (wpAny_call_entry PySem.F.slot_tuple_iterator_next hit.typeIs PySem.F.entry_tuple_iterator_next ?_ (PySem.F.args_tuple_iterator_next_1 _)));show wpAny _ _ (field (.ref it) 0>>=_) _ _ s;refine wpAny_bind (wpAny_field ho hd (x:=.ref t) rfl ?_);refine wpAny_bind (wpAny_field ho hd (x:=.int i 0) rfl ?_);refine wpAny_bind (wpAny_seqItems hol hdl ?_);simp only[c4,hx];refine wpAny_bind (wpAny_setField ho hd (by simp) (wpAny_pure (iea x rfl (wpAny_pure (hQ _ ?_ (Heap.SameBut.update ..))))));exact ieaa _ (Heap.get?_update_self _ ho (Obj.isFreed_of_fields (Obj.data_mapFields hd _))) ((Obj.cls_mapFields ..).trans hc) (by
  rw[Obj.data_mapFields hd];simp[rawInt])
theorem nextOf_end{it t:Addr}{i:Nat}{items:Array Value}{Q:Value->Shared->Prop}(hh:A.handled=none)(hit:s.heap.IsTupleIter it t i)(ht:s.heap.IsTuple t items)(hx:items[i]?=none)
 (hE:∀h' e,Heap.ExtBut it s.heap h'->(∃o,h'.get? e=some o/\o.cls=.type "StopIteration")->E (.ref e) {s with heap:=h'}):wpAny (model prog w) A (Builtin.SmallTypes.nextOf (.ref it)) Q E s:=by
 refine oeaa (id hit) λo ho hc hd=>?_;obtain⟨ol,hol,_,nl,hdl⟩:=ht;refine wpAny_bind (wpAny_callSpecial?_slot (name:=Str.ofString "__next__") hit.typeIs PySem.F.slot_tuple_iterator_next (wpAny_call_entry PySem.F.slot_tuple_iterator_next hit.typeIs PySem.F.entry_tuple_iterator_next ?_ (PySem.F.args_tuple_iterator_next_1 _)));show wpAny _ _ (field (.ref it) 0>>=_) _ _ s;refine wpAny_bind (wpAny_field ho hd (x:=.ref t) rfl ?_);refine wpAny_bind (wpAny_field ho hd (x:=.int i 0) rfl ?_);refine wpAny_bind (wpAny_seqItems hol hdl ?_);simp only[c4,hx];refine wpAny_bind (wpAny_rule (wpAny_bind (wpAny_setField ho hd (by simp) ?_)));refine wpAny_bind ?_;refine wpAny_bind (wpAny_newObj_type ?_ (by size_fits));refine wpAny_bind (m:=firstArgMember _ _) (wpAny_of_eq (a:=Value.none) (by first|rfl|(simp only[firstArgMember];rfl)) ?_);refine wpAny_newObj_type ?_ (by size_fits);refine wpAny_bind (wpAny_handled ?_)
 first|refine(hh).symm▸?_|rw[hh]
 refine wpAny_bind (wpAny_pure (wpAny_throw ?_));exact hE _ _ (((Heap.SameBut.update ..).extBut.push _).push _) (iea _ (Heap.get?_push_size _ rfl) rfl)
abbrev IsTri(h:Heap)(T:Addr)(a b c:Value):Prop:=h.get? T=some {cls:=.type "tuple",data:=.seq #[a,b,c]}
structure ZA where
 (z TI TO i1 i2 i3 t1 t2 t3:Addr)
structure ZA.Ok(D:ZA):Prop where
 nd:[D.z,D.TI,D.TO,D.i1,D.i2,D.i3].Nodup
 t1:D.t1∉[D.z,D.TI,D.TO,D.i1,D.i2,D.i3]
 t2:D.t2∉[D.z,D.TI,D.TO,D.i1,D.i2,D.i3]
 t3:D.t3∉[D.z,D.TI,D.TO,D.i1,D.i2,D.i3]
structure ZJ(D:ZA)(xs ys zs:Array Value)(h:Heap)(f0:Value)(k1 k2 k3:Nat)(a b c:Value):Prop where
 z:IsZip h D.z D.TI D.TO f0
 TI:IsTri h D.TI (.ref D.i1) (.ref D.i2) (.ref D.i3)
 TO:IsTri h D.TO a b c
 i1:h.IsTupleIter D.i1 D.t1 k1
 i2:h.IsTupleIter D.i2 D.t2 k2
 i3:h.IsTupleIter D.i3 D.t3 k3
 t1:h.IsTuple D.t1 xs
 t2:h.IsTuple D.t2 ys
 t3:h.IsTuple D.t3 zs
section
variable{D:ZA}{xs ys zs:Array Value}{h h':Heap}{f0 f0' a b c a' b' c':Value}{k1 k2 k3:Nat}
theorem ZA.Ok.facts(O:D.Ok):(¬D.z=D.TI/\¬D.z=D.TO/\¬D.z=D.i1/\¬D.z=D.i2/\¬D.z=D.i3/\¬D.TI=D.TO/\¬D.TI=D.i1/\¬D.TI=D.i2/\¬D.TI=D.i3/\¬D.TO=D.i1/\¬D.TO=D.i2/\¬D.TO=D.i3/\¬D.i1=D.i2/\¬D.i1=D.i3/\¬D.i2=D.i3)/\
 (¬D.t1=D.z/\¬D.t1=D.TI/\¬D.t1=D.TO/\¬D.t1=D.i1/\¬D.t1=D.i2/\¬D.t1=D.i3)/\(¬D.t2=D.z/\¬D.t2=D.TI/\¬D.t2=D.TO/\¬D.t2=D.i1/\¬D.t2=D.i2/\¬D.t2=D.i3)/\(¬D.t3=D.z/\¬D.t3=D.TI/\¬D.t3=D.TO/\¬D.t3=D.i1/\¬D.t3=D.i2/\¬D.t3=D.i3):=by
 have nd:=O.nd;have t1:=O.t1;have t2:=O.t2;have t3:=O.t3;simp only[aE,aj,aN,or_false,not_or]at nd t1 t2 t3;refine iaaa ?_ t1 t2 t3
 simp_all
theorem ZJ.setz(O:D.Ok)(J:ZJ D xs ys zs h f0 k1 k2 k3 a b c)(hs:Heap.ExtBut D.z h h')(hz:IsZip h' D.z D.TI D.TO f0'):ZJ D xs ys zs h' f0' k1 k2 k3 a b c:=by
 refine oaaa O.facts λf g1 g2 g3=>?_;exact⟨hz,hs _ _ (Ne.symm f.1) J.TI,hs _ _ (Ne.symm f.2.1) J.TO,J.i1.extBut hs (Ne.symm f.2.2.1),J.i2.extBut hs (Ne.symm f.2.2.2.1),J.i3.extBut hs (Ne.symm f.2.2.2.2.1),J.t1.extBut hs (g1.1),J.t2.extBut hs (g2.1),J.t3.extBut hs (g3.1)⟩
theorem ZJ.setO(O:D.Ok)(J:ZJ D xs ys zs h f0 k1 k2 k3 a b c)(hs:Heap.ExtBut D.TO h h')(ht:IsTri h' D.TO a' b' c'):ZJ D xs ys zs h' f0 k1 k2 k3 a' b' c':=by
 refine oaaa O.facts λf g1 g2 g3=>?_;exact⟨hs _ _ (f.2.1) J.z,hs _ _ (f.2.2.2.2.2.1) J.TI,ht,J.i1.extBut hs (Ne.symm f.2.2.2.2.2.2.2.2.2.1),J.i2.extBut hs (Ne.symm f.2.2.2.2.2.2.2.2.2.2.1),J.i3.extBut hs (Ne.symm f.2.2.2.2.2.2.2.2.2.2.2.1),J.t1.extBut hs (g1.2.2.1),J.t2.extBut hs (g2.2.2.1),J.t3.extBut hs (g3.2.2.1)⟩
theorem ZJ.set1{k:Nat}(O:D.Ok)(J:ZJ D xs ys zs h f0 k1 k2 k3 a b c)(hs:Heap.ExtBut D.i1 h h')(ht:h'.IsTupleIter D.i1 D.t1 k):ZJ D xs ys zs h' f0 k k2 k3 a b c:=by
 refine oaaa O.facts λf g1 g2 g3=>?_;exact⟨hs _ _ (f.2.2.1) J.z,hs _ _ (f.2.2.2.2.2.2.1) J.TI,hs _ _ (f.2.2.2.2.2.2.2.2.2.1) J.TO,ht,J.i2.extBut hs (Ne.symm f.2.2.2.2.2.2.2.2.2.2.2.2.1),J.i3.extBut hs (Ne.symm f.2.2.2.2.2.2.2.2.2.2.2.2.2.1),J.t1.extBut hs (g1.2.2.2.1),J.t2.extBut hs (g2.2.2.2.1),J.t3.extBut hs (g3.2.2.2.1)⟩
theorem ZJ.set2{k:Nat}(O:D.Ok)(J:ZJ D xs ys zs h f0 k1 k2 k3 a b c)(hs:Heap.ExtBut D.i2 h h')(ht:h'.IsTupleIter D.i2 D.t2 k):ZJ D xs ys zs h' f0 k1 k k3 a b c:=by
 refine oaaa O.facts λf g1 g2 g3=>?_;exact⟨hs _ _ (f.2.2.2.1) J.z,hs _ _ (f.2.2.2.2.2.2.2.1) J.TI,hs _ _ (f.2.2.2.2.2.2.2.2.2.2.1) J.TO,J.i1.extBut hs (f.2.2.2.2.2.2.2.2.2.2.2.2.1),ht,J.i3.extBut hs (Ne.symm f.2.2.2.2.2.2.2.2.2.2.2.2.2.2),J.t1.extBut hs (g1.2.2.2.2.1),J.t2.extBut hs (g2.2.2.2.2.1),J.t3.extBut hs (g3.2.2.2.2.1)⟩
theorem ZJ.set3{k:Nat}(O:D.Ok)(J:ZJ D xs ys zs h f0 k1 k2 k3 a b c)(hs:Heap.ExtBut D.i3 h h')(ht:h'.IsTupleIter D.i3 D.t3 k):ZJ D xs ys zs h' f0 k1 k2 k a b c:=by
 refine oaaa O.facts λf g1 g2 g3=>?_;exact⟨hs _ _ (f.2.2.2.2.1) J.z,hs _ _ (f.2.2.2.2.2.2.2.2.1) J.TI,hs _ _ (f.2.2.2.2.2.2.2.2.2.2.2.1) J.TO,J.i1.extBut hs (f.2.2.2.2.2.2.2.2.2.2.2.2.2.1),J.i2.extBut hs (f.2.2.2.2.2.2.2.2.2.2.2.2.2.2),ht,J.t1.extBut hs (g1.2.2.2.2.2),J.t2.extBut hs (g2.2.2.2.2.2),J.t3.extBut hs (g3.2.2.2.2.2)⟩
theorem ZJ.keeps(J:ZJ D xs ys zs h f0 k1 k2 k3 a b c)(k:∀b o,h.get? b=some o->h'.get? b=some o):ZJ D xs ys zs h' f0 k1 k2 k3 a b c:=
 ⟨k _ _ J.z,k _ _ J.TI,k _ _ J.TO,J.i1.at λo e=>k _ o e,J.i2.at λo e=>k _ o e,J.i3.at λo e=>k _ o e,J.t1.at λo e=>k _ o e,J.t2.at λo e=>k _ o e,J.t3.at λo e=>k _ o e⟩
def ZIn(D:ZA)(b:Addr):Prop:=b=D.z∨b=D.TO∨b=D.i1∨b=D.i2∨b=D.i3
def ZKeep(D:ZA)(h h':Heap):Prop:=∀b o,¬ZIn D b->h.get? b=some o->h'.get? b=some o
theorem ZKeep.refl:ZKeep D h h:=λ_ _ _ e=>e
theorem ZKeep.step{h'':Heap}{x:Addr}(k:ZKeep D h h')(hx:ZIn D x)(e:Heap.ExtBut x h' h''):ZKeep D h h'':=λb o n q=>e b o (λz=>n (z▸hx)) (k b o n q)
end
end
section
variable{prog:Program}{w:World}{A:Around}{E:Value->Shared->Prop}{s:Shared}
theorem updateSeq_tri{T:Addr}{a b c x:Value}{k:Nat}{Q:Unit->Shared->Prop}(hT:IsTri s.heap T a b c)
 (h:∀h',h'.get? T=some {cls:=.type "tuple",data:=.seq ((#[a,b,c]:Array Value).setIfInBounds k x)}->Heap.SameBut T s.heap h'->Q () {s with heap:=h'}):
 wpAny (model prog w) A (updateSeq T (·.setIfInBounds k x)) Q E s:=by
 refine wpAny_updateSeq hT rfl (h _ ?_ (Heap.SameBut.update ..));rw[Heap.get?_update_self _ hT rfl];simp[Obj.mapSeq]
variable{D:ZA}{xs ys zs:Array Value}{k:Nat}{x y v a b c:Value}
def ZAt(D:ZA)(xs ys zs:Array Value)(k:Nat)(x y v a b c:Value)(l:List (Value×Nat))(h:Heap):Prop:=
 (l=[(.ref D.i1,0),(.ref D.i2,1),(.ref D.i3,2)]/\ZJ D xs ys zs h .ellipsis k k k a b c)∨(l=[(.ref D.i2,1),(.ref D.i3,2)]/\ZJ D xs ys zs h .ellipsis (k+1) k k x b c)∨
 (l=[(.ref D.i3,2)]/\ZJ D xs ys zs h .ellipsis (k+1) (k+1) k x y c)∨(l=[]/\ZJ D xs ys zs h .ellipsis (k+1) (k+1) (k+1) x y v)
theorem zip_turn(O:D.Ok)(hx:xs[k]?=some x)(hy:ys[k]?=some y)(hv:zs[k]?=some v){p:Value×Nat}{l:List (Value×Nat)}{h:Heap}(Z:ZAt D xs ys zs k x y v a b c (p::l) h){R:Prop}
 (q:∀it t i u w p1 p2 p3,h.IsTupleIter it t k->h.IsTuple t u->u[k]?=some w->ZIn D it->(∀h₂,h₂.IsTupleIter it t (k+1)->Heap.ExtBut it h h₂->IsTri h₂ D.TO p1 p2 p3/\∀h₃,h₃.get? D.TO=some {cls:=.type "tuple",data:=.seq ((#[p1,p2,p3]:Array Value).setIfInBounds i w)}->Heap.ExtBut D.TO h₂ h₃->ZAt D xs ys zs k x y v a b c l h₃)->p=(.ref it,i)->R):R:=by
 refine Or.elim Z (λz=>?_) λz=>Or.elim z (λz=>?_) λz=>Or.elim z (λz=>?_) λz=>(dq _ _ z.1).elim
 ·have e:=d5.inj z.1;exact q _ _ 0 _ _ a b c z.2.i1 z.2.t1 hx (.inr (.inr (.inl rfl))) (λh₂ g1 g2=>have J:=z.2.set1 O g2 g1;⟨J.TO,λh₃ g3 g4=>.inr (.inl ⟨e.2,J.setO O g4 g3⟩)⟩) e.1
 ·have e:=d5.inj z.1;exact q _ _ 1 _ _ x b c z.2.i2 z.2.t2 hy (.inr (.inr (.inr (.inl rfl)))) (λh₂ g1 g2=>have J:=z.2.set2 O g2 g1;⟨J.TO,λh₃ g3 g4=>.inr (.inr (.inl ⟨e.2,J.setO O g4 g3⟩))⟩) e.1
 ·have e:=d5.inj z.1;exact q _ _ 2 _ _ x y c z.2.i3 z.2.t3 hv (.inr (.inr (.inr (.inr rfl)))) (λh₂ g1 g2=>have J:=z.2.set3 O g2 g1;⟨J.TO,λh₃ g3 g4=>.inr (.inr (.inr ⟨e.2,J.setO O g4 g3⟩))⟩) e.1
theorem zip_item(O:D.Ok)(J:ZJ D xs ys zs s.heap .none k k k a b c)(hx:xs[k]?=some x)(hy:ys[k]?=some y)(hv:zs[k]?=some v){Q:Value->Shared->Prop}
 (hQ:∀h',ZJ D xs ys zs h' (rawInt s.heap.objs.size) (k+1) (k+1) (k+1) x y v->IsTri h' s.heap.objs.size x y v->s.heap.objs.size<h'.objs.size->ZKeep D s.heap h'->Q (.ref s.heap.objs.size) {s with heap:=h'}):
 wpAny (model prog w) A (Builtin.«zip.__next__» ⟨[.ref D.z],[]⟩) (λfin s'=>∃v,fin=.done (.ret v)/\Q v s') E s:=by
 show wpAny _ _ (field (.ref D.z) 2>>=_) _ _ _;refine wpAny_bind (wpAny_field J.z rfl (x:=.bool false) rfl ?_);show wpAny _ _ (field (.ref D.z) 3>>=_) _ _ _;refine wpAny_bind (wpAny_field J.z rfl (x:=.ref D.TI) rfl ?_);refine wpAny_bind (wpAny_seqItems J.TI rfl ?_);refine wpAny_bind (m:=Builtin.SmallTypes.ownedTupleIsFree _) ?_;refine wpAny_bind (wpAny_field J.z rfl (x:=.none) rfl (wpAny_pure ?_));refine wpAny_bind (wpAny_rule ?_);refine wpAny_bind (wpAny_field J.z rfl (x:=.ref D.TO) rfl ?_);refine wpAny_bind (wpAny_setField_rec J.z (by simp) λh₁ hz₁ hs₁=>?_);refine wpAny_bind (wpAny_forIn_list _ (λl r s'=>r=(none,())/\∃h',s'={s with heap:=h'}/\h'.objs.size=s.heap.objs.size/\ZKeep D s.heap h'/\ZAt D xs ys zs k x y v a b c l h') _ (λp l r s' I=>?_) (λr s' I=>?_) _ _ ⟨rfl,_,rfl,hs₁.1,ZKeep.refl.step (.inl rfl) hs₁.extBut,.inl ⟨rfl,J.setz O hs₁.extBut hz₁⟩⟩)
 ·refine oa I λe I=>oeaaa I λh e2 g0 g1 Z=>zip_turn O hx hy hv Z λit t i u w p1 p2 p3 m1 m2 m3 m4 m5 e3=>?_;subst e;rw[e2];rw[e3];refine wpAny_bind (wpAny_onRaise (wpAny_bind (nextOf_tup m1 m2 m3 λh₂ h1₂ hs₂=>wpAny_pure ?_)));have m6:=m5 h₂ h1₂ hs₂.extBut;refine wpAny_bind (wpAny_seqItems m6.1 rfl ?_);refine wpAny_bind (updateSeq_tri m6.1 λh₃ hTO₃ hs₃=>?_);exact wpAny_bind (wpAny_letGo (wpAny_pure ⟨rfl,h₃,rfl,hs₃.1.trans (hs₂.1.trans g0),(g1.step m4 hs₂.extBut).step (.inr (.inl rfl)) hs₃.extBut,m6.2 h₃ hTO₃ hs₃.extBut⟩))
 ·refine oa I λe I=>oeaaa I λh e2 g0 g1 Z=>?_;rw[e];rw[e2];have J:=(Z.elim (λz=>(dq _ _ z.1.symm).elim) λz=>z.elim (λz=>(dq _ _ z.1.symm).elim) λz=>z.elim (λz=>(dq _ _ z.1.symm).elim) λz=>z.2:ZJ D xs ys zs h .ellipsis (k+1) (k+1) (k+1) x y v);refine wpAny_bind (wpAny_seqItems J.TO rfl ?_);refine wpAny_bind (wpAny_newTuple ?_);have J8:ZJ D xs ys zs (h.push {cls:=.type "tuple",data:=.seq #[x,y,v]}) .ellipsis (k+1) (k+1) (k+1) x y v:=J.keeps λ_ _ e=>Heap.get?_push_of_some _ e;refine wpAny_bind (m:=Builtin.SmallTypes.ownedTupleHandOut _ _) ?_;refine wpAny_bind (wpAny_setField_rec J8.z (by simp) λh₉ hz₉ hs₉=>?_);have J9:=J8.setz O hs₉.extBut (f0':=rawInt h.objs.size) hz₉;refine wpAny_setField_rec J9.z (by simp) λha hza hsa=>wpAny_pure (iea _ rfl ?_);have hk:∀b o,b≠D.z->Heap.get? h b=some o->ha.get? b=some o:=λb o n e=>hsa.extBut _ _ n (hs₉.extBut _ _ n (Heap.get?_push_of_some _ e));have Ja:=J9.setz O hsa.extBut (f0':=rawInt h.objs.size) hza;have Ta:=hsa.extBut _ _ (aY (Heap.lt_size J.z)).symm (hs₉.extBut _ _ (aY (Heap.lt_size J.z)).symm (Heap.get?_push_size _ rfl));show Q (.ref h.objs.size) _;rw[g0]at Ja Ta⊢;exact hQ ha Ja Ta (by rw[hsa.1,hs₉.1,Heap.size_push,g0];exact br _) λb o n e=>hk b o (λz=>n (.inl z)) (g1 b o n e)
theorem zip_end(hh:A.handled=none)(O:D.Ok)(J:ZJ D xs ys zs s.heap .none k k k a b c)(hx:xs[k]?=none){Q:Fin->Shared->Prop}
 (hE:∀h' e,ZKeep D s.heap h'->(∃o,h'.get? e=some o/\o.cls=.type "StopIteration")->E (.ref e) {s with heap:=h'}):
 wpAny (model prog w) A (Builtin.«zip.__next__» ⟨[.ref D.z],[]⟩) Q E s:=by
 show wpAny _ _ (field (.ref D.z) 2>>=_) _ _ _;refine wpAny_bind (wpAny_field J.z rfl (x:=.bool false) rfl ?_);refine wpAny_bind (wpAny_field J.z rfl (x:=.ref D.TI) rfl ?_);refine wpAny_bind (wpAny_seqItems J.TI rfl ?_);refine wpAny_bind ?_;refine wpAny_bind (wpAny_field J.z rfl (x:=.none) rfl (wpAny_pure ?_));refine wpAny_bind (wpAny_rule ?_);refine wpAny_bind (wpAny_field J.z rfl (x:=.ref D.TO) rfl ?_);refine wpAny_bind (wpAny_setField_rec J.z (by simp) λh₁ hz₁ hs₁=>?_);have J1:=J.setz O hs₁.extBut (f0':=.ellipsis) hz₁;have K1:=(ZKeep.refl (D:=D)).step (.inl rfl) hs₁.extBut;refine wpAny_bind ?_;refine wpAny_bind (wpAny_bind (wpAny_onRaise ?_));refine wpAny_bind (nextOf_end hh J1.i1 J1.t1 hx λh₂ e hs₂ he=>?_);refine oea he λoe hoe hce=>?_;clear he;refine oa O.facts λf _=>?_;have hz₂:IsZip h₂ D.z D.TI D.TO .ellipsis:=hs₂ _ _ f.2.2.1 J1.z;have K2:=K1.step (.inr (.inr (.inl rfl))) hs₂;have hez:e≠D.z:=λx=>by subst x;replace hoe:=(hz₂)▸hoe;obtain rfl:=ab.inj hoe;simp at hce
 refine wpAny_setField_rec hz₂ (by simp) λh₃ _ hs₃=>hE h₃ e (K2.step (.inl rfl) hs₃.extBut) (iea oe (hs₃.extBut _ _ hez hoe) hce)
theorem pyNext_zip_item(O:D.Ok)(J:ZJ D xs ys zs s.heap .none k k k a b c)(hx:xs[k]?=some x)(hy:ys[k]?=some y)(hv:zs[k]?=some v){Q:Option Value->Shared->Prop}
 (hQ:∀h',ZJ D xs ys zs h' (rawInt s.heap.objs.size) (k+1) (k+1) (k+1) x y v->IsTri h' s.heap.objs.size x y v->s.heap.objs.size<h'.objs.size->ZKeep D s.heap h'->Q (some (.ref s.heap.objs.size)) {s with heap:=h'}):
 wpAny (model prog w) A (pyNext (.ref D.z)) Q E s:=by
 have hT:s.TypeIs (.ref D.z) "zip":=iea _ J.z rfl;exact wpAny_bind (wpAny_attempt (wpAny_callSpecial?_slot (name:=Str.ofString "__next__") hT PySem.F.slot_zip_next
  (wpAny_call_entry PySem.F.slot_zip_next hT PySem.F.entry_zip_next
    (zip_item O J hx hy hv λh' a1 a2 a3 a4=>wpAny_pure (hQ h' a1 a2 a3 a4)) (PySem.F.args_zip_next_1 _))))
theorem pyNext_zip_end(hh:A.handled=none)(O:D.Ok)(J:ZJ D xs ys zs s.heap .none k k k a b c)(hx:xs[k]?=none){Q:Option Value->Shared->Prop}
 (hQ:∀h',ZKeep D s.heap h'->Q none {s with heap:=h'}):wpAny (model prog w) A (pyNext (.ref D.z)) Q E s:=by
 have hT:s.TypeIs (.ref D.z) "zip":=iea _ J.z rfl;refine wpAny_bind (wpAny_attempt (wpAny_callSpecial?_slot (name:=Str.ofString "__next__") hT PySem.F.slot_zip_next
  (wpAny_call_entry PySem.F.slot_zip_next hT PySem.F.entry_zip_next (zip_end (A:=A.in1) hh O J hx λh' e hk he=>?_) (PySem.F.args_zip_next_1 _))))
 refine oea he λo ho hc=>?_;refine wpAny_bind (wpAny_isInstance (T:="StopIteration") (b:=true) (iea o ho hc) isSubtype_stop ?_);exact wpAny_pure (hQ _ hk)
end
theorem typeCall_zip_3(a b c:Value):checkTypeCall "zip" ⟨[a,b,c],[]⟩=pure ():=by kernel_rfl
theorem newCall_zip_3(a b c:Value):checkBuiltinCall "zip.__new__" ⟨[.type "zip",a,b,c],[]⟩=pure ():=by kernel_rfl
theorem args_object_init_4(a b c d:Value):argsOk "object.__init__" ⟨[a,b,c,d],[]⟩:=by
 unfold argsOk;rw[signature?_of (id:="object.__init__") (n:=['_','_','t','i','n','i','_','_']) (o:=['t','c','e','j','b','o']) (by kernel_rfl) PySem.F.owner_object];kernel_rfl
noncomputable abbrev zh1(h:Heap)(l1:Addr):Heap:=h.push {cls:=.type "tuple_iterator",data:=.fields #[.ref l1,.int 0 0]}
noncomputable abbrev zh2(h:Heap)(l1 l2:Addr):Heap:=(zh1 h l1).push {cls:=.type "tuple_iterator",data:=.fields #[.ref l2,.int 0 0]}
noncomputable abbrev zh3(h:Heap)(l1 l2 l3:Addr):Heap:=(zh2 h l1 l2).push {cls:=.type "tuple_iterator",data:=.fields #[.ref l3,.int 0 0]}
noncomputable abbrev zh4(h:Heap)(l1 l2 l3:Addr):Heap:=(zh3 h l1 l2 l3).push {cls:=.type "tuple",data:=.seq #[.ref h.objs.size,.ref (zh1 h l1).objs.size,.ref (zh2 h l1 l2).objs.size]}
noncomputable abbrev zh5(h:Heap)(l1 l2 l3:Addr):Heap:=(zh4 h l1 l2 l3).push {cls:=.type "tuple",data:=.seq #[.none,.none,.none]}
noncomputable abbrev zh6(h:Heap)(l1 l2 l3:Addr):Heap:=(zh5 h l1 l2 l3).push {cls:=.type "zip",data:=.fields #[.none,.bool false,.bool false,.ref (zh3 h l1 l2 l3).objs.size,.ref (zh4 h l1 l2 l3).objs.size]}
section
variable{prog:Program}{w:World}{A:Around}{E:Value->Shared->Prop}{s:Shared}
theorem iterAll3{l1 l2 l3:Addr}{xs ys zs:Array Value}{Q:List Value->Shared->Prop}(hl1:s.heap.IsTuple l1 xs)(hl2:s.heap.IsTuple l2 ys)(hl3:s.heap.IsTuple l3 zs)
 (h:Q [.ref s.heap.objs.size,.ref (zh1 s.heap l1).objs.size,.ref (zh2 s.heap l1 l2).objs.size] {s with heap:=zh3 s.heap l1 l2 l3}):
 wpAny (model prog w) A (Builtin.SmallTypes.iterAll [.ref l1,.ref l2,.ref l3]) Q E s:=by
 dsimp only[Builtin.SmallTypes.iterAll];have h1:(zh1 s.heap l1).IsTuple l2 ys:=hl2.at λo e=>Heap.get?_push_of_some _ e;have h2:(zh2 s.heap l1 l2).IsTuple l3 zs:=hl3.at λo e=>Heap.get?_push_of_some _ (Heap.get?_push_of_some _ e);refine wpAny_bind (wpAny_bind (wpAny_bind (wpAny_holding (wpAny_pyIter_tuple hl1 (wpAny_pure ?_)))));refine(wpAny_bind (wpAny_bind (wpAny_holding (wpAny_pyIter_tuple h1 (wpAny_pure ?_)))));refine(wpAny_bind (wpAny_bind (wpAny_holding (wpAny_pyIter_tuple h2 (wpAny_pure ?_)))));exact wpAny_pure (wpAny_pure h)
end
theorem meets_zip3(l1 l2 l3:Addr)(xs ys zs:Array Value):
 Meets (Builtin.«zip.__new__» ⟨[.type "zip",.ref l1,.ref l2,.ref l3],[]⟩) (λ_ R s=>s.heap.IsTuple l1 xs/\s.heap.IsTuple l2 ys/\s.heap.IsTuple l3 zs/\
  R (.ok (.ret (.ref (zh5 s.heap l1 l2 l3).objs.size))) {s with heap:=zh6 s.heap l1 l2 l3}):=
 .of_wp λprog w A R s h=>by
  obtain⟨hp,g,d,tk,os⟩:=s;refine oaaa h λhl1 hl2 hl3 h=>?_;have hI:∀{A:Around} {E:Value->Shared->Prop} {Q:List Value->Shared->Prop},Q [.ref hp.objs.size,.ref (zh1 hp l1).objs.size,.ref (zh2 hp l1 l2).objs.size] ⟨zh3 hp l1 l2 l3,g,d,tk,os⟩->wpAny (model prog w) A (Builtin.SmallTypes.iterAll [.ref l1,.ref l2,.ref l3]) Q E ⟨hp,g,d,tk,os⟩:=λq=>iterAll3 (s:=⟨hp,g,d,tk,os⟩) hl1 hl2 hl3 q;refine wpAny_bind (m:=Builtin.SmallTypes.newClass _ _) ?_;dsimp only[sub_zip];refine wpAny_pure ?_;refine wpAny_bind (hI ?_);refine wpAny_bind (wpAny_newTuple ?_);refine wpAny_bind (wpAny_newTuple ?_);refine wpAny_bind ?_;show wpAny _ _ (newObj (.type "zip") (.fields #[.none,.bool false,.bool false,.ref (zh3 hp l1 l2 l3).objs.size,.ref (zh4 hp l1 l2 l3).objs.size])) _ _ _;refine wpAny_newObj_type ?_ (by size_fits);exact wpAny_pure (iea _ rfl h)
section
variable{prog:Program}{w:World}{A:Around}{E:Value->Shared->Prop}{s:Shared}
noncomputable def zaOf(n:Nat)(l1 l2 l3:Addr):ZA:=⟨n+5,n+3,n+4,n,n+1,n+2,l1,l2,l3⟩
theorem zaN{l n:Nat}(h:l<n):¬l=n+5/\¬l=n+3/\¬l=n+4/\¬l=n/\¬l=n+1/\¬l=n+2:=⟨aY (cQ 5 h),aY (cQ 3 h),aY (cQ 4 h),aY h,aY (cQ 1 h),aY (cQ 2 h)⟩
theorem zaOf_ok{n:Nat}{l1 l2 l3:Addr}(h1:l1<n)(h2:l2<n)(h3:l3<n):(zaOf n l1 l2 l3).Ok:=by
 refine⟨?_,?_,?_,?_⟩<;>simp[zaOf]<;>(try simp[Addr]at *)<;>first|exact zaN ‹_›|lia
theorem call_zip3{l1 l2 l3:Addr}{xs ys zs:Array Value}{Q:Value->Shared->Prop}(hl1:s.heap.IsTuple l1 xs)(hl2:s.heap.IsTuple l2 ys)(hl3:s.heap.IsTuple l3 zs)
 (h:∀h',(zaOf s.heap.objs.size l1 l2 l3).Ok->ZJ (zaOf s.heap.objs.size l1 l2 l3) xs ys zs h' .none 0 0 0 .none .none .none->
   (∀c o,s.heap.get? c=some o->h'.get? c=some o)->Q (.ref (s.heap.objs.size+5)) {s with heap:=h'}):
 wpAny (model prog w) A (call (.type "zip") [.ref l1,.ref l2,.ref l3]) Q E s:=by
 refine callType_new PySem.F.called_zip (rfl) (typeCall_zip_3 _ _ _) (newCall_zip_3 _ _ _) (λobj=>args_object_init_4 obj _ _ _) PySem.F.entry_zip_new
  (meets_zip3 l1 l2 l3 xs ys zs) (iaaa hl1 hl2 hl3 ?_)
 have z1:(zh1 s.heap l1).objs.size=s.heap.objs.size+1:=Heap.size_push ..;have z2:(zh2 s.heap l1 l2).objs.size=s.heap.objs.size+2:=by unfold zh2;rw[Heap.size_push,z1]
 have z3:(zh3 s.heap l1 l2 l3).objs.size=s.heap.objs.size+3:=by unfold zh3;rw[Heap.size_push,z2]
 have z4:(zh4 s.heap l1 l2 l3).objs.size=s.heap.objs.size+4:=by unfold zh4;rw[Heap.size_push,z3]
 have z5:(zh5 s.heap l1 l2 l3).objs.size=s.heap.objs.size+5:=by unfold zh5;rw[Heap.size_push,z4]
 have u1:∀{c o},s.heap.get? c=some o->(zh1 s.heap l1).get? c=some o:=λe=>Heap.get?_push_of_some _ e;have u2:∀{c o},(zh1 s.heap l1).get? c=some o->(zh2 s.heap l1 l2).get? c=some o:=λe=>Heap.get?_push_of_some _ e;have u3:∀{c o},(zh2 s.heap l1 l2).get? c=some o->(zh3 s.heap l1 l2 l3).get? c=some o:=λe=>Heap.get?_push_of_some _ e;have u4:∀{c o},(zh3 s.heap l1 l2 l3).get? c=some o->(zh4 s.heap l1 l2 l3).get? c=some o:=λe=>Heap.get?_push_of_some _ e;have u5:∀{c o},(zh4 s.heap l1 l2 l3).get? c=some o->(zh5 s.heap l1 l2 l3).get? c=some o:=λe=>Heap.get?_push_of_some _ e;have u6:∀{c o},(zh5 s.heap l1 l2 l3).get? c=some o->(zh6 s.heap l1 l2 l3).get? c=some o:=λe=>Heap.get?_push_of_some _ e;have g1:(zh1 s.heap l1).get? s.heap.objs.size=some {cls:=.type "tuple_iterator",data:=.fields #[.ref l1,.int 0 0]}:=Heap.get?_push_size _ rfl;have g2:(zh2 s.heap l1 l2).get? (zh1 s.heap l1).objs.size=some {cls:=.type "tuple_iterator",data:=.fields #[.ref l2,.int 0 0]}:=Heap.get?_push_size _ rfl;have g3:(zh3 s.heap l1 l2 l3).get? (zh2 s.heap l1 l2).objs.size=some {cls:=.type "tuple_iterator",data:=.fields #[.ref l3,.int 0 0]}:=Heap.get?_push_size _ rfl;have g4:(zh4 s.heap l1 l2 l3).get? (zh3 s.heap l1 l2 l3).objs.size=some {cls:=.type "tuple",data:=.seq #[.ref s.heap.objs.size,.ref (zh1 s.heap l1).objs.size,.ref (zh2 s.heap l1 l2).objs.size]}:=Heap.get?_push_size _ rfl;have g5:(zh5 s.heap l1 l2 l3).get? (zh4 s.heap l1 l2 l3).objs.size=some {cls:=.type "tuple",data:=.seq #[.none,.none,.none]}:=Heap.get?_push_size _ rfl;have g6:(zh6 s.heap l1 l2 l3).get? (zh5 s.heap l1 l2 l3).objs.size=some {cls:=.type "zip",data:=.fields #[.none,.bool false,.bool false,.ref (zh3 s.heap l1 l2 l3).objs.size,.ref (zh4 s.heap l1 l2 l3).objs.size]}:=Heap.get?_push_size _ rfl;rw[z5,z3,z4]at g6;rw[z4]at g5;rw[z3,z1,z2]at g4;rw[z2]at g3;rw[z1]at g2;refine(z5).symm▸?_;have up:∀c o,s.heap.get? c=some o->(zh6 s.heap l1 l2 l3).get? c=some o:=λc o e=>u6 (u5 (u4 (u3 (u2 (u1 e)))));have lt:∀{l:Addr} {ys},s.heap.IsTuple l ys->l<s.heap.objs.size:=λh=>by refine oea h λ_ e _=>?_;exact Heap.lt_size e
 refine⟨iea _ g6 rfl,h _ (zaOf_ok (lt hl1) (lt hl2) (lt hl3)) ?_ up⟩;exact⟨g6,u6 (u5 g4),u6 g5,ieaa _ (u6 (u5 (u4 (u3 (u2 g1))))) rfl rfl,ieaa _ (u6 (u5 (u4 (u3 g2)))) rfl rfl,ieaa _ (u6 (u5 (u4 g3))) rfl rfl,
  hl1.at λo e=>up _ o e,hl2.at λo e=>up _ o e,hl3.at λo e=>up _ o e⟩
end
noncomputable def zip3V:List V->List V->List V->List V
 |x::xs,y::ys,z::zs=>.tup [x,y,z]::zip3V xs ys zs
 |_,_,_=>[]
noncomputable def tupV:V->Option (List V)
 |.tup vs=>some vs
 |_=>none
theorem tupV_out{v:V}{vs:List V}(h:tupV v=some vs):v=.tup vs:=by
 cases v with
 |tup x=>exact congrArg V.tup (ab.inj h)
 |_=>exact nos h
def on3(vs:List V)(X:List V->List V->List V->Prop):Prop:=match vs with
 |[a,b,c]=>sm (tupV a) λas=>sm (tupV b) λbs=>sm (tupV c) λcs=>X as bs cs
 |_=>False
theorem on3_out{vs:List V}{X:List V->List V->List V->Prop}(h:on3 vs X){G:Prop}(g:∀as bs cs,vs=[.tup as,.tup bs,.tup cs]->X as bs cs->G):G:=by
 cases vs with
 |nil=>exact h.elim
 |cons a vs=>cases vs with
  |nil=>exact h.elim
  |cons b vs=>cases vs with
   |nil=>exact h.elim
   |cons d vs=>cases vs with
    |cons _ _=>exact h.elim
    |nil=>
     refine oea (sm.out h) λas ea h=>?_;refine oea (sm.out h) λbs eb h=>?_;refine oea (sm.out h) λcs ec h=>?_;rw[tupV_out ea,tupV_out eb,tupV_out ec]at g;exact g _ _ _ rfl h
noncomputable def fForZip(is:List Nat)(fs:Pw (List V))(body:FS):FS:=λγ fr Q=>fs γ fr λvs fr1=>on3 vs λas bs cs=>Pr (as.length=bs.length/\bs.length=cs.length) (Loop γ (.tup is) body (zip3V as bs cs) fr1 Q)
theorem zip3V_length:∀{xs ys zs:List V},xs.length=ys.length->ys.length=zs.length->(zip3V xs ys zs).length=xs.length:=by
 intro xs
 induction xs with
 |nil=>intro ys zs _ _;rfl
 |cons x xs ih=>
  intro ys zs h1 h2;cases ys with
  |nil=>injection h1
  |cons y ys=>cases zs with
   |nil=>injection h2
   |cons z zs=>exact congrArg bz (ih (bz.inj h1) (bz.inj h2))
theorem zip3V_get:∀{xs ys zs:List V} {i:Nat} {u:V},(zip3V xs ys zs)[i]?=some u->∃x y z,u=.tup [x,y,z]/\xs[i]?=some x/\ys[i]?=some y/\zs[i]?=some z:=by
 intro xs
 induction xs with
 |nil=>intro ys zs i u h;exact nos h
 |cons x xs ih=>
  intro ys zs i u h;cases ys with
  |nil=>exact nos h
  |cons y ys=>cases zs with
   |nil=>exact nos h
   |cons z zs=>cases i with
    |zero=>refine(ab.inj h)▸?_;exact⟨x,y,z,rfl,rfl,rfl,rfl⟩
    |succ i=>exact ih (i:=i) h
def HidZ(D:ZA)(a:Addr):Prop:=a∈[D.z,D.TI,D.TO,D.i1,D.i2,D.i3]
inductive ZT(D:ZA)(xs ys zs:Array Value)(i:Nat)(h:Heap):Prop
 |mk (a b c:Value) (J:ZJ D xs ys zs h .none i i i a b c):ZT D xs ys zs i h
section
variable{c:Cx}{A:Around}{k:Nat}{sc:Scope}{Z:Fx}{y y':Gl}{fr fr':FrL}{s s':Shared}{h h':Heap}{b b1 b2:Bool}{fs:FS}{a1:List Nat}{t:Expr}{body:List Stmt}{pos:Pos}{us:List V}{D:ZA}{xs ys zs:Array Value}{H:Addr->Prop}{g0:GM}
theorem hz_z:HidZ D D.z:=.head _
theorem hz_TI:HidZ D D.TI:=.tail _ (.head _)
theorem hz_TO:HidZ D D.TO:=.tail _ (.tail _ (.head _))
theorem hz_1:HidZ D D.i1:=.tail _ (.tail _ (.tail _ (.head _)))
theorem hz_2:HidZ D D.i2:=.tail _ (.tail _ (.tail _ (.tail _ (.head _))))
theorem hz_3:HidZ D D.i3:=.tail _ (.tail _ (.tail _ (.tail _ (.tail _ (.head _)))))
theorem HidZ.out{P:Addr->Prop}{a:Addr}(q:HidZ D a)(h0:P D.z)(h1:P D.TI)(h2:P D.TO)(h3:P D.i1)(h4:P D.i2)(h5:P D.i3):P a:=by
 rcases aj.mp q with rfl|q
 ·exact h0
 rcases aj.mp q with rfl|q
 ·exact h1
 rcases aj.mp q with rfl|q
 ·exact h2
 rcases aj.mp q with rfl|q
 ·exact h3
 rcases aj.mp q with rfl|q
 ·exact h4
 ·cases af.mp q;exact h5
theorem ZIn.hid{a:Addr}(q:ZIn D a):HidZ D a:=by
 rcases q with rfl|rfl|rfl|rfl|rfl
 ·exact hz_z
 ·exact hz_TO
 ·exact hz_1
 ·exact hz_2
 ·exact hz_3
theorem ZJ.lives{f0 a b c:Value}{k1 k2 k3:Nat}(J:ZJ D xs ys zs h f0 k1 k2 k3 a b c){x:Addr}(q:HidZ D x):∃o,h.get? x=some o:=by
 refine q.out (P:=λx=>∃o,h.get? x=some o) ⟨_,J.z⟩ ⟨_,J.TI⟩ ⟨_,J.TO⟩ ?_ ?_ ?_
 ·refine oea J.i1 λo e _=>?_;exact⟨o,e⟩
 ·refine oea J.i2 λo e _=>?_;exact⟨o,e⟩
 ·refine oea J.i3 λo e _=>?_;exact⟨o,e⟩
theorem Hid.extE(q:Hid c Z H)(e:Ext (Z.hid H h) b y y'):Ext Z b y y':=⟨q.ext e.g,e.r0,e.r1,e.tm⟩
theorem rep_at{g:GM}{vs:List V}{xs:List Value}{i:Nat}{u:V}(r:RepL g vs xs)(e:vs[i]?=some u):∃val,xs.toArray[i]?=some val/\Rep g u val:=by
 refine oea (r.get e) λx hx rx=>?_;exact iea x (by rw[cv];exact hx) rx
theorem turn_zip{as bs cs:List V}{xs ys zs:List Value}{ts:List Expr}{kk:Nat}{pt:Pos}(hA:A.handled=none)(O:D.Ok)(k1:(g0 D.t1).isSome=true)(k2:(g0 D.t2).isSome=true)(k3:(g0 D.t3).isSome=true)
 (r1:RepL g0 as xs) (r2:RepL g0 bs ys) (r3:RepL g0 cs zs) (n1:as.length=bs.length) (n2:bs.length=cs.length):Turn c A g0 (.Tuple ts kk pt) D.z (HidZ D) (zip3V as bs cs) (ZT D xs.toArray ys.toArray zs.toArray):=by
 refine⟨?_,?_,?_,?_,?_⟩
 ·rintro i h ⟨_,_,_,J⟩ a q;exact J.lives q
 ·rintro i s Q E ⟨_,_,_,J⟩ h;exact wpAny_pyIter_zip J.z h
 ·rintro i h h' ⟨a,b,c,J⟩ k;exact⟨a,b,c,k _ (.inl hz_z) _ J.z,k _ (.inl hz_TI) _ J.TI,k _ (.inl hz_TO) _ J.TO,J.i1.at λo e=>k _ (.inl hz_1) o e,J.i2.at λo e=>k _ (.inl hz_2) o e,J.i3.at λo e=>k _ (.inl hz_3) o e,
   J.t1.at λo e=>k _ (.inr k1) o e,J.t2.at λo e=>k _ (.inr k2) o e,J.t3.at λo e=>k _ (.inr k3) o e⟩
 ·rintro Z i u y fr s R E hid hu hg ng ⟨a,b,c0,J⟩ S q;obtain⟨u1,u2,u3,rfl,e1,e2,e3⟩:=zip3V_get hu;refine oea (rep_at r1 e1) λx1 f1 q1=>?_;refine oea (rep_at r2 e2) λx2 f2 q2=>?_;refine oea (rep_at r3 e3) λx3 f3 q3=>?_;refine pyNext_zip_item O J f1 f2 f3 λh5 J5 T5 _ K5=>iea _ rfl (wpAny_letOwnedTupleGo_zip J5.z λh6 z6 s6=>?_);refine oa (S.frozen (a:=s.heap.objs.size) (s':={s with heap:=s.heap.push (sqO "tuple" [x1,x2,x3] 0)}) (.of (λb o e=>Heap.get?_push_of_some _ e) rfl rfl) (fresh_none _) (Heap.get?_push_size _ rfl)) λS5 x5=>?_;have ng5:∀a,HidZ D a->y.g.add s.heap.objs.size (sqO "tuple" [x1,x2,x3] 0) a=none:=λa q=>by
   refine oe (J.lives q) λo e=>?_;rw[GM.add_ne _ (aY (Heap.lt_size e))];exact ng a q
  refine q _ _ _ (hid.extE x5) ng5 ⟨_,_,_,J5.setz O s6.extBut z6⟩ (hid.swap (s':={s with heap:=h6}) S5 (λa q=>J.lives q) ng5 (λb ob nb e=>?_) rfl rfl)
   ⟨_,[x1,x2,x3],0,rfl,GM.add_same _ _ _,⟨_,_,rfl,(q1.mono hg).mono x5.g.1,_,_,rfl,(q2.mono hg).mono x5.g.1,_,_,rfl,(q3.mono hg).mono x5.g.1,rfl⟩⟩
  refine s6.extBut _ _ (λz=>nb (z▸hz_z)) ?_;by_cases z:b=s.heap.objs.size
  ·subst z;have e:=(Heap.get?_push_size s.heap rfl).symm.trans e;refine(ab.inj e)▸?_;exact T5
  ·refine K5 b ob (λq=>nb q.hid) ?_
   rwa[show({s with heap:=s.heap.push (sqO "tuple" [x1,x2,x3] 0)}:Shared).heap.get? b=s.heap.get? b from Heap.get?_push_ne _ _ _ z]at e
 ·rintro Z y fr s R E hid ng ⟨a,b,c0,J⟩ S q;refine pyNext_zip_end hA O J (k:=(zip3V as bs cs).length) ?_ λh5 K5=>⟨rfl,q _ (hid.gone (s':={s with heap:=h5}) S (λa q=>J.lives q) ng (λb ob nb e=>K5 b ob (λq=>nb q.hid) e) rfl rfl)⟩;simp only[zip3V_length n1 n2,cv,←r1.length];exact bA (aI _)
theorem SS1.forZip{x:Str}{p pp:Pos}{is:List Nat}{es:List Expr}{e1:Expr}{fvs:Pw (List V)}(hf:CV c sc x p (.type "zip"))(hd:SVs c k sc (e1::es) fvs b)
 (he:∀env,starEach (e1::es) env=(false,eval e1 env)::starEach es env) (hp:∀env pos,(backTo pos (starEach es env)).any (·.1)=false)
 (hc:∀env,eval (.Call (.Name x p) (e1::es) [] pp) env=(do
     let f ←eval (.Name x p) env
     callWith pp f [] (backTo pp (starEach (e1::es) env)) (backToKw pp (keywordEach [] env))))
 (ht:TgtOk sc t (.tup is)) (hb:SS c k sc body fs a1) (hfs:∀env y,foldedSetIterable (.Call (.Name x p) (e1::es) [] pp) env y=pure y):
 SS1 c k sc (.For t (.Call (.Name x p) (e1::es) [] pp) body [] pos) (fForZip is fvs fs) a1:=by
 intro Z y fr s Q ok S q;refine wpAny_For (Call_ (hf Z y fr s _ _ ok.sc S ?_) (hc Z.env)) (hfs Z.env);refine CallW.t (c:=c) he hp Z.env pp Z.A s _ ((hd pp).use ok S q λy2 fr2 vs ws s2 x2 r2 q2=>⟨kIn r2.1.1,?_⟩);obtain⟨⟨S2,r2⟩,_⟩:=r2;refine on3_out q2 λas bs cs e q2=>?_;subst e;obtain⟨⟨n1,n2⟩,⟨q2⟩⟩:=q2;obtain⟨va,_,rfl,⟨t1,xs,m1,rfl,g1,hx1⟩,vb,_,rfl,⟨t2,ys,m2,rfl,g2,hx2⟩,vc,_,rfl,⟨t3,zs,m3,rfl,g3,hx3⟩,e⟩:=r2;subst e;refine call_zip3 (isTuple_of (S2.hs.keepg _ _ g1)) (isTuple_of (S2.hs.keepg _ _ g2)) (isTuple_of (S2.hs.keepg _ _ g3)) λh' O J hk=>?_;have fr:∀a,HidZ (zaOf s2.heap.objs.size t1 t2 t3) a->s2.heap.get? a=none:=λa q=>by
  have le:s2.heap.objs.size<=a:=q.out (P:=(s2.heap.objs.size<=·)) (an _ 5) (an _ 3) (an _ 4) (aI _) (an _ 1) (an _ 2);cases z:s2.heap.get? a with
  |none=>rfl
  |some o=>exact absurd (Heap.lt_size z) (aW.mpr le)
 refine oaa (S2.hideH (s':={s2 with heap:=h'}) fr hk rfl rfl) λhid ng S3=>?_;refine wpAny_pyIter_zip J.z ?_;cases t with
 |Tuple ts kk pt=>
  refine codeAny_mono (loop_run (turn_zip ok.rm.1 O (by show(y2.g t1).isSome=true;rw[g1];rfl) (by show(y2.g t2).isSome=true;rw[g2];rfl) (by show(y2.g t3).isSome=true;rw[g3];rfl) hx1 hx2 hx3 n1 n2) hid ok ht hb ng S3 ⟨_,_,_,J⟩ q2) λr s3 h=>?_;cases r with
  |ok f=>exact PS.after (Ext.asS x2) (λ_ h=>h) h
  |error e=>exact h
 |_=>exact ht.elim
end
noncomputable abbrev FAcc:=List V->Pw (List V)
noncomputable def ifsW:List FB->FB
 |[],γ,fr,Q=>Q true fr
 |t::ts,γ,fr,Q=>t γ fr (andK (ifsW ts) γ Q)
noncomputable def accW(tg:Tgt)(g:FAcc)(n:Nat):List V->List V->Pw (List V)
 |[],acc,γ,fr,Q=>Q acc fr
 |u::us,acc,γ,fr,Q=>bindW tg u fr λfr1=>g acc γ fr1 λacc2 fr2=>accW tg g n us acc2 γ (fr2.take n) Q
inductive Acc(γ:Ct)(tg:Tgt)(g:FAcc)(us acc:List V)(fr:FrL)(Q:List V->FrL->Prop):Prop
 |mk (h:accW tg g fr.length us acc γ fr Q):Acc γ tg g us acc fr Q
def w1K2(acc:List V)(Q:List V->FrL->Prop)(x:V)(fr:FrL):Prop:=Sz acc.length 4096 (Q (acc++[x]) fr)
def w1K(elt:FV)(γ:Ct)(acc:List V)(Q:List V->FrL->Prop)(b:Bool)(fr:FrL):Prop:=Br b (elt γ fr (w1K2 acc Q)) (Q acc fr)
noncomputable def w1(ifs:List FB)(elt:FV):FAcc:=λacc γ fr Q=>ifsW ifs γ fr (w1K elt γ acc Q)
noncomputable def w2(ifs:List FB)(it:FV)(tg:Tgt)(g:FAcc):FAcc:=λacc γ fr Q=>ifsW ifs γ fr λb fr1=>Br b (it γ fr1 λx fr2=>sm (elemsF x) λus=>Acc γ tg g us acc fr2 Q) (Q acc fr1)
noncomputable def wA(fbs:List FB)(ga:FAcc):FAcc:=λacc γ fr Q=>ifsW fbs γ fr λb fr1=>Br b (ga acc γ fr1 Q) (Q acc fr1)
noncomputable abbrev Fx.acc(Z:Fx)(vs:List V):Fx:={Z with X:=[.list vs]}
inductive IfsW(c:Cx)(k:Nat)(sc:Scope):List Expr->List FB->Prop
 |nil:IfsW c k sc [] []
 |cons {e:Expr} {es:List Expr} {f:FB} {fs:List FB} {b:Bool} (h:SB c k sc e f b) (r:IfsW c k sc es fs):IfsW c k sc (e::es) (f::fs)
noncomputable abbrev ifsM(es:List Expr)(env:Env):Sem Bool:=forIn es true λc r=>if r=true then do let ok ←PySem.isTrue c env (eval c env);pure (ForInStep.yield ok)else pure (ForInStep.yield r)
noncomputable def clauseM(ifs:List Expr)(env:Env)(body ag:Sem Fin):Sem Fin:=do
 let ok ←ifsM ifs env
 if ok then body else ag
section
variable{elt:Expr}{gens:List Comprehension}{scope:Scope}{pos:Pos}{depth:Nat}{it acc:Value}{env:Env}{t i t2 i2:Expr}{ifs ifs2:List Expr}
theorem turn_last(hg:gens[depth]?=some ⟨t,i,ifs,0⟩)(hn:gens[depth+1]?=none):
 compTurn (.ListComp elt gens scope pos) depth it acc env=(do
  standAt i.pos
  match←pyNext it with
  |none=>pure (.done .next)
  |some v=>
   letOwnedTupleGo t it v
   assign t env v
   clauseM ifs env (do
    (do let _ ←call (.builtin "list.append") [acc,←eval elt env])
    again (.compLoop (.ListComp elt gens scope pos) depth it acc env)) (again (.compLoop (.ListComp elt gens scope pos) depth it acc env))):=by
 dsimp only[compTurn];rw[hg,hn];rfl
theorem turn_more(hg:gens[depth]?=some ⟨t,i,ifs,0⟩)(hn:gens[depth+1]?=some ⟨t2,i2,ifs2,0⟩):
 compTurn (.ListComp elt gens scope pos) depth it acc env=(do
  standAt i.pos
  match←pyNext it with
  |none=>pure (.done .next)
  |some v=>
   letOwnedTupleGo t it v
   assign t env v
   clauseM ifs env (do
    let x ←eval i2 env
    standAt i2.pos
    let x ←foldedSetIterable i2 env x
    let _ ←runOwn (.compStart (.ListComp elt gens scope pos) (depth+1) (←holding [x] (pyIter x)) acc env) env
    again (.compLoop (.ListComp elt gens scope pos) depth it acc env)) (again (.compLoop (.ListComp elt gens scope pos) depth it acc env))):=by
 dsimp only[compTurn];rw[hg,hn];rfl
theorem start_ok{c:Cx}{A:Around}{s:Shared}{R:Result->Shared->Prop}(hg:gens[depth]?=some ⟨t,i,ifs,0⟩)
 (h0:codeAny c.M A (.compLoop (.ListComp elt gens scope pos) depth it acc env) R s)
 (h:wpAny c.M A (pyIter it) (λit' s'=>codeAny c.M A (.compLoop (.ListComp elt gens scope pos) depth it' acc env) R s') (notedBy c.M A env λx s'=>R (.error x) s') s):
 codeAny c.M A (.compStart (.ListComp elt gens scope pos) depth it acc env) R s:=by
 refine codeAny_of_tree ?_;show wpAny _ A ((compStart (.ListComp elt gens scope pos) depth it acc env).onRaise (λx=>do noteFrame x env;standAt theWindowsPlace)) _ _ s;refine wpAny_notedAt ?_;dsimp only[compStart];refine(show clausesOf (.ListComp elt gens scope pos)=gens from rfl).symm▸?_;simp only[hg,Option.elim_some,bne_self_eq_false,bX,if_false];refine wpAny_bind (wpAny_askSetting (wpAny_ite ?_));split
 ·first
   |exact wpAny_bind (wpAny_pure (wpAny_pure (And.intro rfl h0)))
   |exact wpAny_pure (And.intro rfl h0)
 ·first
   |exact wpAny_bind (wpAny_rule (wpAny_bind (wpAny_standAt (wpAny_bind (wpAny_mono h (λit' s' h'=>wpAny_pure (And.intro rfl h')) λ_ _ x=>x)))))
   |(refine wpAny_bind (wpAny_rule ?_);exact wpAny_bind (wpAny_standAt (wpAny_bind (wpAny_mono h (λit' s' h'=>wpAny_pure (And.intro rfl h')) λ_ _ x=>x))))
theorem ifs_no{M:Model}{A:Around}{s:Shared}{es:List Expr}{Q:Bool->Shared->Prop}{E:Value->Shared->Prop}(h:Q false s):wpAny M A (forIn es false λc r=>if r=true then do let ok ←PySem.isTrue c env (eval c env);pure (ForInStep.yield ok)else pure (ForInStep.yield r)) Q E s:=by
 induction es with
 |nil=>simp only[gw];exact wpAny_pure h
 |cons e es ih=>
  rw[dZ];exact wpAny_bind (wpAny_pure ih)
end
section
variable{c:Cx}{k:Nat}{sc:Scope}{Z:Fx}{y y':Gl}{fr fr':FrL}{s s':Shared}{A:Around}{b b1 b2:Bool}{fv gv:FV}{ifs:List Expr}{fbs:List FB}{tg:Tgt}{t:Expr}{us vs:List V}{v:V}{x:Value}
theorem ifs_ok(h:IfsW c k sc ifs fbs):J c k sc (λenv=>ifsM ifs env) (ifsW fbs) false (RB c):=by
 induction h with
 |nil=>intro Z y fr s Q ok S q;show wpAny c.M Z.A (forIn [] true _) _ _ _;simp only[gw];exact wpAny_pure ⟨y,fr,true,.refl _ _ _,⟨S,rfl⟩,q⟩
 |@cons e es f fs b h r ih=>
  intro Z y fr s Q ok S q;show wpAny c.M Z.A (forIn (e::es) true _) _ _ _;rw[dZ];refine wpAny_bind (wpAny_bind (h.use ok S q λy1 fr1 b b' s1 e1 r1 q1=>wpAny_pure ?_));obtain⟨S1,rfl⟩:=r1;cases b with
  |true=>exact wpAny_mono (ih Z y1 fr1 s1 Q ok S1 q1.t) (λb s2 h2=>by obtain⟨y2,fr2,w,e2,r2,q2⟩:=h2;exact⟨y2,fr2,w,e1.off.trans e2,r2,q2⟩) λ_ _ x=>x
  |false=>exact ifs_no ⟨y1,fr1,false,e1.off,⟨S1,rfl⟩,q1.f⟩
theorem St.tmpApp{Q E:Value->Shared->Prop}(S:St c (Z.acc vs) y fr s)(r:Rep y.g v x)(hl:vs.length<=4096)(q:∀s',St c (Z.acc (vs++[v])) y fr s'->Q .none s'):wpAny c.M A (call (.builtin "list.append") [.ref (y.L (.tmp 0) 0),x]) Q E s:=by
 obtain⟨xs,n,h1,h2⟩:=(show LstAt s.heap y.g (y.L (.tmp 0) 0) vs from S.hs.node (.tmp 0) (.list vs) rfl);have i0:InO (om fr [.list vs]) (.tmp 0) 0:=⟨.list vs,rfl,.head _⟩;have nf:∀a,frameOf Z.env a->a≠y.L (.tmp 0) 0:=λa fa z=>(S.hs.frm a fa).2.2.2 _ _ i0 z.symm;refine append_at h1 (λh' hs hn=>q {s with heap:=h'} ?_) (by rw[aw,h2.length];exact small_4096 hl);have hK:HS c Z.K y.g (om fr [.list (vs++[v])]) y.L (frameOf Z.env) {s with heap:=h'}:=by
  refine S.hs.set (l:=.tmp 0) (w':=.list (vs++[v])) (.inl rfl) i0 (λb o n _ e=>(hs.2 b n).trans e) (by show(h'.get? _).isSome=true;rw[hs.2 _ (nf _ (.inl rfl))];exact(S.hs.frm _ (.inl rfl)).2.2.1) rfl rfl (λx n=>(x,n)) (λz m i=>⟨?_,rfl⟩) (λ_ _ _ _ _ _ e=>Prod.mk.inj e) (λz w e=>?_) ⟨xs++[x],n+1,hn.trans (by simp),h2.snoc r⟩
  ·obtain⟨w,e,hm⟩:=i;cases z with
   |var i=>exact⟨w,e,hm⟩
   |tmp j=>cases j with
    |zero=>obtain rfl:=ab.inj e;exact⟨_,rfl,hm⟩
    |succ j=>exact nos e
  ·cases z with
   |var i=>exact .inr ⟨(λz=>nomatch z),e,λ_=>rfl⟩
   |tmp j=>cases j with
    |zero=>refine(ab.inj e)▸?_;exact .inl ⟨rfl,rfl⟩
    |succ j=>exact nos e
 refine S.of (Z:=Z.acc vs) hK (λa o fa _ e=>(hs.2 a (nf a fa)).trans e) (λm h=>h.sameBut hs (nf _ (.inl rfl))) λi w e=>iea w e (λ_ h=>h)
inductive AccB(c:Cx)(Z:Fx)(y:Gl)(Q:List V->FrL->Prop)(s':Shared):Prop
 |mk (y':Gl) (fr:FrL) (acc:List V) (e:Ext (Z.acc []) false y y') (S:St c (Z.acc acc) y' fr s') (q:Q acc fr):AccB c Z y Q s'
theorem Ext.acc{vs ws:List V}(e:Ext (Z.acc vs) b y y'):Ext (Z.acc ws) b y y':=⟨e.g,e.r0,e.r1,e.tm⟩
theorem Ext.d{vs:List V}(e:Ext (Z.acc vs) b y y'):y'.L (.tmp 0) 0=y.L (.tmp 0) 0:=e.tm 0 (br _) 0
theorem AccB.after{Q:List V->FrL->Prop}{vs:List V}(e:Ext (Z.acc vs) b y y')(h:AccB c Z y' Q s):AccB c Z y Q s:=by
 obtain⟨y2,fr,acc,e2,S,q⟩:=h;exact⟨y2,fr,acc,(e.acc.off).trans e2,S,q⟩
def AL(c:Cx)(k:Nat)(sc:Scope)(E:Expr)(depth:Nat)(t:Expr)(tg:Tgt)(g:FAcc):Prop:=
 ∀Z y fr s acc us I H T l Q,Turn c Z.A y.g t I H us T->Fx.Ok k sc Z->Hid c Z H->(∀a,H a->y.g a=none)->St c ((Z.acc acc).hid H s.heap) y fr s->T 0 s.heap->accW tg g l us acc ⟨c,k⟩ fr Q->
  codeAny c.M Z.A (.compLoop E depth (.ref I) (.ref (y.L (.tmp 0) 0)) Z.env) (λr s'=>r=.ok .next/\AccB c Z y Q s') s
def TurnP(c:Cx)(Z:Fx)(y:Gl)(E:Expr)(depth:Nat)(I:Addr)(Q:List V->FrL->Prop)(fin:Fin)(s':Shared):Prop:=fin=.again (.compLoop E depth (.ref I) (.ref (y.L (.tmp 0) 0)) Z.env)/\AccB c Z y Q s'
inductive AccI(c:Cx)(k:Nat)(Z:Fx)(y:Gl)(H:Addr->Prop)(us:List V)(T:Nat->Heap->Prop)(tg:Tgt)(g:FAcc)(l:Nat)(Q:List V->FrL->Prop)(n:Nat)(s:Shared):Prop
 |mk (i:Nat) (y':Gl) (fr:FrL) (acc:List V) (hi:i<=us.length) (hn:n=us.length-i) (e:Ext (Z.acc []) false y y') (ng:∀a,H a->y'.g a=none) (S:St c ((Z.acc acc).hid H s.heap) y' fr s) (hT:T i s.heap) (q:accW tg g l (us.drop i) acc ⟨c,k⟩ fr Q):AccI c k Z y H us T tg g l Q n s
theorem loop_core{elt:Expr}{gens:List Comprehension}{scope:Scope}{pos:Pos}{depth:Nat}{p:Pos}{body:Value->Value->Env->Sem Fin}{ga:FAcc}
 (hturn:∀it acc env,compTurn (.ListComp elt gens scope pos) depth it acc env=(do
   standAt p
   match←pyNext it with
   |none=>pure (.done .next)
   |some v=>
    letOwnedTupleGo t it v
    assign t env v
    clauseM ifs env (body it acc env) (again (.compLoop (.ListComp elt gens scope pos) depth it acc env)))) (ht:TgtOk sc t tg) (hi:IfsW c k sc ifs fbs)
 (step:∀Z y fr s acc I Q,Fx.Ok k sc Z->St c (Z.acc acc) y fr s->ga acc ⟨c,k⟩ fr Q->wpAny c.M Z.A (body (.ref I) (.ref (y.L (.tmp 0) 0)) Z.env) (TurnP c Z y (.ListComp elt gens scope pos) depth I Q) noE s):
 AL c k sc (.ListComp elt gens scope pos) depth t tg (wA fbs ga):=by
 intro Z y fr s acc us I H T l Q W ok hid ng S hT q;refine codeAny_loop' rfl (AccI c k Z y H us T tg (wA fbs ga) l Q) (λn s hI=>?_) us.length ⟨0,y,fr,acc,aZ _,rfl,.refl _ _ _,ng,S,hT,q⟩;obtain⟨i,y1,fr1,acc1,hi1,rfl,e1,ng1,S1,hT1,q1⟩:=hI;show wpAny _ Z.A ((compTurn (.ListComp elt gens scope pos) depth (.ref I) (.ref (y.L (.tmp 0) 0)) Z.env).onRaise (λx=>do noteFrame x Z.env;theTreesLotGoes x)) _ _ s;refine wpAny_noted ?_;rw[hturn];refine wpAny_bind (wpAny_standAt (wpAny_bind ?_));by_cases hlt:i<us.length
 ·refine oea (drop_get hlt) λu hu hd=>?_;rw[hd]at q1;refine wpAny_mono (W.next (Z.acc acc1) i u y1 fr1 s (λv=>wpAny c.M Z.A (assign t Z.env v) (λ_ s2=>wpAny c.M Z.A (clauseM ifs Z.env (body (.ref I) (.ref (y.L (.tmp 0) 0)) Z.env) (again (.compLoop (.ListComp elt gens scope pos) depth (.ref I) (.ref (y.L (.tmp 0) 0)) Z.env))) (λfin s3=>fin=.again (.compLoop (.ListComp elt gens scope pos) depth (.ref I) (.ref (y.L (.tmp 0) 0)) Z.env)/\∃m,m<us.length-i/\AccI c k Z y H us T tg (wA fbs ga) l Q m s3) noE s2) noE) noE ⟨hid.nK,hid.n0⟩ hu e1.g.1 ng1 hT1 S1 λy2 val s2 e2 ng2 hT2 S2 r2=>?_) (λr s1 z=>?_) λ_ _ x=>x.elim
  ·refine St.bindW (Z:=(Z.acc acc1).hid H s2.heap) ⟨ok.sc,ok.rm⟩ ok.rm.1 ht S2 r2 q1 λfr3 s3 S3 q3=>?_;have e12:Ext (Z.acc []) false y y2:=e1.trans (e2.acc.off);have hD:=e12.d;have fin:∀{y4:Gl} {fr4:FrL} {acc4:List V} {s4:Shared},Ext ((Z.hid H s2.heap).acc []) false y2 y4->St c ((Z.hid H s2.heap).acc acc4) y4 fr4 s4->accW tg (wA fbs ga) l (us.drop (i+1)) acc4 ⟨c,k⟩ (fr4.take l) Q->∃m,m<us.length-i/\AccI c k Z y H us T tg (wA fbs ga) l Q m s4:=λ{y4 fr4 acc4 s4} e4 S4 q4=>by
    have e24:Ext (Z.acc []) false y2 y4:=⟨hid.ext e4.g,e4.r0,e4.r1,e4.tm⟩;refine⟨us.length-(i+1),f8 _ _ (by assumption),i+1,y4,fr4.take l,acc4,hlt,rfl,e12.trans e24,Hid.ng (W.live _ _ hT2) ng2 e4.g,?_,W.still hid (X:=[.list acc1]) (X':=[.list acc4]) hT2 S2 S4 e12.g.1 (e12.trans e24).g.1,q4⟩;rw[Fx.hid,hidK_eq (hid.after S4 (W.live _ _ hT2))];exact St.take (Z:=(Z.hid H s2.heap).acc acc4) S4 l
   refine wpAny_bind ((ifs_ok hi).use (Z:=(Z.hid H s2.heap).acc acc1) ⟨ok.sc,ok.rm⟩ S3 q3 λy4 fr4 b b' s4 e4 r4 q4=>?_);obtain⟨S4,rfl⟩:=r4;cases b with
   |true=>
    rw[if_pos rfl,←hD,←e4.d];refine wpAny_mono (step (Z.hid H s2.heap) y4 fr4 s4 acc1 I _ ⟨ok.sc,ok.rm⟩ S4 q4.t) (λfin' s5 h5=>?_) λ_ _ x=>x;obtain⟨hf,y5,fr5,acc5,e5,S5,q5⟩:=h5;exact⟨hf,fin (e4.acc.off.trans e5) S5 q5⟩
   |false=>
    exact wpAny_pure ⟨rfl,fin e4.acc.off S4 q4.f⟩
  ·obtain⟨v,rfl,z⟩:=z;exact wpAny_bind (wpAny_mono z (λ_ _ h=>wpAny_bind (wpAny_mono h (λ_ _ h=>wpAny_mono h (λfin s3 h=>by obtain⟨rfl,h⟩:=h;exact .inl ⟨rfl,h⟩) λ_ _ x=>x.elim) λ_ _ x=>x.elim)) λ_ _ x=>x.elim)
 ·have hie:i=us.length:=bC hi1 (aW.mp hlt);subst hie;rw[dW]at q1;refine wpAny_mono (W.done (Z.acc acc1) y1 fr1 s (λs'=>St c (Z.acc acc1) y1 fr1 s') noE ⟨hid.nK,hid.n0⟩ ng1 hT1 S1 λs' S'=>S') (λr s1 z=>?_) λ_ _ x=>x.elim;obtain⟨rfl,S2⟩:=z;exact wpAny_pure ⟨rfl,y1,fr1,acc1,e1,S2,q1⟩
end
section
variable{c:Cx}{k:Nat}{sc:Scope}{fv gv:FV}{ifs ifs2:List Expr}{fbs:List FB}{tg tg2:Tgt}{elt t t2 i i2:Expr}{gens:List Comprehension}{scope:Scope}{pos:Pos}{depth:Nat}{b:Bool}{g:FAcc}
theorem SL.last(hg:gens[depth]?=some ⟨t,i,ifs,0⟩)(hn:gens[depth+1]?=none)(ht:TgtOk sc t tg)(hi:IfsW c k sc ifs fbs)(he:SV c k sc elt fv b):
 AL c k sc (.ListComp elt gens scope pos) depth t tg (w1 fbs fv):=by
 refine loop_core (ga:=λacc γ fr Q=>fv γ fr λx fr2=>Sz acc.length 4096 (Q (acc++[x]) fr2)) (λ_ _ _=>turn_last hg hn) ht hi λZ y fr s acc I Q ok S q=>?_;refine wpAny_bind (wpAny_bind (he.use (Z:=Z.acc acc) ⟨ok.sc,ok.rm⟩ S q λy1 fr1 x val s1 e1 r1 q1=>?_));refine(e1.d)▸?_;exact wpAny_bind (St.tmpApp r1.1 r1.2 q1.1 λs2 S2=>wpAny_pure (wpAny_pure ⟨by rw[e1.d],y1,fr1,_,e1.acc.off,S2,q1.2⟩))
theorem SL.outer(hg:gens[depth]?=some ⟨t,i,ifs,0⟩)(hn:gens[depth+1]?=some ⟨t2,i2,ifs2,0⟩)(ht:TgtOk sc t tg)(ht2:TgtOk sc t2 tg2)(hi:IfsW c k sc ifs fbs)(hd:SV c k sc i2 fv b)(hf:∀env x,foldedSetIterable i2 env x=pure x)
 (inner:AL c k sc (.ListComp elt gens scope pos) (depth+1) t2 tg2 g):AL c k sc (.ListComp elt gens scope pos) depth t tg (w2 fbs fv tg2 g):=by
 refine loop_core (ga:=λacc γ fr Q=>fv γ fr λx fr2=>sm (elemsF x) λus=>Acc γ tg2 g us acc fr2 Q) (λ_ _ _=>turn_more hg hn) ht hi λZ y fr s acc I Q ok S q=>?_;refine wpAny_bind (hd.use (Z:=Z.acc acc) ⟨ok.sc,ok.rm⟩ S q λy1 fr1 x val s1 e1 r1 q1=>?_);refine oea (sm.out q1) λus eu q1=>?_;obtain⟨q1⟩:=q1;refine wpAny_bind (wpAny_standAt (wpAny_bind (wpAny_of_eq (hf _ _) (wpAny_bind (wpAny_holding ?_)))));refine St.iter (Z:=Z.acc acc) ok.rm.1 ht2 r1.1 r1.2 eu λJ T s2 W hT fr0 kp hg ho=>?_;refine oaa (r1.1.hideH (H:=(·=J)) (λa z=>z▸fr0) kp hg ho) λhid ng S2=>?_;have run:=inner Z y1 fr1 s2 acc us J (·=J) T fr1.length Q W ok ⟨hid.nK,hid.n0⟩ ng S2 hT q1;rw[e1.d]at run;refine wpAny_bind (wpAny_runOwn ?_);have R0:codeAny c.M Z.A (.compLoop (.ListComp elt gens scope pos) (depth+1) (.ref J) (.ref (y.L (.tmp 0) 0)) Z.env) (λr s'=>match r with
  |.ok f=>wpAny c.M Z.A (again (.compLoop (.ListComp elt gens scope pos) depth (.ref I) (.ref (y.L (.tmp 0) 0)) Z.env)) (TurnP c Z y (.ListComp elt gens scope pos) depth I Q) noE s'
  |.error e=>cameBackBy c.M Z.A Z.env noE e s') s2:=codeAny_mono run λr' s5 h5=>by
  obtain⟨rfl,h5⟩:=h5;exact wpAny_pure ⟨rfl,h5.after e1⟩
 exact start_ok hn R0 (W.self 0 _ _ _ hT R0)
end
theorem cellsFrom_append:∀(names:List (Str×NameKind)) (n:Nat) (acc:List (Str×Addr)),cellsFrom n names acc=cellsFrom n names []++acc
 |[],_,_=>rfl
 |(x,kd)::r,n,acc=>by
  dsimp only[cellsFrom];split
  ·simp only[cellsFrom_append r (n+1) ((x,n)::acc),cellsFrom_append r (n+1) [(x,n)]];simp
  ·exact cellsFrom_append r n acc
theorem cellsFrom_mem:∀(names:List (Str×NameKind)) (n:Nat) (x:Str) (a:Addr),(x,a)∈cellsFrom n names []->(x,NameKind.cell)∈names:=by
 intro names
 induction names with
 |nil=>intro n x a h;exact(aN h).elim
 |cons p r ih=>
  intro n x a h;obtain⟨y,kd⟩:=p;dsimp only[cellsFrom]at h;by_cases hk:(kd==NameKind.cell)=true
  ·rw[if_pos hk,cellsFrom_append]at h;rcases aO.mp h with h|h
   ·exact .tail _ (ih _ x a h)
   ·rw[(Prod.mk.inj (af.mp h)).1,(by simpa using hk:kd=.cell)];exact .head _
  ·rw[if_neg hk]at h;exact .tail _ (ih _ x a h)
theorem lookup_of_mem_keys{α:Type}{l:List (Str×α)}{x:Str}(h:x∈l.map (·.1)):∃a,l.lookup x=some a:=by
 induction l with
 |nil=>exact(aN h).elim
 |cons p l ih=>
  rw[show p=(p.1,p.2)from rfl,aR];by_cases q:x=p.1
  ·rw[beq_iff_eq.mpr q];exact⟨_,rfl⟩
  ·rw[beq_eq_false_iff_ne.mpr q];exact ih ((aj.mp h).resolve_left q)
theorem cellsFrom_has:∀(names:List (Str×NameKind)) (n:Nat) (x:Str),(x,NameKind.cell)∈names->x∈(cellsFrom n names []).map (·.1):=by
 intro names
 induction names with
 |nil=>intro n x h;exact(aN h).elim
 |cons p r ih=>
  intro n x h;obtain⟨y,kd⟩:=p;dsimp only[cellsFrom];rcases aj.mp h with h|h
  ·have e:=Prod.mk.inj h;refine(e.1)▸?_;refine(e.2)▸?_;rw[if_pos (by rfl),cellsFrom_append,ah];exact bm _ (.head _)
  ·by_cases hk:(kd==NameKind.cell)=true
   ·rw[if_pos hk,cellsFrom_append,ah];exact aK _ (ih _ x h)
   ·rw[if_neg hk];exact ih _ x h
theorem lookup_append{α:Type}(l l':List (Str×α))(x:Str):(l++l').lookup x=(l.lookup x).or (l'.lookup x):=by
 induction l with
 |nil=>rfl
 |cons p l ih=>
  rw[List.cons_append,show p=(p.1,p.2)from rfl,aR,aR];cases q:x==p.1 with
  |true=>rfl
  |false=>exact ih
noncomputable def clFrom(env:Env):List (Str×NameKind)->List (Str×Addr)->List (Str×Addr)
 |[],acc=>acc
 |(n,kd)::r,acc=>if kd==.free then clFrom env r ((n,(env.cells.lookup n).getD 0)::acc)else clFrom env r acc
set_option smartUnfolding false in
theorem clFrom_c{env:Env}{n:Str}{kd:NameKind}{r:List (Str×NameKind)}{acc:List (Str×Addr)}:clFrom env ((n,kd)::r) acc=if kd==.free then clFrom env r ((n,(env.cells.lookup n).getD 0)::acc)else clFrom env r acc:=rfl
theorem closureFor_eq{scope:Scope}{env:Env}(h:∀x∈scope.names,x.2=.free->∃a,env.cells.lookup x.1=some a):closureFor scope env=pure (clFrom env scope.names []):=by
 have main:∀(names:List (Str×NameKind)) (acc:List (Str×Addr)),(∀x∈names,x.2=.free->∃a,env.cells.lookup x.1=some a)->
  (forIn names acc λx cs=>if(x.2==NameKind.free)=true then do let a ←cellOf env x.1;pure (ForInStep.yield ((x.1,a)::cs))else pure (ForInStep.yield cs):Sem (List (Str×Addr)))=pure (clFrom env names acc):=by
  intro names
  induction names with
  |nil=>intro acc _;rfl
  |cons x r ih=>
   intro acc h;obtain⟨n,kd⟩:=x;simp only[dZ];simp only[clFrom_c];by_cases q:kd=.free
   ·subst q;obtain⟨a,ha⟩:=h (n,.free) (.head _) rfl;have:cellOf env n=pure a:=by unfold cellOf;rw[ha]
    simp only[if_true,this,ha,cN];exact ih _ λy hy=>h y (.tail _ hy)
   ·have:(kd==NameKind.free)=false:=by simpa using q
    simp only[this,bX,if_false];exact ih _ λy hy=>h y (.tail _ hy)
 exact(congrArg (λm:Sem (List (Str×Addr))=>m>>=λs=>pure s) (main scope.names [] h)).trans rfl
theorem clFrom_append(env:Env):∀(names:List (Str×NameKind)) (acc:List (Str×Addr)),clFrom env names acc=clFrom env names []++acc
 |[],_=>rfl
 |(x,kd)::r,acc=>by
  simp only[clFrom_c,clFrom_c];split
  ·simp only[clFrom_append env r (_::acc),clFrom_append env r [_]];simp
  ·exact clFrom_append env r acc
theorem clFrom_mem(env:Env):∀(names:List (Str×NameKind)) (x:Str) (a:Addr),(x,a)∈clFrom env names []->(x,NameKind.free)∈names/\a=(env.cells.lookup x).getD 0:=by
 intro names
 induction names with
 |nil=>intro x a h;exact(aN h).elim
 |cons p r ih=>
  intro x a h;obtain⟨y,kd⟩:=p;simp only[clFrom_c]at h;by_cases hk:(kd==NameKind.free)=true
  ·rw[if_pos hk,clFrom_append]at h;rcases aO.mp h with h|h
   ·exact(ih x a h).imp_left (.tail _)
   ·have e:=Prod.mk.inj (af.mp h);rw[e.1,e.2,←(by simpa using hk:kd=.free)];exact⟨.head _,rfl⟩
  ·rw[if_neg hk]at h;exact(ih x a h).imp_left (.tail _)
theorem clFrom_has(env:Env):∀(names:List (Str×NameKind)) (x:Str),(x,NameKind.free)∈names->x∈(clFrom env names []).map (·.1):=by
 intro names
 induction names with
 |nil=>intro x h;exact(aN h).elim
 |cons p r ih=>
  intro x h;obtain⟨y,kd⟩:=p;simp only[clFrom_c];rcases aj.mp h with h|h
  ·have e:=Prod.mk.inj h;rw[←e.1,←e.2,if_pos (by rfl),clFrom_append,ah];exact bm _ (.head _)
  ·by_cases hk:(kd==NameKind.free)=true
   ·rw[if_pos hk,clFrom_append,ah];exact aK _ (ih x h)
   ·rw[if_neg hk];exact ih x h
theorem mem_lookup_nodup{α:Type}{l:List (Str×α)}{x:Str}{a:α}(nd:(l.map (·.1)).Nodup)(h:(x,a)∈l):l.lookup x=some a:=by
 induction l with
 |nil=>exact(aN h).elim
 |cons p l ih=>
  rw[aD,aE]at nd;rcases aj.mp h with h|h
  ·refine(h)▸?_;exact List.lookup_cons_self
  ·have:(x==p.1)=false:=beq_eq_false_iff_ne.mpr λz=>nd.1 (z▸c7 (f:=Prod.fst) h);rw[show p=(p.1,p.2)from rfl,aR,this];exact ih nd.2 h
noncomputable def relabelS(scope sc:Scope):Scope:=
 {scope with names:=scope.names.map λ(n,k)=>if(k==.free&&sc.kind==.function&&sc.names.lookup n==some .cell)then(n,.cell)else(n,k)}
theorem lookup_mapV{α β:Type}(f:Str->α->β)(l:List (Str×α))(x:Str):(l.map λp=>(p.1,f p.1 p.2)).lookup x=(l.lookup x).map (f x):=by
 induction l with
 |nil=>rfl
 |cons p l ih=>
  rw[aD,show p=(p.1,p.2)from rfl,aR,aR,ih];by_cases q:x=p.1
  ·rw[beq_iff_eq.mpr q];exact congrArg some (congrArg (f · p.2) q.symm)
  ·rw[beq_eq_false_iff_ne.mpr q]
theorem relabelS_lookup{sc:Scope}(names:List (Str×NameKind))(x:Str):(names.map λ(n,k)=>if(k==NameKind.free&&sc.kind==.function&&sc.names.lookup n==some .cell)then(n,NameKind.cell)else(n,k)).lookup x=(names.lookup x).map λk=>if(k==NameKind.free&&sc.kind==.function&&sc.names.lookup x==some .cell)then NameKind.cell else k:=by
 simp only[←lookup_mapV (λn k=>if(k==NameKind.free&&sc.kind==.function&&sc.names.lookup n==some .cell)then NameKind.cell else k) names x];refine congrArg (List.lookup x) (c8 λp _=>?_);obtain⟨n,k⟩:=p;split<;>rfl
structure CompS(sc scope:Scope)(cs:List Nat):Prop where
 kind:scope.kind=.function
 fkind:sc.kind=.function
 nodup:(scope.names.map (·.1)).Nodup
 free:∀x∈scope.names,x.2=.free->sc.names.lookup x.1=some .cell
 capt:∀i∈cs,scope.names.lookup (nm i)=some .free
 all:∀x∈scope.names,x.2=.free->∃i∈cs,nm i=x.1
section
variable{c:Cx}{env:Env}{s s':Shared}{A:Around}{k:Nat}{sc scope:Scope}{cs:List Nat}
noncomputable def compEnv(scope:Scope)(env:Env)(C:Addr):Env:=
 {scope:=relabel scope env,locals:=C,globals:=env.globals,cells:=cellsFrom (C+1) scope.names (clFrom env scope.names []),qual:=env.qual,func:=none,code:=env.code,frame:=env.frame,builtins:=env.builtins}
theorem relabel_eq(hs:env.scope=sc):relabel scope env=relabelS scope sc:=by subst hs;rfl
theorem wpAny_newCompEnv{M:Model}{Q:Env->Shared->Prop}{E:Value->Shared->Prop}{cl:List (Str×Addr)}(h:Q {scope:=scope,locals:=s.heap.objs.size,globals:=env.globals,cells:=cellsFrom (s.heap.objs.size+1) scope.names cl,qual:=env.qual,func:=none,code:=env.code,frame:=env.frame,builtins:=env.builtins}
 {s with heap:=pushCells (s.heap.push {cls:=.type "dict",data:=.dict #[]}) scope.names}):
 wpAny M A (newFunctionEnv scope env.globals cl [] env.qual none .none (some env)) Q E s:=by
 simp only[newFunctionEnv,Option.isSome_some,if_true];refine wpAny_bind (wpAny_alloc ?_);refine wpAny_bind (wpAny_layCells _ (λname kind cells=>by cases hkc:kind==NameKind.cell<;>simp[hkc]) _ _ _ _ ?_);refine(show({s with heap:=s.heap.push {cls:=.type "dict",data:=.dict #[]}}:Shared).heap.objs.size=s.heap.objs.size+1 from Heap.size_push ..).symm▸?_;exact wpAny_bind (wpAny_pure (wpAny_pure h))
theorem compEnv_kind(hs:env.scope=sc)(H:CompS sc scope cs)(C:Addr)(x:Str):(compEnv scope env C).kindOf x=some .cell↔((x,NameKind.cell)∈scope.names∨(x,NameKind.free)∈scope.names):=by
 show(relabel scope env).names.lookup x=some .cell↔_;rw[relabel_eq hs];show(scope.names.map _).lookup x=_↔_;rw[relabelS_lookup];constructor
 ·intro h;refine oea (dj.mp h) λkd h1 h2=>?_;have hm:=mem_of_lookup h1;clear h1;by_cases q:kd=.free
  ·refine q▸?_;exact .inr hm
  ·have:(kd==NameKind.free)=false:=by simpa using q
   simp only[this,d7,bX,if_false]at h2;refine h2▸?_;exact .inl hm
 ·rintro(h|h)
  ·rw[mem_lookup_nodup H.nodup h];rfl
  ·rw[mem_lookup_nodup H.nodup h];have:=H.free _ h rfl;simp[this,H.fkind]
theorem compEnv_lookup(ok:EnvOk c env)(hs:env.scope=sc)(H:CompS sc scope cs)(C:Addr)(x:Str)(a:Addr)(hk:(compEnv scope env C).kindOf x=some .cell)(h:(compEnv scope env C).cells.lookup x=some a):
 ((x,a)∈cellsFrom (C+1) scope.names [])∨((x,NameKind.free)∈scope.names/\env.kindOf x=some .cell/\env.cells.lookup x=some a):=by
 have h:(cellsFrom (C+1) scope.names (clFrom env scope.names [])).lookup x=some a:=h;rw[cellsFrom_append,lookup_append]at h;cases q:(cellsFrom (C+1) scope.names []).lookup x with
 |some b=>replace h:=(q)▸h;injection h with h;subst h;exact .inl (mem_of_lookup q)
 |none=>
  rw[q]at h;obtain⟨h1,h2⟩:=clFrom_mem env scope.names x a (mem_of_lookup h);have hkc:env.kindOf x=some .cell:=by unfold Env.kindOf;refine(hs)▸?_;exact H.free _ h1 rfl
  obtain⟨b,hb⟩:=ok.cells x hkc;rw[hb]at h2;exact .inr ⟨h1,hkc,by rw[hb,h2];rfl⟩
theorem compEnv_capt(ok:EnvOk c env)(hs:env.scope=sc)(H:CompS sc scope cs)(C:Addr)(x:Str)(h:(x,NameKind.free)∈scope.names):(compEnv scope env C).kindOf x=some .cell/\env.kindOf x=some .cell/\∃a,env.cells.lookup x=some a/\(compEnv scope env C).cells.lookup x=some a:=by
 have hk:=(compEnv_kind hs H C x).mpr (.inr h);have hkc:env.kindOf x=some .cell:=by unfold Env.kindOf;refine(hs)▸?_;exact H.free _ h rfl
 obtain⟨b,hb⟩:=ok.cells x hkc;refine⟨hk,hkc,b,hb,?_⟩;show(cellsFrom (C+1) scope.names (clFrom env scope.names [])).lookup x=some b;rw[cellsFrom_append,lookup_append];have h1:(cellsFrom (C+1) scope.names []).lookup x=none:=by
  cases q:(cellsFrom (C+1) scope.names []).lookup x with
  |none=>rfl
  |some a=>
   have:=cellsFrom_mem _ _ _ _ (mem_of_lookup q);have e1:=mem_lookup_nodup H.nodup this;have e2:=mem_lookup_nodup H.nodup h;replace e2:=(e1)▸e2;cases e2
 rw[h1];obtain⟨a,ha⟩:=lookup_of_mem_keys (clFrom_has env scope.names x h);have:=(clFrom_mem env scope.names x a (mem_of_lookup ha)).2;rw[hb]at this;show(clFrom env scope.names []).lookup x=some b;rw[ha,this];rfl
end
noncomputable def capF(cs:List Nat):FrL->FrL
 |[]=>[]
 |p::r=>match memN p.1 cs with|true=>p::capF cs r|false=>capF cs r
noncomputable def backF(cs:List Nat)(fr2:FrL):FrL->FrL
 |[]=>[]
 |p::r=>match memN p.1 cs with
  |true=>(match getF fr2 p.1 with|some w=>(p.1,w)::backF cs fr2 r|none=>backF cs fr2 r)
  |false=>p::backF cs fr2 r
def cmpnK2(cs:List Nat)(Q:V->FrL->Prop)(fr1:FrL)(acc:List V)(fr2:FrL):Prop:=Q (.lst acc) (backF cs fr2 fr1)
def cmpnK(cs:List Nat)(tg:Tgt)(g:FAcc)(γ:Ct)(Q:V->FrL->Prop)(x:V)(fr1:FrL):Prop:=sm (elemsF x) λus=>Acc γ tg g us [] (capF cs fr1) (cmpnK2 cs Q fr1)
noncomputable def fComp(cs:List Nat)(f:FV)(tg:Tgt)(g:FAcc):FV:=λγ fr Q=>f γ fr (cmpnK cs tg g γ Q)
def asgCK(i:Nat)(Q:Fw->FrL->Prop)(x:V)(fr1:FrL):Prop:=Q .nxt (setF fr1 i (.v x))
noncomputable def fAsgC(i:Nat)(f:FV):FS:=λγ fr Q=>f γ fr (asgCK i Q)
theorem getF_hd{p:Nat×MW}{r:FrL}{i:Nat}(z:aT p.1 i=true):getF (p::r) i=some p.2:=by dsimp only[getF];rw[z]
theorem getF_tl{p:Nat×MW}{r:FrL}{i:Nat}(z:aT p.1 i=false):getF (p::r) i=getF r i:=by dsimp only[getF];rw[z]
theorem capF_get{cs:List Nat}{i:Nat}{w:MW}:∀{fr:FrL},getF (capF cs fr) i=some w->memN i cs=true/\getF fr i=some w:=by
 intro fr
 induction fr with
 |nil=>intro h;exact nos h
 |cons p r ih=>
  intro h;dsimp only[capF]at h;cases z:aT p.1 i with
  |true=>
   rw[getF_hd z];cases hm:memN p.1 cs with
   |true=>rw[hm]at h;dsimp only at h;rw[getF_hd z]at h;exact⟨az z▸hm,h⟩
   |false=>replace h:=(hm)▸h;rw[az z,(ih h).1]at hm;injection hm
  |false=>
   rw[getF_tl z];cases hm:memN p.1 cs with
   |true=>rw[hm]at h;dsimp only at h;rw[getF_tl z]at h;exact ih h
   |false=>rw[hm]at h;exact ih h
theorem backF_get{cs:List Nat}{fr2:FrL}{i:Nat}{w:MW}:∀{fr:FrL},getF (backF cs fr2 fr) i=some w->memN i cs=true/\getF fr2 i=some w∨memN i cs=false/\getF fr i=some w:=by
 intro fr
 induction fr with
 |nil=>intro h;exact nos h
 |cons p r ih=>
  intro h;dsimp only[backF]at h;cases z:aT p.1 i with
  |true=>
   have z':=az z;rw[getF_hd z];cases hm:memN p.1 cs with
   |true=>
    rw[hm]at h;cases hg:getF fr2 p.1 with
    |none=>
     rw[hg]at h;rcases ih h with h|h
     ·exact .inl h
     ·rw[←z',hm]at h;cases h.1
    |some w0=>replace h:=(hg)▸h;dsimp only at h;replace h:=(getF_hd (p:=(p.1,w0)) z)▸h;injection h with h;refine h▸?_;refine(z')▸?_;exact .inl ⟨hm,hg⟩
   |false=>rw[hm]at h;dsimp only at h;rw[getF_hd z]at h;exact .inr ⟨z'▸hm,h⟩
  |false=>
   rw[getF_tl z];cases hm:memN p.1 cs with
   |true=>
    replace h:=(hm)▸h;cases hg:getF fr2 p.1 with
    |none=>rw[hg]at h;exact ih h
    |some w0=>replace h:=(hg)▸h;dsimp only at h;rw[getF_tl (p:=(p.1,w0)) z]at h;exact ih h
   |false=>replace h:=(hm)▸h;dsimp only at h;rw[getF_tl z]at h;exact ih h
section
variable{c:Cx}{K g g':GM}{O:OM}{L:LM}{F F':Addr->Prop}{k:Nat}{sc scope:Scope}{cs:List Nat}{Z:Fx}{y y':Gl}{fr fr2:FrL}{s s3 s':Shared}{C D:Addr}
theorem HS.more(h:HS c K g O L F s)(k:∀b o,s.heap.get? b=some o->s'.heap.get? b=some o)(hg:s'.gens=s.gens)(ho:s'.os=s.os)(hF:∀a,F' a->F a∨s.heap.get? a=none/\(s'.heap.get? a).isSome=true):HS c K g O L F' s':=by
 refine⟨h.base,λb o e=>k b o (h.keepK b o e),λb o e=>k b o (h.keepg b o e),hg.trans h.gens,ho.trans h.os,λl w e=>h.stay (T:=λ_=>False) (λb o _ e=>k b o e) (.refl g) e λ_ _ z=>z,h.inj,h.own,λa fa=>?_⟩;rcases hF a fa with fa|⟨e,lv⟩
 ·refine oaaa (h.frm a fa) λh1 h2 h3 h4=>?_;exact iaaa h1 h2 (lives_keep (k a) h3) h4
 ·refine oaaa (h.fresh e) λh1 h2 _ h4=>?_;exact iaaa h1 h2 lv h4
def CapA(scope:Scope)(env:Env)(a:Addr):Prop:=∃x,(x,NameKind.free)∈scope.names/\env.cells.lookup x=some a
noncomputable def srcC(cs:List Nat)(x:Lbl):Option Lbl:=match x with
 |.var i=>(match memN i cs with|true=>some (.var i)|false=>none)
 |.tmp _=>none
theorem srcC_eq(i:Nat):srcC cs (.var i)=match memN i cs with|true=>some (.var i)|false=>none:=rfl
theorem srcC_var{i:Nat}{x:Lbl}(h:srcC cs x=some (.var i)):x=.var i/\memN i cs=true:=by
 cases x with
 |tmp j=>exact nos h
 |var j=>
  rw[srcC_eq]at h;cases q:memN j cs with
  |true=>replace h:=(q)▸h;injection h with h;injection h with h;subst h;exact⟨rfl,q⟩
  |false=>replace h:=(q)▸h;exact nos h
theorem CompS.cell(H:CompS sc scope cs){env:Env}(hs:env.scope=sc){x:Str}(h:(x,NameKind.free)∈scope.names):env.kindOf x=some .cell:=by unfold Env.kindOf;refine(hs).symm▸?_;exact H.free _ h rfl
theorem CompS.frame(H:CompS sc scope cs){env:Env}(hs:env.scope=sc){a:Addr}(h:CapA scope env a):frameOf env a:=by
 refine oea h λx h1 h2=>?_;exact .inr ⟨x,H.cell hs h1,h2⟩
theorem CompS.cap(H:CompS sc scope cs){i:Nat}(h:memN i cs=true):(nm i,NameKind.free)∈scope.names:=mem_of_lookup (H.capt i ((memN_iff i cs).mp h))
noncomputable abbrev compK(cs:List Nat)(scope:Scope)(Z:Fx)(y:Gl)(fr:FrL)(s:Shared):GM:=cutK (om fr Z.X) y.L (CapA scope Z.env) (srcC cs) s
theorem comp_cut(H:CompS sc scope cs)(hs:Z.env.scope=sc)(S:St c Z y fr s):HS c (compK cs scope Z y fr s) y.g (om (capF cs fr) []) y.L (CapA scope Z.env) s/\∀b o,Z.K b=some o->compK cs scope Z y fr s b=some o:=by
 refine S.hs.cut (srcC cs) (λa=>H.frame hs) (λx x' z h h'=>?_) λz w e ow=>?_
 ·cases z with
  |var i=>simp only[(srcC_var h).1,(srcC_var h').1]
  |tmp j=>cases x with
   |tmp _=>exact nos h
   |var i=>rw[srcC_eq]at h;cases q:memN i cs<;>replace h:=(q)▸h<;>cases h
 ·cases z with
  |tmp j=>exact nos e
  |var i=>
   obtain⟨h1,h2⟩:=capF_get (e);exact ieaa (.var i) (by simp only[srcC_eq,h1]) h2 (λ_=>rfl)
theorem compEnv_ok(ok:EnvOk c Z.env)(hs:Z.env.scope=sc)(H:CompS sc scope cs)(h3:Heap)(hn:C=h3.objs.size)(lt:∀a,frameOf Z.env a->a<h3.objs.size):EnvOk c (compEnv scope Z.env C)/\
 ∀x a,CellAt (compEnv scope Z.env C) x a->(CapA scope Z.env a/\CellAt Z.env x a)∨(h3.get? a=none/\a≠C/\(pushCells (h3.push {cls:=.type "dict",data:=.dict #[]}) scope.names).IsCell a none):=by
 subst hn;have hsz:(h3.push {cls:=.type "dict",data:=.dict #[]}).objs.size=h3.objs.size+1:=Heap.size_push ..;have cok:=cellsFrom_ok scope.names (h3.push {cls:=.type "dict",data:=.dict #[]}) (h3.objs.size+1) [] ⟨λ_ _ hm=>(nomatch hm),dh.nil⟩ (by simp only[hsz];exact aI _);replace cok:=(hsz)▸cok;have cl:∀x a,(x,NameKind.free)∈scope.names->Z.env.cells.lookup x=some a->a<h3.objs.size:=λx a h1 h2=>lt a (H.frame hs (iea x h1 h2));refine⟨⟨H.kind,ok.globals,ok.builtins,a6 ok.above (bf (lt _ (.inl rfl))),λx hk=>?_,λx y a h1 h2 h3 h4=>?_,λx a h1 h2=>?_⟩,λx a q=>?_⟩
 ·rcases(compEnv_kind hs H _ x).mp hk with h|h
  ·obtain⟨a,ha⟩:=lookup_of_mem_keys (cellsFrom_has scope.names (h3.objs.size+1) x h);refine⟨a,?_⟩;show(cellsFrom (h3.objs.size+1) scope.names (clFrom Z.env scope.names [])).lookup x=some a;rw[cellsFrom_append,lookup_append,ha];rfl
  ·obtain⟨_,_,a,_,ha⟩:=compEnv_capt ok hs H h3.objs.size x h;exact⟨a,ha⟩
 ·rcases compEnv_lookup ok hs H _ x a h1 h3 with h5|⟨h5,h5k,h5a⟩<;>rcases compEnv_lookup ok hs H _ y a h2 h4 with h6|⟨h6,h6k,h6a⟩
  ·exact name_of_addr cok.apart h5 h6
  ·exact absurd (cl y a h6 h6a) (aW.mpr (bU (cok.empty _ _ h5).2))
  ·exact absurd (cl x a h5 h5a) (aW.mpr (bU (cok.empty _ _ h6).2))
  ·exact ok.apart x y a h5k h6k h5a h6a
 ·rcases compEnv_lookup ok hs H _ x a h1 h2 with h5|⟨h5,h5k,h5a⟩
  ·exact cL (fQ (cok.empty _ _ h5).2)
  ·exact aY (cl x a h5 h5a)
 ·obtain⟨h1,h2⟩:=q;rcases compEnv_lookup ok hs H _ x a h1 h2 with h5|⟨h5,h5k,h5a⟩
  ·exact .inr ⟨Heap.get?_none_of_le (bU (cok.empty _ _ h5).2),cL (fQ (cok.empty _ _ h5).2),(cok.empty _ _ h5).1⟩
  ·exact .inl ⟨iea x h5 h5a,h5k,h5a⟩
theorem comp_in(H:CompS sc scope cs)(hs:Z.env.scope=sc)(S:St c Z y fr s){X:List MW}{K2:GM}{L2:LM}(kp:∀b o,s.heap.get? b=some o->s3.heap.get? b=some o)(hL:∀i,L2 (.var i)=y.L (.var i))(h3:HS c K2 y.g (om (capF cs fr) X) L2 (CapA scope Z.env) s3):
 St c ⟨K2,compEnv scope Z.env s3.heap.objs.size,Z.A,X⟩ ⟨y.g,L2⟩ (capF cs fr) {s3 with heap:=pushCells (s3.heap.push {cls:=.type "dict",data:=.dict #[]}) scope.names}:=by
 have k4:∀b ob,s3.heap.get? b=some ob->(pushCells (s3.heap.push {cls:=.type "dict",data:=.dict #[]}) scope.names).get? b=some ob:=λb ob e=>pushCells_keeps _ _ b ob (Heap.get?_push_of_some _ e);have lt:∀a,frameOf Z.env a->a<s3.heap.objs.size:=λa fa=>by
  obtain⟨o,q⟩:=bw.mp (S.hs.frm a fa).2.2.1;exact Heap.lt_size (kp a o q)
 obtain⟨okC,cells⟩:=compEnv_ok S.ok hs H s3.heap rfl lt;have nsC:(pushCells (s3.heap.push {cls:=.type "dict",data:=.dict #[]}) scope.names).Ns s3.heap.objs.size λ_=>none:=(Heap.Ns.new s3.heap (.type "dict")).keeps (pushCells_keeps _ _);refine oea S.vars λm hn hv=>?_;refine⟨okC,h3.more k4 rfl rfl λa fa=>?_,iea _ nsC (λi w e=>?_),λx a q=>?_⟩
 ·rcases fa with rfl|⟨x,q⟩
  ·refine .inr ⟨fresh_none _,?_⟩;refine oeeea nsC λo _ _ e _=>?_;show((pushCells _ _).get? s3.heap.objs.size).isSome=true;rw[e];rfl
  ·rcases cells x a q with⟨h,_⟩|⟨e,_,o,e2,_⟩
   ·exact .inl h
   ·exact .inr ⟨e,by show((pushCells _ _).get? a).isSome=true;rw[e2];rfl⟩
 ·refine oa (capF_get e) λh1 h2=>?_;refine oea (hv i w h2) λval v1 v2=>?_;obtain⟨e1,e2,a,e3,e4⟩:=compEnv_capt S.ok hs H s3.heap.objs.size (nm i) (H.cap h1);refine iea val (.cell a ⟨e1,e4⟩ ?_) (by show ValW y.g (L2 (.var i) 0) w val;rw[hL];exact v2);cases v1 with
  |loc q1 q2=>replace q1:=(e2)▸q1;cases q1
  |cell b q1 q2=>
   obtain⟨q1,q3⟩:=q1;replace q3:=(e3)▸q3;refine(ab.inj q3)▸?_;refine oea q2 λob h4 h5=>?_;exact iea ob (k4 _ _ (kp _ _ h4)) h5
 ·rcases cells x a q with⟨_,q⟩|⟨_,_,q⟩
  ·refine oeea (S.live x a q) λv ob h6 h7=>?_;exact ieea v ob (k4 _ _ (kp _ _ h6)) h7
  ·exact⟨none,q⟩
noncomputable def backL(cs:List Nat)(y:Gl)(L:LM):LM:=λx=>match x with
 |.var i=>(match memN i cs with|true=>L (.var i)|false=>y.L (.var i))
 |.tmp j=>y.L (.tmp j)
theorem comp_out(H:CompS sc scope cs)(hs:Z.env.scope=sc)(S:St c Z y fr s)(fC:s.heap.get? C=none){L:LM}(S':St c ⟨compK cs scope Z y fr s,compEnv scope Z.env C,Z.A,[]⟩ ⟨g',L⟩ fr2 s')(ge:GExt (compK cs scope Z y fr s) y.g g'):
 St c Z ⟨g',backL cs y L⟩ (backF cs fr2 fr) s'/\GExt Z.K y.g g'/\Z.K C=none/\HOff g' (om (backF cs fr2 fr) Z.X) (backL cs y L) (frameOf Z.env) (·=C):=by
 refine oa (comp_cut H hs S) λhc kk=>?_;have ok:=S.ok;have capt:∀{x a},(x,NameKind.free)∈scope.names->Z.env.cells.lookup x=some a->CellAt (compEnv scope Z.env C) x a:=λ{x a} h1 h2=>by
  obtain⟨e1,e2,b,e3,e4⟩:=compEnv_capt ok hs H C x h1;replace e3:=(h2)▸e3;refine(ab.inj e3)▸?_;exact⟨e1,e4⟩
 have hO:∀x w,om (backF cs fr2 fr) Z.X x=some w->Back (om fr Z.X) (om fr2 []) y.L L (backL cs y L) (srcC cs) (·=·) x w:=λx w e=>by
  cases x with
  |tmp j=>exact .old rfl e λ_=>rfl
  |var i=>
   rcases backF_get (e)with⟨h1,h2⟩|⟨h1,h2⟩
   ·exact .came (.var i) rfl h2 λn=>by show(match memN i cs with|true=>L (.var i)|false=>y.L (.var i)) n=_;rw[h1]
   ·exact .old (by simp only[srcC_eq,h1]) h2 λn=>by show(match memN i cs with|true=>L (.var i)|false=>y.L (.var i)) n=_;rw[h1]
 refine oa (S.hs.join (L3:=L) (λa=>H.frame hs) kk S'.hs ge (λa ⟨x,h1,h2⟩=>.inr ⟨x,capt h1 h2⟩) (·=·) (λx x' z h h'=>h.trans h'.symm) hO) λhj gj=>?_;have gC:=(S'.hs.frm C (.inl rfl)).2;have keepF:∀a ob,frameOf Z.env a->¬CapA scope Z.env a->s.heap.get? a=some ob->s'.heap.get? a=some ob:=λa ob fa n e=>S'.hs.keepK a ob (by
  show cutK _ _ _ _ _ a=_;rw[cutK_some]
  ·exact e
  ·rintro(⟨x,z,n',_,i,q⟩|q)
   ·exact(S.hs.frm a fa).2.2.2 x n' i q.symm
   ·exact n q)
 refine oea S.vars λm hn hv=>?_;refine oea S'.vars λm1 hn1 hv1=>?_;have same:∀{i w val},(memN i cs=true->ValW g' (L (.var i) 0) w val)->(memN i cs=false->ValW g' (y.L (.var i) 0) w val)->ValW g' (backL cs y L (.var i) 0) w val:=λ{i w val} h1 h2=>by
  show ValW g' ((match memN i cs with|true=>L (.var i)|false=>y.L (.var i)) 0) w val;cases q:memN i cs with
  |true=>exact h1 q
  |false=>exact h2 q
 refine iaaa (⟨ok,hj,iea m ?_ (λi w e=>?_),λx a q=>?_⟩) gj (none_of S.hs.keepK fC) (λa z=>(z)▸((iaa gC.1 ?_ ?_)))
 ·refine oeeea hn λo es ep h1 r=>?_;exact ieeea o es ep (keepF _ _ (.inl rfl) (λ⟨x,h1,h2⟩=>ok.cellsL x _ (H.cell hs h1) h2 rfl) h1) r
 ·rcases backF_get e with⟨h1,h2⟩|⟨h1,h2⟩
  ·refine oea (hv1 i w h2) λval v1 v2=>?_;obtain⟨k1,k2,a,k3,k4⟩:=compEnv_capt ok hs H C (nm i) (H.cap h1);refine iea val (.cell a ⟨k2,k3⟩ ?_) (same (λ_=>v2) λz=>by replace z:=(h1)▸z;cases z);cases v1 with
   |loc q1 q2=>replace q1:=(k1)▸q1;cases q1
   |cell b q1 q2=>obtain⟨q1,q3⟩:=q1;replace q3:=(k4)▸q3;refine(ab.inj q3)▸?_;exact q2
  ·refine oea (hv i w h2) λval v1 v2=>?_;refine iea val ?_ (same (λz=>by replace z:=(h1)▸z;exact ff z) λ_=>v2.mono ge.1);cases v1 with
   |loc q1 q2=>exact .loc q1 q2
   |cell a q1 q2=>
    refine oea q2 λob h4 h5=>?_;refine .cell a q1 (iea ob (keepF a ob (.inr ⟨_,q1⟩) (λ⟨x,z1,z2⟩=>?_) h4) h5);obtain⟨q1,q3⟩:=q1;have hx:=ok.apart (nm i) x a q1 (H.cell hs z1) q3 z2;refine oea (H.all _ z1 rfl) λj hj ej=>?_;replace hj:=(nm_inj _ _ (ej.trans hx.symm))▸hj;replace h1:=((memN_iff i cs).mpr hj)▸h1;injection h1
 ·by_cases z:CapA scope Z.env a
  ·refine oea z λx' z1 z2=>?_;exact S'.live x' a (capt z1 z2)
  ·refine oeea (S.live x a q) λv ob h3 h4=>?_;exact ieea v ob (keepF a ob (.inr ⟨x,q⟩) z h3) h4
 ·intro fa;have:=(S.hs.frm _ fa).2.2.1;replace this:=(fC)▸this;exact ff this
 ·rintro x n ⟨w,e,hw⟩ q;rcases hO x w e with⟨z,r,e3,l⟩|⟨r,e3,l⟩
  ·exact(S'.hs.frm C (.inl rfl)).2.2.2 z n ⟨w,e3,hw⟩ ((l n).symm.trans q)
  ·have:=S.hs.lives ⟨w,e3,hw⟩;simp only[←l n,q,fC]at this;exact ff this
end
section
variable{c:Cx}{k:Nat}{sc scope:Scope}{cs:List Nat}{Z:Fx}{y y':Gl}{fr fr2:FrL}{s s':Shared}{elt t i:Expr}{gens gs:List Comprehension}{pos p spos:Pos}{ifs:List Expr}{tg:Tgt}{g:FAcc}{v:V}{x:Value}{us:List V}{l n:Nat}{b:Bool}{fv:FV}
theorem comp_run{Q:List V->FrL->Prop}{R:Value->Addr->Result->Shared->Prop}(ok:Fx.Ok k sc Z)(H:CompS sc scope cs)(hg:gens[0]?=some ⟨t,i,ifs,0⟩)(ht:TgtOk (relabelS scope sc) t tg)(L:AL c k (relabelS scope sc) (.ListComp elt gens scope pos) 0 t tg g)(S:St c Z y fr s)(r:Rep y.g v x)(hv:elemsF v=some us)
 (q:accW tg g l us [] ⟨c,k⟩ (capF cs fr) λacc fr2=>Q acc (backF cs fr2 fr))
 (hR:∀D C y' fr' s' acc,Ext Z false y y'->Hid c Z (·=C)->y'.g C=none->(∃o,s'.heap.get? C=some o)->(∃m,s'.heap.Ns C m)->St c (Z.hid (·=C) s'.heap) y' fr' s'->Rep y'.g (.lst acc) (.ref D)->Q acc fr'->R (.ref D) C (.ok .next) s'):
 wpAny c.M Z.A (pyIter x) (λit s₂=>wpAny c.M Z.A (newList []) (λacc s₃=>wpAny c.M Z.A (newFunctionEnv scope Z.env.globals (clFrom Z.env scope.names []) [] Z.env.qual none .none (some Z.env)) (λcenv s₄=>
  codeAny c.M Z.A (.compStart (.ListComp elt gens scope pos) 0 it acc {cenv with scope:=relabel scope Z.env}) (R acc cenv.locals) s₄) noE s₃) noE s₂) noE s:=by
 refine oa (comp_cut H ok.sc S) λhc kk=>?_;refine S.iter ok.rm.1 ht r hv λI T s2 W hT fr0 kp hg2 ho2=>?_;refine wpAny_newList (wpAny_newCompEnv ?_) (aZ _);have kl:∀b ob,s2.heap.get? b=some ob->(s2.heap.push (sqO "list" [] 0)).get? b=some ob:=λb ob e=>Heap.get?_push_of_some _ e;have k3:∀b ob,s.heap.get? b=some ob->(s2.heap.push (sqO "list" [] 0)).get? b=some ob:=λb ob e=>kl b ob (kp b ob e);have fI:=hc.fresh fr0;have hid:Hid c ⟨compK cs scope Z y fr s,compEnv scope Z.env (s2.heap.push (sqO "list" [] 0)).objs.size,Z.A,[]⟩ (·=I):=⟨λa z=>z▸fI.1,λa z=>z▸none_of (baseAt S) fr0⟩;have h2:HS c (hidK (compK cs scope Z y fr s) (·=I) s2.heap) y.g (om (capF cs fr) []) y.L (CapA scope Z.env) s2:=
  hc.swap (H:=(·=I)) (hid.base hc.base) (λa z=>z▸fI.2) (λa z=>hidK_out z) (λa o z e=>(hidK_in (H:=(·=I)) z).symm.trans e) (λb ob _=>kp b ob) hg2 ho2
 have h3:=h2.addT (s':={s2 with heap:=s2.heap.push (sqO "list" [] 0)}) (l:=.tmp 0) (w:=.list []) (T:=λ_=>False) (A:=λ_=>s2.heap.objs.size) (λ_ z=>z.elim) (λb o _ e=>kl b o e) (λa fa=>lives_keep (kl a) (h2.frm a fa).2.2.1) rfl rfl (λn ⟨w,e,_⟩=>nomatch e) (λ_ _=>fresh_none _)
  (λn hn n' hn' _=>by cases af.mp hn;cases af.mp hn';rfl) ⟨[],0,Heap.get?_push_size _ rfl,rfl⟩
 rw[show(om (capF cs fr) []).put (.tmp 0) (.list [])=om (capF cs fr) [.list []]from(om_snoc (capF cs fr) [] (.list [])).symm]at h3;have lI:∀b,b=I->(pushCells ((s2.heap.push (sqO "list" [] 0)).push {cls:=.type "dict",data:=.dict #[]}) scope.names).get? b=s2.heap.get? b:=λb z=>by
  obtain⟨o,e⟩:=W.live _ _ hT b z;refine(e).symm▸?_;exact pushCells_keeps _ _ b o (Heap.get?_push_of_some _ (kl b o e))
 have S4:=comp_in (s3:={s2 with heap:=s2.heap.push (sqO "list" [] 0)}) H ok.sc S k3 (L2:=y.L.put (.tmp 0) λ_=>s2.heap.objs.size) (λi=>LM.put_ne _ (λz=>nomatch z)) h3;rw[←hidK_eq lI]at S4;have hT4:T 0 (pushCells ((s2.heap.push (sqO "list" [] 0)).push {cls:=.type "dict",data:=.dict #[]}) scope.names):=W.keep 0 _ _ hT λb _ o e=>pushCells_keeps _ _ b o (Heap.get?_push_of_some _ (kl b o e));have run:=L ⟨compK cs scope Z y fr s,compEnv scope Z.env (s2.heap.push (sqO "list" [] 0)).objs.size,Z.A,[]⟩ ⟨y.g,y.L.put (.tmp 0) λ_=>s2.heap.objs.size⟩ (capF cs fr) {s2 with heap:=pushCells ((s2.heap.push (sqO "list" [] 0)).push {cls:=.type "dict",data:=.dict #[]}) scope.names} [] us I (·=I) T l _ W ⟨relabel_eq ok.sc,ok.rm⟩ hid (λa z=>z▸fI.2.1) S4 hT4 q;have fC:s.heap.get? (s2.heap.push (sqO "list" [] 0)).objs.size=none:=none_of k3 (fresh_none _);have fin:codeAny c.M Z.A (.compLoop (.ListComp elt gens scope pos) 0 (.ref I) (.ref s2.heap.objs.size) (compEnv scope Z.env (s2.heap.push (sqO "list" [] 0)).objs.size)) (R (.ref s2.heap.objs.size) (s2.heap.push (sqO "list" [] 0)).objs.size) _:=codeAny_mono run λr' s5 h5=>by
  obtain⟨rfl,y6,fr6,acc6,e6,S6,q6⟩:=h5;refine oeaa (St.freezeTmp (Z:=⟨compK cs scope Z y fr s,compEnv scope Z.env (s2.heap.push (sqO "list" [] 0)).objs.size,Z.A,[]⟩) (vs:=acc6) S6) λg7 S7 x7 r7=>?_;refine oaaa (comp_out H ok.sc S fC S7 (e6.g.trans x7)) λS8 x8 nC off=>?_;have hC:Hid c Z (·=(s2.heap.push (sqO "list" [] 0)).objs.size):=⟨λa z=>z▸nC,λa z=>z▸none_of (baseAt S) fC⟩;refine oea S7.vars λm7 hn7 _=>?_;have S9:St c (Z.hid (·=(s2.heap.push (sqO "list" [] 0)).objs.size) s5.heap) ⟨g7,backL cs y y6.L⟩ (backF cs fr6 fr) s5:=St.swap (Z:=Z) (K1:=Z.K) S8 (hC.base S8.hs.base) off (λa z=>hidK_out z) (λa o z e=>(hidK_in (H:=(·=(s2.heap.push (sqO "list" [] 0)).objs.size)) z).symm.trans e) (λ_ _ _ e=>e) rfl rfl;refine hR _ _ ⟨g7,backL cs y y6.L⟩ (backF cs fr6 fr) s5 acc6 ⟨x8,λi=>?_,(λz=>nomatch z),λ_ _ _=>rfl⟩ hC (off _ rfl).1 (by refine oeeea hn7 λo _ _ e _=>?_;exact⟨o,e⟩) ⟨m7,hn7⟩ S9 ?_ q6
  ·show(match memN i cs with|true=>y6.L (.var i)|false=>y.L (.var i)) 0=_;cases memN i cs with
   |true=>exact(e6.r0 i).trans (congrFun (LM.put_ne (L:=y.L) (l:=.tmp 0) (x:=.var i) (λ_=>s2.heap.objs.size) (λz=>nomatch z)) 0)
   |false=>rfl
  ·have d:y6.L (.tmp 0) 0=s2.heap.objs.size:=(e6.tm 0 (br _) 0).trans (congrFun (LM.put_same y.L (.tmp 0) λ_=>s2.heap.objs.size) 0);exact d▸r7
 exact start_ok hg fin (W.self 0 _ _ _ hT4 fin)
theorem comp_clos(H:CompS sc scope cs)(ok:Fx.Ok k sc Z)(S:St c Z y fr s):closureFor scope Z.env=pure (clFrom Z.env scope.names []):=closureFor_eq λx hx hk=>S.ok.cells x.1 (by unfold Env.kindOf;refine(ok.sc).symm▸?_;exact H.free x hx hk)
theorem SV.comp(H:CompS sc scope cs)(hi:SV c k sc i fv b)(ht:TgtOk (relabelS scope sc) t tg)(L:AL c k (relabelS scope sc) (.ListComp elt (⟨t,i,ifs,0⟩::gs) scope pos) 0 t tg g)
 (hf:∀env x,foldedSetIterable i env x=pure x) (hl:∀y∈scope.names,y.2=.local->scope.names.lookup y.1=some .local):SV c k sc (.ListComp elt (⟨t,i,ifs,0⟩::gs) scope pos) (fComp cs fv tg g) false:=by
 intro Z y fr s Q ok S q;show wpAny c.M Z.A (eval (.ListComp elt (⟨t,i,ifs,0⟩::gs) scope pos) Z.env) _ noE s;refine wpAny_comprehension_free (use:=Option.none) rfl (hf Z.env) (comp_clos H ok S) H.kind hl (hi.use ok S q λy1 fr1 v x s1 e1 r1 q1=>?_);refine oea (sm.out q1) λus eu q1=>?_;obtain⟨q1⟩:=q1;refine comp_run ok H rfl ht L r1.1 r1.2 eu (Q:=λacc fr=>Q (.lst acc) fr) q1 (R:=λacc C=>compPost c.M Z.A noE Option.none (P Z y false (RV c) Q) acc C) λD C y2 fr2 s2 acc e2 hC nC lC hns S2 r2 q2=>?_;obtain⟨m,hm⟩:=hns;exact iea m hm (λh' hsb=>⟨y2,fr2,.lst acc,(e1.off.trans e2),⟨hC.gone (s':={s2 with heap:=h'}) S2 (λa z=>(show a=C from z)▸lC) (λa z=>(show a=C from z)▸nC) (λb ob nb e=>(hsb.2 b nb).trans e) rfl rfl,r2⟩,q2⟩)
theorem SS1.asgComp{x:Str}(H:CompS sc scope cs)(hi:SV c k sc i fv b)(ht:TgtOk (relabelS scope sc) t tg)(L:AL c k (relabelS scope sc) (.ListComp elt (⟨t,i,ifs,0⟩::gs) scope pos) 0 t tg g)
 (hf:∀env x,foldedSetIterable i env x=pure x) (hl:∀y∈scope.names,y.2=.local->scope.names.lookup y.1=some .local) (hx:nm n=x) (hk:Writable sc x) (hw:∀env,env.scope=sc->swapsWith (.ListComp elt (⟨t,i,ifs,0⟩::gs) scope pos) (some (.Name x p)) spos.line env=pure true):
 SS1 c k sc (.Assign [.Name x p] (.ListComp elt (⟨t,i,ifs,0⟩::gs) scope pos) spos) (fAsgC n (fComp cs fv tg g)) [n]:=by
 intro Z y fr s Q ok S q;show wpAny c.M Z.A (exec (.Assign [.Name x p] (.ListComp elt (⟨t,i,ifs,0⟩::gs) scope pos) spos) Z.env) _ noE s;refine(exec_Assign_Name_used _ _ _ _ (hw Z.env ok.sc)).symm▸?_;refine wpAny_bind (wpAny_standAt (wpAny_bind ?_));refine wpAny_bind (wpAny_mono (E:=noE) (wpAny_comprehension_free (use:=some (assign (.Name x p) Z.env)) (Q:=λ_ s'=>PS c Z y [n] Q .next s') rfl (hf Z.env) (comp_clos H ok S) H.kind hl
  (hi.use ok S q λy1 fr1 v xv s1 e1 r1 q1=>?_)) (λ_ s' hq=>wpAny_pure (wpAny_pure hq)) λ_ _ x=>x)
 refine oea (sm.out q1) λus eu q1=>?_;obtain⟨q1⟩:=q1;refine comp_run ok H rfl ht L r1.1 r1.2 eu (Q:=λacc fr=>Q .nxt (setF fr n (.v (.lst acc)))) q1 (R:=λacc C=>compPost c.M Z.A noE (some (assign (.Name x p) Z.env)) (λ_ s'=>PS c Z y [n] Q .next s') acc C) λD C y2 fr2 s2 acc e2 hC nC lC hns S2 r2 q2=>?_;obtain⟨m,hm⟩:=hns;refine assign_Name (St.putV (Z:=Z.hid (·=C) s2.heap) S2 hx (writes ok.sc hk) r2 λs3 S3=>?_);refine oeeea hm λo es ep h1 r=>?_;have hl2:∀a,a=C->∃o,s2.heap.get? a=some o:=λa z=>z▸lC;refine iea m (ieeea o es ep ((hC.after (X:=Z.X) S3 hl2 C rfl).trans h1) r) (λh' hsb=>.nxt y2 _ (Ext.asS (e1.off.trans e2)) rfl (hC.gone (s':={s3 with heap:=h'}) S3 hl2 (λa z=>(show a=C from z)▸nC) (λb ob nb e=>(hsb.2 b nb).trans e) rfl rfl) q2)
end
noncomputable def zipW:List Nat->List MW->Option FrL
 |[],[]=>some []
 |p::ps,w::ws=>match zipW ps ws with|some fr=>some ((p,w)::fr)|none=>none
 |_,_=>none
set_option smartUnfolding false in
theorem zipW_c{p:Nat}{ps:List Nat}{w:MW}{ws:List MW}:zipW (p::ps) (w::ws)=match zipW ps ws with|some fr=>some ((p,w)::fr)|none=>none:=rfl
noncomputable def backW:List Nat->List MW->FrL->Option (List MW)
 |[],[],_=>some []
 |p::ps,w::ws,fr=>match backW ps ws fr with
  |some rs=>(match w.own with
   |false=>some (w::rs)
   |true=>(match getF fr p with
    |some w'=>(match w'.own with|true=>some (w'::rs)|false=>none)
    |none=>none))
  |none=>none
 |_,_,_=>none
set_option smartUnfolding false in
theorem backW_c{p:Nat}{ps:List Nat}{w:MW}{ws:List MW}{fr:FrL}:backW (p::ps) (w::ws) fr=(match backW ps ws fr with
 |some rs=>(match w.own with
  |false=>some (w::rs)
  |true=>(match getF fr p with
   |some w'=>(match w'.own with|true=>some (w'::rs)|false=>none)
   |none=>none))
 |none=>none):=rfl
noncomputable def asgOk(asg:List Nat):List Nat->List MW->Bool
 |p::ps,w::ws=>(match w.own with|true=>!memN p asg|false=>true)&&asgOk asg ps ws
 |_,_=>true
def endW(ps:List Nat)(ws:List MW)(Q:Rz->List MW->Prop)(fl:Fw)(fr:FrL):Prop:=sm (backW ps ws fr) λws'=>match fl with|.nxt=>Q (.v .none) ws'|.ret r=>Q r ws'
noncomputable def fnW(γ:Ct)(ps asg:List Nat)(f:FS):FF:=λws Q=>sm (zipW ps ws) λfr=>yes (asgOk asg ps ws) (f γ fr (endW ps ws Q))
structure Gd(c:Cx):Prop where
 lim:c.h₀.NoLimit
 mods:(c.h₀.get? sysModules).isSome=true
 last:∀h:Heap,(∀b o,c.h₀.get? b=some o->h.get? b=some o)->c.h₀.objs.size<=h.objs.size
structure FnOk(c:Cx)(f:Addr)(fd:FuncData)(body:List Stmt)(ps:List Nat):Prop where
 look:∃o,c.Kf.lookup f=some o/\o.data=.func fd
 code:codeIn c.Kf fd.code fd.qualname=true
 body:fd.body=.stmts body
 clo:fd.closure=[]
 co:fd.scope.isCoroutine=false
 gen:fd.scope.isGenerator=false
 kind:fd.scope.kind=.function
 globals:fd.globals=mainGlobals
 builtins:fd.builtins=builtinsNs
 bind:∀vals,vals.length=ps.length->bindArgs fd ⟨vals,[]⟩=pure ((ps.map nm).zip vals)
 kinds:∀i∈ps,Writable fd.scope (nm i)
 ps:ps.Nodup
 names:(fd.scope.names.map (·.1)).Nodup
theorem zipW_get:∀{ps:List Nat} {ws:List MW} {fr:FrL},zipW ps ws=some fr->ws.length=ps.length/\∀i w,getF fr i=some w->∃j:Nat,ps[j]?=some i/\ws[j]?=some w:=by
 intro ps
 induction ps with
 |nil=>
  intro ws fr h;cases ws with
  |nil=>refine(ab.inj h)▸?_;exact⟨rfl,λi w e=>nomatch e⟩
  |cons _ _=>exact nos h
 |cons p ps ih=>
  intro ws fr h;cases ws with
  |nil=>exact nos h
  |cons w ws=>
   replace h:=(zipW_c)▸h;cases e:zipW ps ws with
   |none=>replace h:=(e)▸h;exact nos h
   |some fr0=>
    replace h:=(e)▸h;refine(ab.inj h)▸?_;obtain⟨h1,h2⟩:=ih e;refine⟨congrArg bz h1,λi w' ei=>?_⟩;cases z:aT p i with
    |true=>rw[getF_hd z]at ei;refine(ab.inj ei)▸?_;exact iea 0 (congrArg some (az z)) rfl
    |false=>
     rw[getF_tl z]at ei;refine oea (h2 i w' ei) λj e1 e2=>?_;exact iea (j+1) e1 e2
inductive BackAt(ps:List Nat)(ws:List MW)(fr:FrL)(j:Nat)(w':MW):Prop
 |mk (p:Nat) (w:MW) (e1:ps[j]?=some p) (e2:ws[j]?=some w) (o:w.own=true) (e:getF fr p=some w'):BackAt ps ws fr j w'
theorem backW_get{fr:FrL}:∀{ps:List Nat} {ws ws':List MW},backW ps ws fr=some ws'->SameW ws ws'/\ws'.length=ws.length/\∀(j:Nat) w',ws'[j]?=some w'->w'.own=true->BackAt ps ws fr j w':=by
 intro ps
 induction ps with
 |nil=>
  intro ws ws' h;cases ws with
  |nil=>refine(ab.inj h)▸?_;exact iaa rfl rfl (λj w' e=>nomatch e)
  |cons _ _=>exact nos h
 |cons p ps ih=>
  intro ws ws' h;cases ws with
  |nil=>exact nos h
  |cons w ws=>
   replace h:=(backW_c)▸h;cases e:backW ps ws fr with
   |none=>replace h:=(e)▸h;exact nos h
   |some rs=>
    replace h:=(e)▸h;refine oaa (ih e) λh1 h2 h3=>?_;have next:∀(j:Nat) w',rs[j]?=some w'->w'.own=true->BackAt (p::ps) (w::ws) fr (j+1) w':=λj w' e o=>by
     obtain⟨p',w0,a,b,c,d⟩:=h3 j w' e o;exact⟨p',w0,a,b,c,d⟩
    cases ow:w.own with
    |false=>
     replace h:=(ow)▸h;injection h with h;subst h
     refine iaa (ieeaaa w rs rfl (λ_=>rfl) rfl h1) (congrArg bz h2) (λj w' e o=>?_);cases j with
     |zero=>injection e with e;subst e;replace o:=(ow)▸o;exact ff o
     |succ j=>exact next j w' e o
    |true=>
     replace h:=(ow)▸h;dsimp only at h;cases eg:getF fr p with
     |none=>replace h:=(eg)▸h;exact nos h
     |some w1=>
      replace h:=(eg)▸h;dsimp only at h;cases ow':w1.own with
      |false=>rw[ow']at h;exact nos h
      |true=>
       replace h:=(ow')▸h;injection h with h;subst h
       refine iaa (ieeaaa w1 rs rfl ((λz=>by replace z:=(ow)▸z;injection z)) (ow'.trans ow.symm) h1) (congrArg bz h2) (λj w' e o=>?_);cases j with
       |zero=>injection e with e;subst e;exact⟨p,w,rfl,rfl,ow,eg⟩
       |succ j=>exact next j w' e o
theorem asgOk_get{asg:List Nat}:∀{ps:List Nat} {ws:List MW} {j p:Nat} {w:MW},asgOk asg ps ws=true->ps[j]?=some p->ws[j]?=some w->w.own=true->p∉asg:=by
 intro ps
 induction ps with
 |nil=>intro ws j p w _ e;exact nos e
 |cons p0 ps ih=>
  intro ws j p w h e1 e2 o;cases ws with
  |nil=>exact nos e2
  |cons w0 ws=>
   obtain⟨h1,h2⟩:=Bool.and_eq_true_iff.mp (show(_&&_)=true from h);clear h;cases j with
   |zero=>
    refine(ab.inj e1)▸?_;obtain rfl:=ab.inj e2;replace h1:=(o)▸h1;intro z;replace h1:=((memN_iff _ _).mpr z)▸h1;exact ff h1
   |succ j=>exact ih h2 e1 e2 o
theorem nodup_get{ps:List Nat}(nd:ps.Nodup){i j p:Nat}(h1:ps[i]?=some p)(h2:ps[j]?=some p):i=j:=by
 obtain⟨a,b⟩:=ac.mp h1;obtain⟨a',b'⟩:=ac.mp h2;have e1:=nd.idxOf_getElem i a;have e2:=nd.idxOf_getElem j a';rw[b]at e1;rw[b']at e2;exact e1.symm.trans e2
theorem idx_get{ps:List Nat}(nd:ps.Nodup){j p:Nat}(h:ps[j]?=some p):ps.idxOf p=j:=by
 obtain⟨a,b⟩:=ac.mp h;have e:=nd.idxOf_getElem j a
 rwa[b]at e
section
variable{c:Cx}{k:Nat}{K g g':GM}{L:LM}{env:Env}{A:Around}{s s':Shared}{fr fr':FrL}{ps asg:List Nat}{ws ws':List MW}{vals:List Value}{y y':Gl}{Q:Rz->List MW->Prop}{z:Rz}{val:Value}
theorem VsOk.get:∀{ws:List MW} {n:Nat} {vals:List Value} {j:Nat} {w:MW},VsOk g L n ws vals->ws[j]?=some w->∃val,vals[j]?=some val/\ValW g (L (.tmp (n+j)) 0) w val:=by
 intro ws
 induction ws with
 |nil=>intro n vals j w _ e;exact nos e
 |cons w0 ws ih=>
  rintro n vals j w ⟨v,vs,rfl,h,hs⟩ e;cases j with
  |zero=>refine(ab.inj e)▸?_;exact iea v rfl h
  |succ j=>
   refine oea (ih hs e) λval e1 e2=>?_;exact iea val e1 (by rw[←bh,aH];exact e2)
theorem VsOk.len:∀{ws:List MW} {n:Nat} {vals:List Value},VsOk g L n ws vals->vals.length=ws.length:=by
 intro ws
 induction ws with
 |nil=>intro n vals h;subst h;rfl
 |cons w ws ih=>rintro n vals ⟨v,vs,rfl,h,hs⟩;exact congrArg bz (ih hs)
noncomputable def argL(ps:List Nat)(L:LM):LM:=λx=>match x with
 |.var i=>L (.tmp (ps.idxOf i))
 |.tmp j=>L (.tmp j)
theorem fn_in(h:HS c K g (omL ws) L (λ_=>False) s)(hz:zipW ps ws=some fr)(nd:ps.Nodup)(hv:VsOk g L 0 ws vals)(ok:EnvOk c env)(keep:∀b o,s.heap.get? b=some o->s'.heap.get? b=some o)(hg:s'.gens=s.gens)(ho:s'.os=s.os)
 (hF:∀a,frameOf env a->s.heap.get? a=none/\(s'.heap.get? a).isSome=true) {m:Str->Option Value} (hns:s'.heap.Ns env.locals m) (hvar:∀(j p:Nat) val,ps[j]?=some p->vals[j]?=some val->VarAt s'.heap env m (nm p) val) (live:∀x a,CellAt env x a->∃v,s'.heap.IsCell a v):
 St c ⟨K,env,A,[]⟩ ⟨g,argL ps L⟩ fr s':=by
 refine oa (zipW_get hz) λhl hget=>?_;refine⟨ok,(h.more keep hg ho λa fa=>.inr (hF a fa)).re (λx y=>∃i j:Nat,x=.var i/\y=.tmp j/\ps[j]?=some i) (λx x' y h1 h2=>?_) λx w e=>?_,iea m hns (λi w e=>?_),live⟩
 ·obtain⟨i,j,rfl,rfl,e1⟩:=h1;obtain⟨i',j',rfl,e2,e3⟩:=h2;injection e2 with e2;subst e2;replace e3:=(e1)▸e3;refine(ab.inj e3)▸?_;rfl
 ·cases x with
  |tmp j=>exact nos e
  |var i=>
   refine oea (hget i w e) λj e1 e2=>?_;exact ieaa (.tmp j) (ieeaa i j rfl rfl e1) e2 (λn _=>by show L (.tmp (ps.idxOf i)) n=_;rw[idx_get nd e1])
 ·refine oea (hget i w e) λj e1 e2=>?_;refine oea (hv.get e2) λval e3 e4=>?_;refine iea val (hvar j i val e1 e3) ?_;show ValW g (L (.tmp (ps.idxOf i)) 0) w val;rw[idx_get nd e1];rwa[bB]at e4
noncomputable def retL(ps:List Nat)(ws:List MW)(L L2:LM):LM:=λx=>match x with
 |.var i=>L2 (.var i)
 |.tmp j=>match ws[j]? with
  |some w=>(match w.own with|true=>L2 (.var (ps.getD j 0))|false=>L (.tmp j))
  |none=>L2 (.tmp (j-ws.length))
theorem fn_out(hlen:ws.length=ps.length)(nd:ps.Nodup)(ha:asgOk asg ps ws=true)(e:ExtS ⟨K,env,A,[]⟩ asg ⟨g,argL ps L⟩ y')(r:RE c ⟨K,env,A,[]⟩ y' fr' s' z.toRw val)(hb:backW ps ws fr'=some ws')(q:Q z ws'):FP c K g L ws Q val s':=by
 refine oa r.ws λS rv=>?_;clear r;refine oaa (backW_get hb) λb1 b2 b3=>?_;have zL:∀n,retL ps ws L y'.L (.tmp ws.length) n=y'.L (.tmp 0) n:=λn=>by
  show(match ws[ws.length]? with|some w=>(match w.own with|true=>y'.L (.var (ps.getD ws.length 0))|false=>L (.tmp ws.length))|none=>y'.L (.tmp (ws.length-ws.length))) n=_;rw[bA (aI _),cZ]
 have oL:∀{j p:Nat} {w:MW},ps[j]?=some p->ws[j]?=some w->w.own=true->retL ps ws L y'.L (.tmp j)=y'.L (.var p):=λ{j p w} e1 e2 o=>by
  show(match ws[j]? with|some w=>(match w.own with|true=>y'.L (.var (ps.getD j 0))|false=>L (.tmp j))|none=>y'.L (.tmp (j-ws.length)))=_;rw[e2];dsimp only;refine(o)▸?_;dsimp only;rw[a9,e1];rfl
 refine⟨y'.g,retL ps ws L y'.L,ws',z,e.g,b1,λi hi=>?_,?_,by rw[show retL ps ws L y'.L (.tmp ws.length) 0=y'.L (.tmp 0) 0 from zL 0];exact rv,q⟩
 ·cases o:ws[i].own with
  |false=>
   show(match ws[i]? with|some w=>(match w.own with|true=>y'.L (.var (ps.getD i 0))|false=>L (.tmp i))|none=>y'.L (.tmp (i-ws.length))) 0=_;refine(a8 hi)▸?_;dsimp only;rw[o]
  |true=>
   have e1:=a8 (hlen▸hi);rw[oL e1 (a8 hi) o,e.r _ (asgOk_get ha e1 (a8 hi) o)];show L (.tmp (ps.idxOf _)) 0=_;rw[idx_get nd e1]
 ·have h0:HS c K y'.g (om fr' z.ws) y'.L (λ_=>False) s':={S.hs with frm:=λ_ z=>z.elim};clear S;clear rv;clear q;refine h0.reO (λx y=>(∃j p:Nat,x=.tmp j/\y=.var p/\j<ws.length/\ps[j]?=some p)∨(x=.tmp ws.length/\y=.tmp 0)) (λx x' y h1 h2=>?_) λx w ex o=>?_
  ·rcases h1 with⟨j,p,rfl,rfl,_,e1⟩|⟨rfl,rfl⟩<;>rcases h2 with⟨j',p',rfl,e2,_,e3⟩|⟨rfl,e2⟩
   ·injection e2 with e2;subst e2;rw[nodup_get nd e1 e3]
   ·injection e2
   ·injection e2
   ·rfl
  ·clear h0;cases x with
   |var i=>exact nos ex
   |tmp j=>
    have ex2:(ws'++z.ws)[j]?=some w:=ex;clear ex;by_cases hj:j<ws'.length
    ·replace ex2:=(aS hj)▸ex2;obtain⟨p,w0,e1,e2,o0,e3⟩:=b3 j w ex2 o;exact ieaa (.var p) (.inl (ieeaaa j p rfl rfl (b2▸hj) e1)) e3 (λn _=>congrFun (oL e1 e2 o0) n)
    ·rw[bt (aW.mp hj)]at ex2;cases z with
     |v x=>exact nos ex2
     |fresh w1=>
      have h1:=(ac.mp ex2).1;have hz:j-ws'.length=0:=e9.mp h1;clear h1;rw[hz]at ex2;have hj2:j=ws.length:=(bC (dx.mp hz) (aW.mp hj)).trans b2;clear hz;subst hj2;exact ieaa (.tmp 0) (.inr ⟨rfl,rfl⟩) ex2 (λn _=>zL n)
theorem bind_other(kindOf:Str->Option NameKind):∀{ps:List Nat} {vals:List Value} {m:Str->Option Value} {x:Str},(∀p∈ps,nm p≠x)->bindL kindOf ((ps.map nm).zip vals) m x=m x/\bindC kindOf ((ps.map nm).zip vals) m x=m x:=by
 intro ps
 induction ps with
 |nil=>intro vals m x _;exact⟨rfl,rfl⟩
 |cons p ps ih=>
  intro vals m x h;cases vals with
  |nil=>exact⟨rfl,rfl⟩
  |cons v vals=>
   have np:∀(f:Str->Option Value),(λy=>if y=nm p then some v else f y) x=f x:=λf=>if_neg λz:x=nm p=>h p (.head _) z.symm;constructor
   ·show bindL kindOf ((ps.map nm).zip vals) (if kindOf (nm p)=some .local then λy=>if y=nm p then some v else m y else m) x=m x;rw[(ih λq hq=>h q (.tail _ hq)).1];split
    ·exact np m
    ·rfl
   ·show bindC kindOf ((ps.map nm).zip vals) (if kindOf (nm p)=some .local then m else λy=>if y=nm p then some v else m y) x=m x;rw[(ih λq hq=>h q (.tail _ hq)).2];split
    ·rfl
    ·exact np m
theorem bind_at(kindOf:Str->Option NameKind):∀{ps:List Nat} {vals:List Value} {m0 c0:Str->Option Value} {j p:Nat} {val:Value},ps.Nodup->ps[j]?=some p->vals[j]?=some val->
 (kindOf (nm p)=some .local->bindL kindOf ((ps.map nm).zip vals) m0 (nm p)=some val)/\(kindOf (nm p)≠some .local->bindC kindOf ((ps.map nm).zip vals) c0 (nm p)=some val):=by
 intro ps
 induction ps with
 |nil=>intro vals m0 c0 j p val _ e;exact nos e
 |cons p0 ps ih=>
  intro vals m0 c0 j p val nd e1 e2;rw[aE]at nd;cases vals with
  |nil=>exact nos e2
  |cons v vals=>
   cases j with
   |zero=>
    refine(ab.inj e1)▸?_;cases e2;have oth:∀p'∈ps,nm p'≠nm p0:=λp' hp z=>nd.1 (nm_inj _ _ z▸hp);constructor
    ·intro hk;show bindL kindOf ((ps.map nm).zip vals) (if kindOf (nm p0)=some .local then λy=>if y=nm p0 then some val else m0 y else m0) (nm p0)=some val;rw[(bind_other kindOf oth).1,if_pos hk];exact if_pos rfl
    ·intro hk;show bindC kindOf ((ps.map nm).zip vals) (if kindOf (nm p0)=some .local then c0 else λy=>if y=nm p0 then some val else c0 y) (nm p0)=some val;rw[(bind_other kindOf oth).2,if_neg hk];exact if_pos rfl
   |succ j=>exact ih nd.2 e1 e2
end
structure ClsOk(c:Cx)(C fI:Addr):Prop where
 makes:makesIn c.Kf C=true
 init:findIn c.Kf (.ref C) "__init__"=some (some (.ref fI))
 fn:typeIn c.Kf (.ref fI)=some (.type "function")
noncomputable def newW(C:Nat)(F:FF):FF:=λws Q=>F (.obj C [] []::ws) λr ws'=>match r with
 |.v x=>(match x with|.none=>(match ws' with|w::rs=>objW (some w) λC' ks vs=>Q (.fresh (.obj C' ks vs)) rs|_=>False)|_=>False)
 |_=>False
section
variable{c:Cx}{k:Nat}{K g g':GM}{L:LM}{env:Env}{A:Around}{s s':Shared}{fr fr':FrL}{ps asg:List Nat}{ws ws':List MW}{vals:List Value}{y y':Gl}{Q:Rz->List MW->Prop}{z:Rz}{val:Value}{fs:FS}{F:FF}
theorem baseH{O:OM}{F:Addr->Prop}(h:HS c K g O L F s):∀b o,c.h₀.get? b=some o->s.heap.get? b=some o:=λb o e=>h.keepK b o (h.base b o e)
noncomputable def flV(fl:Flow):Value:=match fl with
 |.ret v=>v
 |_=>.none
theorem fn_ret(hlen:ws.length=ps.length)(nd:ps.Nodup)(ha:asgOk asg ps ws=true){fl:Flow}(h:PS c ⟨K,env,A,[]⟩ ⟨g,argL ps L⟩ asg (endW ps ws Q) fl s'):FP c K g L ws Q (flV fl) s':=by
 cases h with
 |nxt y1 fr1 e hf S q=>
  refine oea (sm.out q) λws' eb q=>?_;rw[hf];exact fn_out hlen nd ha e (z:=.v .none) (val:=.none) ⟨S,rfl⟩ eb q
 |ret y1 fr1 z val e hf r q=>
  refine oea (sm.out q) λws' eb q=>?_;rw[hf];exact fn_out hlen nd ha e r eb q
theorem FSW.fn{f:Addr}{fd:FuncData}{body:List Stmt}(G:Gd c)(H:FnOk c f fd body ps)(hb:SS c k fd.scope body fs asg):FSW c (k+1) (.ref f) (fnW ⟨c,k⟩ ps asg fs):=by
 intro K g L ws vals A s Q rm h hv q;refine oea (sm.out q) λfr hz q=>?_;obtain⟨ha,q⟩:=q.out;obtain⟨hlen,_⟩:=zipW_get hz;refine oea H.look λo ho hdata=>?_;have kh:=baseH h;have KI:c.Kf.In s.heap:=c.hK.keeps kh;have vlen:vals.length=ps.length:=hv.len.trans hlen;have hcellk:∀x,(callEnvC fd s.heap.objs.size f).kindOf x=some .cell->(x,NameKind.cell)∈fd.scope.names:=λx hx=>mem_of_lookup hx;have hhas:∀x,(callEnvC fd s.heap.objs.size f).kindOf x=some .cell->∃a,(callEnvC fd s.heap.objs.size f).cells.lookup x=some a:=λx hx=>lookup_of_mem_keys (cellsFrom_has fd.scope.names (s.heap.objs.size+1) x (hcellk x hx));refine codeAny_call_cells (A:=A) rm.room (KI _ _ ho) hdata (G.lim.keeps kh) (codeRec_of KI H.code) H.body (H.bind vals vlen) H.clo (λx hx=>?_) (λs₁ Y=>?_) H.co H.gen H.kind
 ·refine oea (au.mp (fZ hx).1) λi hi hx1=>?_;rcases H.kinds i hi with w|w
  ·exact .inl (hx1▸w)
  ·refine .inr ⟨hx1▸w,?_⟩;refine oe (hhas (nm i) w) λa ha=>?_;refine(hx1)▸?_;show((cellsFrom (s.heap.objs.size+1) fd.scope.names []).lookup (nm i)).isSome=true;rw[show(cellsFrom (s.heap.objs.size+1) fd.scope.names []).lookup (nm i)=some a from ha];rfl
 ·refine oee Y.toInCall.same λh₁ tk z_=>?_;subst z_;have ok:EnvOk c (callEnvC fd s.heap.objs.size f):=⟨H.kind,H.globals,H.builtins,G.last _ kh,hhas,λx y a h1 h2 h3 h4=>name_of_addr Y.apart (mem_of_lookup h3) (mem_of_lookup h4),λx a h1 h2=>cL (Y.above x a (mem_of_lookup h2))⟩;have S1:St c ⟨K,callEnvC fd s.heap.objs.size f,A.deeper (callEnvC fd s.heap.objs.size f),[]⟩ ⟨g,argL ps L⟩ fr {s with heap:=h₁,toks:=tk}:=by
   refine fn_in h hz H.ps hv ok Y.toInCall.keep rfl rfl (λa fa=>?_) Y.toInCall.ns (λj p val e1 e2=>?_) λx a q=>?_
   ·rcases fa with rfl|⟨x,h1,h2⟩
    ·refine oeeea Y.toInCall.ns λo _ _ e _=>?_;exact⟨fresh_none _,by rw[e];rfl⟩
    ·refine oea (Y.cell x a h2) λo e _=>?_;exact⟨Heap.get?_none_of_le (bf (Y.above x a (mem_of_lookup h2))),by rw[e];rfl⟩
   ·obtain⟨h2,h3⟩:=bind_at (callEnvC fd s.heap.objs.size f).kindOf (m0:=λ_=>none) (c0:=λ_=>none) H.ps e1 e2;rcases H.kinds p (aF e1)with w|w
    ·exact .loc w (h2 w)
    ·refine oe (hhas (nm p) w) λa ha=>?_;refine .cell a ⟨w,ha⟩ ?_;have:=Y.cell (nm p) a ha;simp only[h3 (λz=>by rw[show(callEnvC fd s.heap.objs.size f).kindOf (nm p)=some .cell from w]at z;cases z)]at this;exact this
   ·obtain⟨h1,h2⟩:=q;exact⟨_,Y.cell x a h2⟩
  refine wpAny_mono (hb.use (Z:=⟨K,callEnvC fd s.heap.objs.size f,A.deeper (callEnvC fd s.heap.objs.size f),[]⟩) ⟨rfl,rm.deeper _⟩ S1 q λfl s' h'=>fn_ret hlen H.ps ha h') (λfl s' h'=>?_) λ_ _ x=>x.elim;cases fl<;>exact iea _ rfl h'
theorem FSW.ofBody{f:Addr}{S:Stmt}(G:Gd c)(H:∃fd,fd.scope=scopeOf S/\FnOk c f fd (bodyOf S) ps)(hb:SS c k (scopeOf S) (bodyOf S) fs asg)(w:∀ws Q,F ws Q->fnW ⟨c,k⟩ ps asg fs ws Q):FSW c (k+1) (.ref f) F:=by
 refine oea H λfd e H=>?_;exact(FSW.fn G H (e▸hb)).of w
theorem Rm.make(h:Rm (k+1) A)(C:Addr)(vals:List Value):Rm k (A.under (.builtin "type.__call__" ⟨.ref C::vals,[]⟩)):=by
 have hd:(A.under (.builtin "type.__call__" ⟨.ref C::vals,[]⟩)).depth=A.depth+1:=rfl;have hu:(A.under (.builtin "type.__call__" ⟨.ref C::vals,[]⟩)).units<=A.units+20:=by
  show A.units+Code.cUnits (.builtin "type.__call__" ⟨.ref C::vals,[]⟩)<=A.units+20;rw[show Code.cUnits (.builtin "type.__call__" ⟨.ref C::vals,[]⟩)=1 by kernel_rfl];exact ay (by decide) _
 exact⟨h.1,rmS (b:=1) h.2.1 (a5 rfl),aL (ai hu _) (rmS (b:=20) h.2.2 (a5 rfl))⟩
noncomputable def clsL(L:LM)(a:Addr):LM:=λx=>match x with
 |.tmp 0=>λn=>if n=0 then a+1 else a
 |.tmp (j+1)=>L (.tmp j)
 |.var i=>L (.var i)
noncomputable def clsR(n:Nat)(L:LM):LM:=λx=>match x with
 |.tmp j=>if j<n then L (.tmp (j+1))else L (.tmp 0)
 |.var i=>L (.var i)
theorem FSW.cls{C fI:Addr}(H:ClsOk c C fI)(hI:FSW c k (.ref fI) F):FSW c (k+1) (.ref C) (newW C F):=by
 intro K g L ws vals A s Q rm h hv q;have KI:c.Kf.In s.heap:=c.hK.keeps (baseH h);obtain⟨hh,gg,d,t,os⟩:=s;have hx:((hh.push emptyDict).push (instObj C hh.objs.size)).get? (hh.objs.size+1)=some (instObj C hh.objs.size):=Heap.get?_push_at (by rw[Heap.size_push]) rfl;have hd:((hh.push emptyDict).push (instObj C hh.objs.size)).get? hh.objs.size=some (dictOf [] 0):=Heap.get?_push_of_some _ (Heap.get?_push_size _ rfl);have kp:∀b o,hh.get? b=some o->((hh.push emptyDict).push (instObj C hh.objs.size)).get? b=some o:=λb o e=>Heap.get?_push_of_some _ (Heap.get?_push_of_some _ e);refine make_core (makes_of KI H.makes) (looks_findIn KI H.init) (λself=>bind_fn KI self H.fn) (.inl rfl) ?_;have h1:HS c K g (λl=>match l with|.tmp 0=>none|.tmp (j+1)=>ws[j]?|.var _=>none) (clsL L hh.objs.size) (λ_=>False) ⟨hh,gg,d,t,os⟩:=
  h.re (λx y=>∃j:Nat,x=.tmp (j+1)/\y=.tmp j) (λx x' y ⟨j,e1,e2⟩ ⟨j',e3,e4⟩=>by replace e4:=(e2)▸e4;injection e4 with e4;subst e4;simp only[e1,e3]) λx w e=>by
   cases x with
   |var _=>exact nos e
   |tmp j=>cases j with
    |zero=>exact nos e
    |succ j=>exact ieaa (.tmp j) (iea j rfl rfl) e (λ_ _=>rfl)
 have c01:∀n∈MW.cells (.obj C [] []),n=0∨n=1:=λn hn=>by
  rcases aj.mp hn with rfl|hn
  ·exact .inl rfl
  ·exact .inr (af.mp hn)
 have h2:=h1.addT (s':=⟨(hh.push emptyDict).push (instObj C hh.objs.size),gg,d,t,os⟩) (l:=.tmp 0) (w:=.obj C [] []) (T:=λ_=>False) (A:=λn=>if n=0 then hh.objs.size+1 else hh.objs.size) (λ_ z=>z.elim) (λb o _ e=>kp b o e) (λa fa=>fa.elim) rfl rfl (λn ⟨w,e,_⟩=>nomatch e)
  (λn hn=>by rcases c01 n hn with rfl|rfl<;>exact Heap.get?_none_of_le (by first|exact cb _|exact aI _))
  (λn hn n' hn' e=>by
    rcases c01 n hn with rfl|rfl<;>rcases c01 n' hn' with rfl|rfl<;>first|rfl|exact absurd e (fX _)|exact absurd e.symm (fX _)) ⟨[],0,hx,hd,.nil,rfl,rfl⟩
 have h3:HS c K g (omL (.obj C [] []::ws)) (clsL L hh.objs.size) (λ_=>False) ⟨(hh.push emptyDict).push (instObj C hh.objs.size),gg,d,t,os⟩:=h2.re (·=·) (λ_ _ _ a b=>a.trans b.symm) λx w e=>by
  refine ieaa x rfl ?_ (λn _=>?_)
  ·cases x with
   |var _=>exact nos e
   |tmp j=>cases j with
    |zero=>exact e
    |succ j=>exact e
  ·cases x with
   |var _=>rfl
   |tmp j=>cases j with
    |zero=>rfl
    |succ j=>rfl
 have vs:∀{ws:List MW} {n:Nat} {vals:List Value},VsOk g L n ws vals->VsOk g (clsL L hh.objs.size) (n+1) ws vals:=by
  intro ws
  induction ws with
  |nil=>exact λh=>h
  |cons w ws ih=>rintro n vals ⟨v,vs,rfl,h,hs⟩;exact⟨v,vs,rfl,h,ih hs⟩
 refine codeAny_mono (hI K g (clsL L hh.objs.size) (.obj C [] []::ws) (.ref (hh.objs.size+1)::vals) _ _ _ (rm.make C vals) h3 ⟨_,vals,rfl,rfl,vs hv⟩ q) λr s' hr=>?_;obtain⟨val,rfl,g',L',ws2,z,ge,sm,ad,hs',rv,qz⟩:=hr;obtain⟨w1,rs,rfl,_,_,sm⟩:=sm;have slen:∀{a b:List MW},SameW a b->b.length=a.length:=by
  intro a
  induction a with
  |nil=>intro b h;rw[show b=[]from h]
  |cons x a ih=>rintro b ⟨w,r,rfl,_,_,h⟩;exact congrArg bz (ih h)
 cases z with
 |fresh _=>exact qz.elim
 |v x=>cases x with
  |none=>
   refine oeeea (objW.out qz) λC' ks vs' em qq=>?_;obtain rfl:=ab.inj em;refine(rv)▸?_;have zz:clsR ws.length L' (.tmp ws.length)=L' (.tmp 0):=if_neg (bQ _);refine And.intro rfl ⟨_,rfl,g',clsR ws.length L',rs,.fresh (.obj C' ks vs'),ge,sm,λi hi=>?_,?_,⟨rfl,?_⟩,qq⟩
   ·exact(congrFun (if_pos hi:clsR ws.length L' (.tmp i)=L' (.tmp (i+1))) 0).trans (ad (i+1) (dX hi))
   ·refine hs'.reO (λx y=>(∃j:Nat,x=.tmp j/\y=.tmp (j+1)/\j<ws.length)∨(x=.tmp ws.length/\y=.tmp 0)) (λx x' y h1 h2=>?_) λx w e _=>?_
    ·rcases h1 with⟨j,rfl,rfl,_⟩|⟨rfl,rfl⟩<;>rcases h2 with⟨j',rfl,e,_⟩|⟨rfl,e⟩<;>cases e<;>rfl
    ·cases x with
     |var _=>exact nos e
     |tmp j=>
      have e2:(rs++[MW.obj C' ks vs'])[j]?=some w:=e;by_cases hj:j<ws.length
      ·refine ieaa (.tmp (j+1)) (.inl ⟨j,rfl,rfl,hj⟩) ?_ (λn _=>congrFun (if_pos hj:clsR ws.length L' (.tmp j)=L' (.tmp (j+1))) n);rw[aS (by rw[slen sm];exact hj)]at e2;show((MW.obj C' ks vs'::rs)++[])[j+1]?=some w;rw[aM];exact e2
      ·rw[bt (by rw[slen sm];exact aW.mp hj),slen sm]at e2;have h1:=(ac.mp e2).1;have hz:j-ws.length=0:=e9.mp h1;rw[hz]at e2;have hj2:j=ws.length:=bC (dx.mp hz) (aW.mp hj);clear hz;clear hj;refine hj2.symm▸?_;exact ieaa (.tmp 0) (.inr ⟨rfl,rfl⟩) e2 (λn _=>congrFun zz n)
   ·simp only[zz,ad 0 (ck _)];rfl
  |_=>exact qz.elim
end
theorem clsIn_out{K:Frag}{C:Addr}{cd:ClassData}(h:clsIn K C=some cd):∃o,K.lookup C=some o/\o.data=.cls cd:=by
 unfold clsIn at h;cases e:K.lookup C with
 |none=>rw[e]at h;exact nos h
 |some o=>
  rw[e]at h;refine iea o rfl ?_;obtain⟨_,_,d,_⟩:=o;cases d with
  |cls cd'=>exact congrArg _ (ab.inj h)
  |_=>exact nos h
structure SupOk(c:Cx)(f:Addr)(fd:FuncData)(C D f2 cc cda:Addr)(i:Nat):Prop where
 look:∃o,c.Kf.lookup f=some o/\o.data=.func fd
 self:∃ar,(fd.params.posonlyargs++fd.params.args).head?=some ar/\ar.arg=nm i
 code:fd.code=.ref cda
 codeObj:∃oc vs file tf,c.Kf.lookup cda=some oc/\oc.data=.fields vs/\vs[2]?=some (.str file tf)/\((c.prog.main.file:Str)==file)=true
 cell:∃oc,c.Kf.lookup cc=some oc/\oc.data=.cell (some (.ref D))
 clo:fd.closure=[(("__class__":Str),cc)]
 clsD:∃cd,clsIn c.Kf D=some cd
 clsC:∃cd,clsIn c.Kf C=some cd
 sub:mroIn c.Kf C (.ref D)=some true
 super:nsIn c.Kf mainGlobals "super"=some none
 ks:fd.scope.names.lookup ("super":Str)=some .globalImplicit
 kc:fd.scope.names.lookup ("__class__":Str)=some .free
 top:(c.prog.main.scope.names.lookup ("super":Str)).isSome=false
 opq:nsIn c.Kf cStatics "thirdparty.any"=some none
 meth:ks_superIn c.Kf C D "__init__"=some (some (.ref f2))
 fn:typeIn c.Kf (.ref f2)=some (.type "function")
 isFn:fnIn c.Kf f2=true
 kind:fd.scope.kind=.function
 ki:fd.scope.names.lookup (nm i)=some .local
structure FnOkS(c:Cx)(f:Addr)(fd:FuncData)(body:List Stmt)(ps:List Nat):Prop where
 look:∃o,c.Kf.lookup f=some o/\o.data=.func fd
 code:codeIn c.Kf fd.code fd.qualname=true
 body:fd.body=.stmts body
 co:fd.scope.isCoroutine=false
 gen:fd.scope.isGenerator=false
 kind:fd.scope.kind=.function
 globals:fd.globals=mainGlobals
 builtins:fd.builtins=builtinsNs
 bind:∀vals,vals.length=ps.length->bindArgs fd ⟨vals,[]⟩=pure ((ps.map nm).zip vals)
 kinds:∀i∈ps,fd.scope.names.lookup (nm i)=some .local
 ps:ps.Nodup
 nocell:∀x∈fd.scope.names,x.2≠.cell
def supQ(G:(Fw->FrL->Prop)->FrL->Prop)(Q:Fw->FrL->Prop)(r:Rw)(fr:FrL):Prop:=match r with
 |.v x=>(match x with|.none=>G Q fr|_=>False)
 |_=>False
noncomputable def fSup(C i:Nat)(fs:Pw (List Ow))(F0:FF)(g:FS):FS:=λγ fr Q=>objW (getF fr i) λC' _ _=>yes (aT C' C) (fs γ fr λos fr1=>match argsW fr1 (.loc i::os)with
 |some xs=>yes (nodupN (locsW (.loc i::os))) (F0 xs λr ws'=>supQ (λQ fr=>g γ fr Q) Q r.toRw (putW (.loc i::os) ws' fr1))
 |none=>False)
section
variable{c:Cx}{k:Nat}{K g g':GM}{L:LM}{A:Around}{Z:Fx}{s s':Shared}{fr fr':FrL}{ps asg:List Nat}{ws ws':List MW}{vals:List Value}{y y':Gl}{fs:FS}{F F0:FF}{f C D f2 cc cda La:Addr}{fd:FuncData}{i:Nat}{ks:List Nat}{fos:Pw (List Ow)}{b:Bool}{p0 p1 ap pos pos':Pos}{e0:Expr}{es:List Expr}{body rest:List Stmt}
set_option tactic.hygienic true in
theorem sup_node{whole:Sem Value}{Q:Value->Shared->Prop}{E:Value->Shared->Prop}(H:SupOk c f fd C D f2 cc cda i)(hE:Z.env=callEnv fd La f)(S:St c Z y fr s)(e:getF fr i=some (.obj C ks ws))
 (q:∀so s',St c Z y fr s'->s'.heap.get? so=some (ks_superObj D (y.L (.var i) 0) C)->Q (.ref so) s'):
 PySem.wpAt c.M A (.func body (callEnv fd La f)) (attributeBase (.Call (.Name "super" p0) [] [] p1) "__init__" (callEnv fd La f) whole) Q E s:=by
 refine oea H.look λof hf1 hf2=>?_;refine oea H.self λar hp1 hp2=>?_;obtain⟨oc,vs,file,tf,hc1,hc2,hc3,hc4⟩:=H.codeObj;refine oea H.cell λocc hcc1 hcc2=>?_;obtain⟨cdD,hD⟩:=H.clsD;have KI:=kIn S;obtain⟨ds,n,h1,h2,_,_⟩:=S.objAt e;obtain⟨oD,hD1,hD2⟩:∃oD,s.heap.get? D=some oD/\oD.data=.cls cdD:=by
  refine oea (clsIn_out hD) λo h1 h2=>?_;exact iea o (KI _ _ h1) h2
 clear h2;refine ks_wpAt_super_base (env:=callEnv fd La f) H.ks H.kc (rfl) rfl (KI _ _ hf1) hf2 hp1 H.code (KI _ _ hc1) hc2 hc3 hc4 H.top ?_;have eg:=S.ok.globals;have eb:=S.ok.builtins;have lv:=λ(Q E:Value->Shared->Prop) (A:Around)=>loadVar (A:=A) (Q:=Q) (E:=E) S e;rw[hE]at eg eb lv;refine ks_loadName_global H.kind H.ks (loadGlobal_builtin (by rw[eg];exact c.hT.g.keeps (baseAt S)) (mg_none_of c.hK c.hT.g H.super) (by rw[eb];exact c.hT.b.keeps (baseAt S)) ((c.hT.builtins _ (by decide+kernel)).trans (by kernel_rfl)) ⟨rfl,?_⟩);refine wpAny_loadName_free (c:=cc) H.kind H.kc (by show fd.closure.lookup _=some cc;rw[H.clo];rfl) (iea occ (KI _ _ hcc1) hcc2) ?_;refine(hp2).symm▸?_;refine lv _ _ _ λval hval=>?_;clear lv;cases(hval);obtain⟨hh,gg,d,t,os⟩:=s;refine ks_wpAny_isType_cls hD1 hD2 ⟨rfl,?_⟩;refine ks_wpAny_call_super hD1 hD2 h1 rfl (λc e=>?_) (looks_mroIn KI H.sub) (λh' e k=>?_)
 ·injection e
 ·exact q _ _ (S.kp (s':=⟨h',gg,d,t,os⟩) (.of k rfl rfl)) e
theorem sup_meth{so:Addr}{pl:Sem Bool}{Q:Value×List Value->Shared->Prop}{E:Value->Shared->Prop}(H:SupOk c f fd C D f2 cc cda i)(S:St c Z y fr s)(e:getF fr i=some (.obj C ks ws))(hso:s.heap.get? so=some (ks_superObj D (y.L (.var i) 0) C))
 (q:∀m h' t,(∀b o,s.heap.get? b=some o->h'.get? b=some o)->s.heap.get? m=none->h'.get? m=some (methodObj (.ref f2) (.ref (y.L (.var i) 0)))->Q (.ref m,[]) {s with heap:=h',toks:=t}):wpAny c.M A (getMethod (.ref so) "__init__" pl) Q E s:=by
 have KI:=kIn S;obtain⟨ds,n,h1,h2,_,_⟩:=S.objAt e;have I:W.InstAt s.heap (y.L (.var i) 0) (instObj C (y.L (.var i) 1)) C (some (dictOf ds n)):=⟨h1,rfl,rfl,h2⟩;clear S;obtain⟨cd,hc⟩:=H.clsC;have hm:=H.meth;unfold ks_superIn at hm;rw[hc]at hm;obtain⟨of,hof,hofc⟩:∃of,s.heap.get? f2=some of/\of.cls=.type "function":=by
  have ht':(c.Kf.lookup f2).map (·.cls)=some (.type "function"):=H.fn;cases z:c.Kf.lookup f2 with
  |none=>rw[z]at ht';exact nos ht'
  |some of=>rw[z]at ht';exact⟨of,KI _ _ z,ab.inj ht'⟩
 have nac:=ks_ne KI I hc;refine ks_wpAny_getMethod_super hso (looks_opaque KI H.opq) (l₀:=cd.mro) ?_ rfl KI hm hof hofc nac (rfl) ?_
 ·exact λA Q E s k q=>wpAny_bind ((looks_clsIn KI hc) A _ E s k (wpAny_pure q))
 ·exact q _ _ _ (λb o e=>Heap.get?_push_of_some _ e) (fresh_none _) (Heap.get?_push_at rfl rfl)
inductive SupP(c:Cx)(k:Nat)(Z:Fx)(y:Gl)(fs:FS)(Q:Fw->FrL->Prop)(fl:Flow)(s':Shared):Prop
 |mk (y':Gl) (fr':FrL) (e:Ext Z false y y') (hf:fl=.next) (S:St c Z y' fr' s') (q:fs ⟨c,k⟩ fr' Q):SupP c k Z y fs Q fl s'
theorem sup_stmt{Q:Fw->FrL->Prop}(H:SupOk c f fd C D f2 cc cda i)(hE:Z.env=callEnv fd La f)(ok:Fx.Ok k fd.scope Z)(hI:FSW c k (.ref f2) F0)(S:St c Z y fr s)(hd:SOs c k fd.scope (e0::es) fos b)
 (he:∀env,starEach (e0::es) env=(false,eval e0 env)::starEach es env) (hp:∀env pos,(backTo pos (starEach es env)).any (·.1)=false)
 (hm:∀env,∃pl,eval (.Call (.Attribute (.Call (.Name "super" p0) [] [] p1) "__init__" ap) (e0::es) [] pos) env=(do
   let ov ←attributeBase (.Call (.Name "super" p0) [] [] p1) "__init__" env (eval (.Call (.Name "super" p0) [] [] p1) env)
   standAt ap.atName
   let(f,first) ←holding [ov] (getMethod ov "__init__" pl)
   callWith pos f first (backTo pos (starEach (e0::es) env)) []))
 (hsw:∀env,swapsWith (.Call (.Attribute (.Call (.Name "super" p0) [] [] p1) "__init__" ap) (e0::es) [] pos) none pos'.line env=pure false)
 (q:fSup C i fos F0 fs ⟨c,k⟩ fr Q):
 PySem.wpAt c.M Z.A (.func body (callEnv fd La f)) (exec (.Expr (.Call (.Attribute (.Call (.Name "super" p0) [] [] p1) "__init__" ap) (e0::es) [] pos) pos') (callEnv fd La f)) (SupP c k Z y fs Q) noE s:=by
 refine oeeea (objW.out q) λC' ks ws eg q1=>?_;obtain⟨hC,q2⟩:=q1.out;clear q q1;cases az hC;obtain⟨pl,hm⟩:=hm (callEnv fd La f);refine ks_wpAt_Expr_any (ks_wpAt_MethodCall (pl:=pl) (sup_node H hE S eg λso s1 S1 hso=>?_) hm) (not_interactive H.kind) (hsw _);refine sup_meth H S1 eg hso λm h' t k' hm0 hm1=>?_;refine oaa (S1.hideH (H:=(·=m)) (s':={s1 with heap:=h',toks:=t}) (λa z=>z▸hm0) k' rfl rfl) λhid ng S2=>?_;have hl:∀a,a=m->∃o,h'.get? a=some o:=λa z=>⟨_,z▸hm1⟩;have run:wpAny c.M Z.A (spliced (backTo pos (starEach (e0::es) Z.env))) (λvs s₁=>MethP c.Kf m f2 (.ref (y.L (.var i) 0)) s₁.heap/\wpAny c.M Z.A (PySem.call (.ref m) ([]++vs)) (λ_=>SupP c k Z y fs Q .next) noE s₁) noE {s1 with heap:=h',toks:=t}:=by
  refine(hd pos).use (Z:=Z.hid (·=m) h') ⟨ok.sc,ok.rm⟩ S2 q2 λy3 fr3 os vs s3 e3 r3 q3=>?_;refine oa r3 λS3 r3=>?_;have hm3:s3.heap.get? m=some (methodObj (.ref f2) (.ref (y.L (.var i) 0))):=(hid.after (X:=Z.X) S3 hl m rfl).trans hm1;refine⟨⟨hm3,kIn S3⟩,?_⟩;have S4:=hid.gone (s':=s3) S3 hl (Hid.ng hl ng e3.g) (λ_ _ _ e=>e) rfl rfl;have x3:=(hid.extE e3);cases ea:argsW fr3 (.loc i::os)with
  |none=>rw[ea]at q3;exact q3.elim
  |some xs=>
   rw[ea]at q3;obtain⟨hn,q3⟩:=yes.out q3;have r4:OsOk y3 (.loc i::os) (.ref (y.L (.var i) 0)::vs):=⟨_,_,rfl,congrArg Value.ref (x3.r0 i).symm,r3⟩;refine wpAny_mono (call_run (t:=PySem.call (.ref m) vs) (Q:=supQ (λQ fr=>fs ⟨c,k⟩ fr Q) Q) hI ok.rm S4 r4 ea hn q3 λR hc=>wpAny_call (method_call hm3 (codeAny_mono hc λr s' ⟨val,e,z⟩=>by refine e▸?_;exact z))) (λv s5 h5=>?_) λ_ _ x=>x;obtain⟨y5,fr5,w5,e5,r5,q5⟩:=h5;cases w5 with
   |v x=>cases x with
    |none=>exact⟨y5,fr5,x3.off.trans e5,rfl,r5.1,q5⟩
    |_=>exact q5.elim
   |_=>exact q5.elim
 rw[hE]at run;rw[he]at run⊢;exact callWith_of (by show((false||(backTo pos (starEach es (callEnv fd La f))).any (·.1))||false)=false;rw[hp];rfl) (keeps_M H.isFn) (evalArgs_plain run)
theorem rev_none:∀{ps:List Nat} {vals:List Value} {x:Str},(∀p∈ps,nm p≠x)->((ps.map nm).zip vals).reverse.lookup x=none:=by
 intro ps
 induction ps with
 |nil=>intro vals x _;rfl
 |cons p ps ih=>
  intro vals x h;cases vals with
  |nil=>rfl
  |cons v vals=>
   simp only[aD,cD,df,dJ,ih λq hq=>h q (.tail _ hq),aR,show(x==nm p)=false from beq_eq_false_iff_ne.mpr (Ne.symm (h p (.head _)))];rfl
theorem rev_look:∀{ps:List Nat} {vals:List Value} {j p:Nat} {val:Value},ps.Nodup->ps[j]?=some p->vals[j]?=some val->((ps.map nm).zip vals).reverse.lookup (nm p)=some val:=by
 intro ps
 induction ps with
 |nil=>intro vals j p val _ e;exact nos e
 |cons p0 ps ih=>
  intro vals j p val nd e1 e2;rw[aE]at nd;cases vals with
  |nil=>exact nos e2
  |cons v vals=>
   simp only[aD,cD,df,dJ];cases j with
   |zero=>
    refine(ab.inj e1)▸?_;obtain rfl:=ab.inj e2;simp only[rev_none (x:=nm p0) λp' hp z=>nd.1 (nm_inj _ _ z▸hp),aR,beq_self_eq_true];rfl
   |succ j=>rw[ih nd.2 e1 e2];rfl
theorem FSW.ofSuper{S:Stmt}(G:Gd c)(H:∃fd cc cda,fd.scope=scopeOf S/\FnOkS c f fd (bodyOf S) ps/\SupOk c f fd C C 295 cc cda i)(hI:FSW c k (.ref 295) F0)
 (eb:bodyOf S=.Expr (.Call (.Attribute (.Call (.Name "super" p0) [] [] p1) "__init__" ap) (e0::es) [] pos) pos'::rest) (hd:SOs c k (scopeOf S) (e0::es) fos b)
 (he:∀env,starEach (e0::es) env=(false,eval e0 env)::starEach es env) (hp:∀env pos,(backTo pos (starEach es env)).any (·.1)=false)
 (hm:∀env,∃pl,eval (.Call (.Attribute (.Call (.Name "super" p0) [] [] p1) "__init__" ap) (e0::es) [] pos) env=(do
   let ov ←attributeBase (.Call (.Name "super" p0) [] [] p1) "__init__" env (eval (.Call (.Name "super" p0) [] [] p1) env)
   standAt ap.atName
   let(f,first) ←holding [ov] (getMethod ov "__init__" pl)
   callWith pos f first (backTo pos (starEach (e0::es) env)) []))
 (hsw:∀env,swapsWith (.Call (.Attribute (.Call (.Name "super" p0) [] [] p1) "__init__" ap) (e0::es) [] pos) none pos'.line env=pure false)
 (hb:SS c k (scopeOf S) rest fs asg) (w:∀ws Q,F ws Q->fnW ⟨c,k⟩ ps asg (fSup C i fos F0 fs) ws Q):FSW c (k+1) (.ref f) F:=by
 refine FSW.of ?_ w;refine oeeeaa H λfd cc cda e H HS=>?_;replace H:=(eb)▸H;rw[←e]at hd hb;intro K g L ws vals A s Q rm h hv q;refine oea (sm.out q) λfr hz q=>?_;obtain⟨ha,q⟩:=q.out;obtain⟨hlen,_⟩:=zipW_get hz;refine oea H.look λo ho hdata=>?_;have kh:=baseH h;have KI:c.Kf.In s.heap:=c.hK.keeps kh;have vlen:vals.length=ps.length:=hv.len.trans hlen;have nc:∀x,(callEnv fd s.heap.objs.size f).kindOf x≠some .cell:=λx hx=>H.nocell _ (mem_of_lookup hx) rfl;refine ks_codeAny_call_defAt (A:=A) rm.room (KI _ _ ho) hdata (G.lim.keeps kh) (codeRec_of KI H.code) H.body (.of_eq (H.bind vals vlen)) H.nocell (λx hx=>?_) (λh₁ hns keep=>?_) H.co H.gen H.kind
 ·refine oea (au.mp (fZ hx).1) λi hi e=>?_;refine(e)▸?_;exact H.kinds i hi
 ·have ok:EnvOk c (callEnv fd s.heap.objs.size f):=⟨H.kind,H.globals,H.builtins,G.last _ kh,λx hx=>absurd hx (nc x),λx y a h1=>absurd h1 (nc x),λx a h1=>absurd h1 (nc x)⟩;have S1:St c ⟨K,callEnv fd s.heap.objs.size f,A.deeper (callEnv fd s.heap.objs.size f),[]⟩ ⟨g,argL ps L⟩ fr {s with heap:=h₁,toks:=s.toks+((ps.map nm).zip vals).length}:=
   fn_in h hz H.ps hv ok keep rfl rfl (λa fa=>by
    rcases fa with rfl|⟨x,h1,_⟩
    ·refine oeeea hns λo _ _ e _=>?_;exact⟨fresh_none _,by show(h₁.get? s.heap.objs.size).isSome=true;rw[e];rfl⟩
    ·exact absurd h1 (nc x)) hns (λj p val e1 e2=>.loc (H.kinds p (aF e1)) (rev_look H.ps e1 e2)) λx a q=>by obtain⟨h1,_⟩:=q;exact absurd h1 (nc x)
  refine ks_wpAt_execs_cons (ks_wpAt_mono (sup_stmt (Z:=⟨K,callEnv fd s.heap.objs.size f,A.deeper (callEnv fd s.heap.objs.size f),[]⟩) HS rfl ⟨rfl,rm.deeper _⟩ hI S1 hd he hp hm hsw q) (λfl s2 h2=>?_) λ_ _ x=>x.elim);obtain⟨y2,fr2,e2,rfl,S2,q2⟩:=h2;refine wpAt_of_wpAny (wpAny_mono (hb.use (Z:=⟨K,callEnv fd s.heap.objs.size f,A.deeper (callEnv fd s.heap.objs.size f),[]⟩) ⟨rfl,rm.deeper _⟩ S2 q2 λfl s' h'=>fn_ret hlen H.ps ha (h'.after (Ext.asS e2) λ_ h=>h)) (λfl s' h'=>?_) λ_ _ x=>x.elim);cases fl<;>exact iea _ rfl h'
end
theorem sub_tuple_set:isSubtype (.type "tuple") (.type "set")=pure false:=by rw[isSubtype_type];kernel_rfl
theorem sub_tuple_frozenset:isSubtype (.type "tuple") (.type "frozenset")=pure false:=by rw[isSubtype_type];kernel_rfl
section
variable{prog:Program}{w:World}{A:Around}{E:Value->Shared->Prop}{s:Shared}
noncomputable abbrev setObj(led:Bool):Obj:={cls:=.type "set",dict:=none,data:=.set #[] 0 (.fresh 0 0 led)}
def FilledBy(prog:Program)(w:World)(s:Shared)(ns:List Int)(n:Nat)(s':Shared):Prop:=
 ∃h' tk,s'={s with heap:=h',toks:=tk}/\h'.SetOf (intKind prog w) s.heap.objs.size (λk=>(firstMet (λi=>ns.getD i 0) n).any (·==k)) (firstMet (λi=>ns.getD i 0) n).length/\
  ∀b o,b<s.heap.objs.size->s.heap.get? b=some o->h'.get? b=some o
set_option maxHeartbeats 3200000 in
theorem init_tuple{t:Addr}{items:Array Value}{ns:List Int}{led:Bool}(hh:A.handled=none)(hl:s.heap.IsTuple t items)(hi:IntsAre items.toList ns)(hb:items.size+1<scanBound):
 codeAny (model prog w) A (.call (.builtin "set.__init__") ⟨[.ref s.heap.objs.size,.ref t],[]⟩) (wants (λr s₂=>r=.none/\FilledBy prog w s ns items.size s₂) E) {s with heap:=s.heap.push (setObj led)}:=by
 have hS:(s.heap.push (setObj led)).get? s.heap.objs.size=some (setObj led):=Heap.get?_push_size _ rfl;have hT:Shared.TypeIs {s with heap:=s.heap.push (setObj led)} (.ref s.heap.objs.size) "set":=iea _ hS rfl;refine codeAny_call_builtin PySem.F.called_set.init.plain PySem.F.entry_set_init (check_set_init_1 hT ?_);have hl1:(s.heap.push (setObj led)).IsTuple t items:=hl.push _;have htT:Shared.TypeIs {s with heap:=s.heap.push (setObj led)} (.ref t) "tuple":=hl1.typeIs;have lt:t<s.heap.objs.size:=Heap.lt_size hl.choose_spec.1;have hsls:=sub_tuple_set;have hslf:=sub_tuple_frozenset;unfold Builtin.«set.__init__» noKeywords Builtin.Frozenset.updateFrom;generalize hPI:pyIter=PI
 wp_walk
 refine hPI▸?_;refine wpAny_pyIter_tuple hl1 (wpAny_bind (wpAny_runValue ?_));have hI:t≠(s.heap.push (setObj led)).objs.size:=by rw[Heap.size_push];exact aY (bT lt)
 have hSf:s.heap.objs.size∉[(s.heap.push (setObj led)).objs.size,t]:=by
  rw[Heap.size_push];simp only[aj,aN,or_false,not_or];exact⟨aY (br _),cL lt⟩
 have hv:∀(i:Nat) (v:Value),items[i]?=some v->∃t,v=.int ((λi=>ns.getD i 0) i) t:=λi v h=>hi.int_at i v (by rw[cO];exact h);have hS2:((s.heap.push (setObj led)).push {cls:=.type "tuple_iterator",data:=.fields #[.ref t,.int 0 0]}).get? s.heap.objs.size=some (setObj led):=Heap.get?_push_of_some _ hS;refine codeAny_set_update_loopS ((Walks.tuple (by simp[hh]) _ t hI items).toS) s.heap.objs.size hSf _ hv hb (items.size-0) 0 _ rfl (aZ _) ⟨ieaa _ (Heap.get?_push_size _ rfl) rfl rfl,hl1.push _⟩
  (SetOf_congr ((setObjOf_fresh (knd:=intKind prog w) led).setOf hS2 (by unfold scanBound;exact a5 rfl)) (λ_=>rfl) rfl) λs' hm hS'=>?_
 obtain⟨h',g',d',tk',os'⟩:=s';refine(show g'=s.gens from hm.gens)▸?_;refine(show d'=s.drawn from hm.drawn)▸?_;refine(show os'=s.os from hm.os)▸?_;refine wpAny_pure (wpAny_pure ⟨rfl,h',tk',rfl,hS',λb o lb e=>?_⟩);refine hm.heap b o ?_ (Heap.get?_push_of_some _ (Heap.get?_push_of_some _ e));rw[Heap.size_push];simp only[aj,aN,or_false,not_or];exact⟨aY lb,aY (bT lb)⟩
set_option maxHeartbeats 3200000 in
theorem set_tuple{t:Addr}{items:Array Value}{ns:List Int}{Q:Value->Shared->Prop}(hh:A.handled=none)(hl:s.heap.IsTuple t items)(hi:IntsAre items.toList ns)(hb:items.size+1<scanBound)
 (h:∀s',FilledBy prog w s ns items.size s'->Q (.ref s.heap.objs.size) s'):wpAny (model prog w) A (call (.type "set") [.ref t]) Q E s:=by
 have hmro:=PySem.F.called_set.mro;have hmade:=PySem.F.called_set.made;have hsub:=PySem.F.called_set.sub;refine wpAny_call (codeAny_of_tree ?_);refine wpAny_pure ⟨Code.quiet_builtin _ (by decide+kernel),codeAny_builtin PySem.F.entry_type_call ?_⟩;rw[Around.under_plain (weight_type_call_type "set" [.ref t] []) rfl];have h1:=PySem.F.called_set.notType;have h3:=PySem.F.typeCall_set_1 (.ref t)
 repeat(any_goals(first|assumption|wp_step))
 refine codeAny_mono (code_set_new_1 (.ref t) (E:=E) (Q₁:=λv s₁=>∃led,v=.ref s.heap.objs.size/\s₁={s with heap:=s.heap.push (setObj led)}) λled=>iea led rfl rfl) λr s₁ hr=>?_;rcases r with e|fl
 ·exact hr
 cases fl with
 |ret v=>
  obtain⟨led,rfl,rfl⟩:=hr;have hT:Shared.TypeIs {s with heap:=s.heap.push (setObj led)} (.ref s.heap.objs.size) "set":=iea _ (Heap.get?_push_size _ rfl) rfl;have h4:=PySem.F.called_set.init.lookup;have h5:=PySem.F.called_set.init.bind (.ref s.heap.objs.size)
  repeat(any_goals(first|assumption|wp_step))
  refine codeAny_mono (init_tuple (E:=E) (by simp[hh]) hl hi hb) λr₂ s₂ hr₂=>?_;rcases r₂ with e|fl
  ·exact hr₂
  cases fl with
  |ret v=>
   obtain⟨rfl,hf⟩:=hr₂
   repeat(any_goals(first|assumption|wp_step))
   exact h _ hf
  |_=>exact hr₂.elim
 |_=>exact hr.elim
end
noncomputable def kinds(ns:List Int):List Int:=ns.foldl step_dedup []
theorem firstMet_kinds(ns:List Int):firstMet (λi=>ns.getD i 0) ns.length=kinds ns:=by
 delta firstMet kinds;congr 1;apply cz
 ·simp
 ·intro i h1 h2;simp[a8 h2]
theorem kinds_snoc(ns:List Int)(i:Int):kinds (ns++[i])=step_dedup (kinds ns) i:=by unfold kinds;rw[List.foldl_append];rfl
theorem stored_keys(kvs:List (Int×Value))(k:Int)(y:Value):(stored kvs k y).map (·.1)=step_dedup (kvs.map (·.1)) k:=by
 delta stored step_dedup;have e:(kvs.any λkv=>decide (kv.1=k))=(kvs.map (·.1)).any (·==k):=by
  rw[List.any_map];congr 1
 refine(e)▸?_;split
 ·rw[av];apply c8;intro p _;by_cases q:p.1=k<;>simp[q]
 ·simp
theorem storedAll_keys{l:List Value}{kvs:List (Int×Value)}(h:StoredAll (λv (k:Int)=>∃t,v=.int k t) (λ_ _=>True) l kvs):∃ns,IntsAre l ns/\kvs.map (·.1)=kinds ns:=by
 induction h with
 |nil=>exact iea ([]) .nil rfl
 |@snoc l kvs v k y _ hk _ ih=>
  refine oea ih λns h1 h2=>?_;obtain⟨t,rfl⟩:=hk;have ap:∀{l:List Value} {ns:List Int},IntsAre l ns->IntsAre (l++[.int k t]) (ns++[k]):=λ{l ns} h=>by
   induction h with
   |nil=>exact .cons _ _ .nil
   |cons n t _ ih=>exact .cons n t ih
  exact iea (ns++[k]) (ap h1) (by simp only[stored_keys,h2,kinds_snoc])
theorem ints_inj{l:List Value}{ns:List Int}(h:IntsAre l ns):∀{ms:List Int},IntsAre l ms->ns=ms:=by
 induction h with
 |nil=>intro ms h;cases h;rfl
 |cons n t _ ih=>intro ms h;cases h with|cons _ _ h=>rw[ih h]
noncomputable def fSetN(fo:FO):Pw Nat:=λγ fr Q=>fo γ fr λo fr1=>rdW fr1 o λx=>match x with
 |.lst vs=>It (intsOf vs) λns=>Sz ns.length 4000 (Q (kinds ns).length fr1)
 |.tup vs=>It (intsOf vs) λns=>Sz ns.length 4000 (Q (kinds ns).length fr1)
 |_=>False
noncomputable def fLenN(f:Pw Nat):FV:=λγ fr Q=>f γ fr λn fr1=>Q (.int n) fr1
def LenIs(c:Cx)(s:Shared)(val:Value)(n:Nat):Prop:=∀(A:Around) (Q:Value->Shared->Prop),(∀t,Q (.int n t) {s with toks:=t+1})->wpAny c.M A (call (.builtin "len") [val]) Q noE s
def RN(c:Cx)(Z:Fx)(y:Gl)(fr:FrL)(s:Shared)(n:Nat)(val:Value):Prop:=St c Z y fr s/\LenIs c s val n
abbrev SN(c:Cx)(k:Nat)(sc:Scope)(e:Expr)(f:Pw Nat)(b:Bool):Prop:=J c k sc (λenv=>eval e env) f b (RN c)
section
variable{c:Cx}{k:Nat}{sc scope:Scope}{Z:Fx}{y y':Gl}{fr:FrL}{s s':Shared}{A:Around}{o:Ow}{val:Value}{b:Bool}{fo:FO}{fn:Pw Nat}{e:Expr}{x:Str}{p pos:Pos}{cs:List Nat}
theorem len_set{a:Addr}{S:Int->Bool}{n:Nat}(h:s.heap.SetOf (intKind c.prog c.w) a S n)(hn:n<=1000000):LenIs c s (.ref a) n:=by
 intro A Q q;obtain⟨o,es,ep,t,ho,hx,hd,_,_,_,hf,rfl⟩:=h;exact call_len_set ho hx hd hf (len63 hn) (q _)
theorem kinds_len(ns:List Int):(kinds ns).length<=ns.length:=by rw[←firstMet_kinds];exact firstMet_length_le _ _
theorem SN.set(hf:CV c sc x p (.type "set"))(hd:SO c k sc e fo b)(hst:∀env,starEach [e] env=(false,eval e env)::starEach [] env)
 (hp:∀env pos,(backTo pos (starEach [] env)).any (·.1)=false)
 (he:∀env,eval (.Call (.Name x p) [e] [] pos) env=(do
     let f ←eval (.Name x p) env
     callWith pos f [] (backTo pos (starEach [e] env)) (backToKw pos (keywordEach [] env)))):
 SN c k sc (.Call (.Name x p) [e] [] pos) (fSetN fo) b:=by
 intro Z y fr s Q ok S q;refine Call_ (hf Z y fr s _ _ ok.sc S ?_) (he Z.env);refine PyProof.Rows.callWith_type1 (spl_cons (hst _) (hd.use ok S q λy1 fr1 o val s1 e1 r1 q1=>?_)) (hst Z.env) (hp Z.env pos);refine wpAny_pure ?_;refine oea (rd_ok r1.1 r1.2 q1) λv rv q1=>?_;have S:=r1.1;have fin:∀(ns:List Int) a h' tk,(∀b o,b<s1.heap.objs.size->s1.heap.get? b=some o->h'.get? b=some o)->h'.SetOf (intKind c.prog c.w) a (λk'=>(kinds ns).any (·==k')) (kinds ns).length->ns.length<=4000->Q (kinds ns).length fr1->P Z y b (RN c) Q (.ref a) {s1 with heap:=h',toks:=tk}:=λns a h' tk hk hS hl q2=>
  ⟨y1,fr1,_,e1,⟨S.kp (s':={s1 with heap:=h',toks:=tk}) (.of (λb o e=>hk b o (Heap.lt_size e) e) rfl rfl),len_set hS (a6 (kinds_len ns) (leT (by assumption) rfl))⟩,q2⟩
 have sz:∀{xs:List Value} {ns:List Int},xs.length=ns.length->ns.length<=4000->xs.toArray.size+1<scanBound:=λ{xs ns} e h=>by rw[aw,e];exact leS (n:=4001) (leS h rfl) rfl
 clear r1;cases v with
 |lst vs=>
  obtain⟨ns,en,q2⟩:=It.out q1;clear q1;cases intsOf_out en;obtain⟨a,xs,n,rfl,h1,h2⟩:=rv.list S.hs.keepg;have I:=ints_of h2;refine PySem.call_set_list ok.rm.1 (isList_of h1) (by simpa using I) (sz I.length q2.out.1) λh' tk hS hk=>?_;rw[show xs.toArray.size=ns.length from I.length,firstMet_kinds]at hS;exact fin ns _ h' tk hk hS q2.out.1 q2.out.2
 |tup vs=>
  obtain⟨ns,en,q2⟩:=It.out q1;clear q1;cases intsOf_out en;obtain⟨a,xs,n,rfl,h1,h2⟩:=rv.tup S.hs.keepg;have I:=ints_of h2;refine set_tuple (ns:=ns) ok.rm.1 (isTup_of h1) (by simpa using I) (sz I.length q2.out.1) λs' hs=>?_;refine oeeaa hs λh' tk z_ hS hk=>?_;subst z_;rw[show xs.toArray.size=ns.length from I.length,firstMet_kinds]at hS;exact fin ns _ h' tk hk hS q2.out.1 q2.out.2
 |_=>exact q1.elim
theorem SV.lenN(hf:CV c sc x p (.builtin "len"))(hd:SN c k sc e fn b)(hst:∀env,starEach [e] env=(false,eval e env)::starEach [] env)
 (hp:∀env pos,(backTo pos (starEach [] env)).any (·.1)=false)
 (he:∀env,eval (.Call (.Name x p) [e] [] pos) env=(do
     let f ←eval (.Name x p) env
     callWith pos f [] (backTo pos (starEach [e] env)) (backToKw pos (keywordEach [] env)))):
 SV c k sc (.Call (.Name x p) [e] [] pos) (fLenN fn) b:=by
 intro Z y fr s Q ok S q;refine Call_ (hf Z y fr s _ _ ok.sc S ?_) (he Z.env);refine callWith_method1 (first:=[]) (spl_cons (hst _) (hd.use ok S q λy1 fr1 n val s1 e1 r1 q1=>?_)) (hst Z.env) (hp Z.env pos);exact wpAny_pure (r1.2 Z.A _ λt=>⟨y1,fr1,.int n,e1,⟨r1.1.toks _,_,rfl⟩,q1⟩)
end
section
variable{c:Cx}{k:Nat}{sc scope:Scope}{Z:Fx}{K g g':GM}{O:OM}{L:LM}{F:Addr->Prop}{y y':Gl}{fr:FrL}{s s':Shared}{A:Around}{w:MW}{l:Lbl}{D:Addr}{val:Value}{b b1 b2:Bool}{fo:FO}{fv gv:FV}{e e1 e2 i:Expr}{x:Str}{p p1 p2 p3 pos:Pos}{cs:List Nat}
theorem notMods(G:Gd c)(S:St c Z y fr s):s.heap.objs.size≠sysModules:=cL (modules_low (G.lim.keeps (baseAt S)))
theorem SN.comp{kk:Nat}(G:Gd c)(H:CompS sc scope cs)(hi:SO c k sc i fo b)(hcell:∀y∈scope.names,y.2≠.cell)(hx:scope.names.lookup x=some .local)(hd:(x==("__debug__":Str))=false)
 (hf:∀env x,foldedSetIterable i env x=pure x) (hl:∀y∈scope.names,y.2=.local->scope.names.lookup y.1=some .local):SN c k sc (.DictComp (.Name x p1) (.Constant (.bool true) kk p3) [⟨.Name x p2,i,[],0⟩] scope pos) (fSetN fo) b:=by
 intro Z y fr s Q ok S q;refine wpAny_DictComp_free (intKind c.prog c.w) (λ_=>true) (λv (k:Int)=>∃t,v=.int k t) (λ_ _=>True) (comp_clos H ok S) hcell H.kind hl hx (hi.use ok S q λy1 fr1 o val s1 e1 r1 q1=>?_) (hf Z.env);refine oea (rd_ok r1.1 r1.2 q1) λv rv q1=>?_;have S1:=r1.1;have main:∀(ns:List Int) (a:Addr) (oI:Obj) (items:Array Value) (W:Nat->Heap->Prop),IntsAre items.toList ns->ns.length<=4000->Q (kinds ns).length fr1->a<s1.heap.objs.size->oI.isFreed=false->
  Walks c.prog c.w Z.A s1.heap.objs.size [s1.heap.objs.size,a] [s1.heap.objs.size] items.size (λi v=>items[i]?=some v) W->W 0 (s1.heap.push oI)->
  ∃I' fp wr n P' St',Value.ref s1.heap.objs.size=.ref I'/\Walks c.prog c.w Z.A I' fp wr n P' St'/\n<=sizeLine/\St' 0 (s1.heap.push oI)/\(∀b∈fp,b<(s1.heap.push oI).objs.size)/\
  QuietOnCD (intKind c.prog c.w) Z.A Z.env scope (clFrom Z.env scope.names []) x [] (.Name x p1) (.Constant (.bool true) kk p3) wr P' (λ_=>true) (λv (k:Int)=>∃t,v=.int k t) (λ_ _=>True) {s1 with heap:=s1.heap.push oI}/\
  (∀D h' tk kvs (vs:List Value),(s1.heap.push oI).get? D=none->h'.DictOf (intKind c.prog c.w) D kvs->vs.length=n->(∀j v,vs[j]?=some v->P' j v)->StoredAll (λv (k:Int)=>∃t,v=.int k t) (λ_ _=>True) (vs.filter λ_=>true) kvs->
    (∀b o,b∉wr->(s1.heap.push oI).get? b=some o->h'.get? b=some o)->P Z y b (RN c) Q (Value.ref D) {s1 with heap:=h',toks:=tk}):=by
  intro ns a oI items W hints hlen q2 ha hfr w0 hw0;have hsize:items.size=ns.length:=hints.length;refine⟨_,_,_,_,_,_,rfl,w0,by simp only[hsize,sizeLine_eq];exact a6 ‹_› (a5 rfl),hw0,λb hb=>?_,⟨?_,?_,?_⟩,?_⟩
  ·rw[Heap.size_push];rcases aj.mp hb with rfl|hb
   ·exact br _
   ·cases af.mp hb;exact bT ha
  ·intro C i v s3 m3 E' _ _ _ _;exact wpAny_pure ⟨rfl,_,_,rfl,λ_ _ e=>e⟩
  ·intro C i v s3 m3 E' hP _ hn hm _;refine oe (hints.int_at i v (by rw[cO];exact hP)) λt z_=>?_;subst z_;refine wpAny_Name (wpAny_loadName_local H.kind (lookup_relabel_local hx) hn hm ⟨⟨_,by simp[intKind,Value.isInt],t,rfl⟩,_,_,rfl,λ_ _ e=>e⟩) hd
  ·intro C i v s3 m3 E' _ _ _ _ _;exact wpAny_Constant_bool ⟨trivial,_,_,rfl,λ_ _ e=>e⟩
  ·intro D h' tk kvs vs hD hdict hvl hP hst hk;have keep:∀b o,s1.heap.get? b=some o->h'.get? b=some o:=λb o e=>hk b o (λhb=>by
    cases af.mp hb;exact absurd (Heap.lt_size e) (bQ _)) (Heap.get?_push_of_some _ e)
   have hDm:D≠sysModules:=λz=>by
    subst z;obtain⟨om,hom⟩:=bw.mp G.mods;replace hD:=(Heap.get?_push_of_some _ (baseAt S1 _ _ hom))▸hD;injection hD
   refine oea (storedAll_keys hst) λms hms hkk=>?_;have hvs:vs.filter (λ_=>true)=items.toList:=by
    rw[fq.mpr (λ_ _=>rfl)];exact cz (by exact hvl) λi h1 h2=>by
     have:=hP i vs[i] (a8 h1);rw[de (by simpa using h2)]at this;exact(ab.inj this).symm
   replace hms:=(hvs)▸hms;cases ints_inj hms hints;have hkl:kvs.length=(kinds ns).length:=by have:=congrArg cy hkk;rwa[a7]at this
   have hle:=kinds_len ns;exact⟨y1,fr1,(kinds ns).length,e1,⟨S1.kp (s':={s1 with heap:=h',toks:=tk}) (.of keep rfl rfl),λA Q q=>call_len_dict (by simpa using hDm) hdict (len63 (a6 (aJ hkl) (a6 hle (leT (by assumption) rfl)))) (by refine(hkl).symm▸?_;exact q _)⟩,q2⟩
 cases v with
 |lst vs=>
  obtain⟨ns,en,q2⟩:=It.out q1;clear q1;cases intsOf_out en;obtain⟨a,xs,n,rfl,h1,h2⟩:=rv.list S1.hs.keepg;have ha:=Heap.lt_size h1;exact wpAny_pyIter_list (isList_of h1) (main ns a _ xs.toArray _ (by simpa using ints_of h2) q2.out.1 q2.out.2 ha rfl (Walks.list ok.rm.1 _ a (aY ha) xs.toArray) ⟨ieaa _ (Heap.get?_push_size _ rfl) rfl rfl,(isList_of h1).push _⟩)
 |tup vs=>
  obtain⟨ns,en,q2⟩:=It.out q1;clear q1;cases intsOf_out en;obtain⟨a,xs,n,rfl,h1,h2⟩:=rv.tup S1.hs.keepg;have ha:=Heap.lt_size h1;exact wpAny_pyIter_tuple (isTuple_of h1) (main ns a _ xs.toArray _ (by simpa using ints_of h2) q2.out.1 q2.out.2 ha rfl (Walks.tuple ok.rm.1 _ a (aY ha) xs.toArray) ⟨ieaa _ (Heap.get?_push_size _ rfl) rfl rfl,(isTuple_of h1).push _⟩)
 |_=>exact q1.elim
theorem HS.take1(h:HS c K g O L F s)(kD:K D=none)(off:HOff g O L F (·=D))(hw:w.cells=[0])(nd:NodeAt c s.heap g (λ_=>D) w):HS c K g (O.put l w) (L.put l λ_=>D) F s:=by
 refine oaa (off D rfl) λgD fD lD=>?_;have old:∀{x n},x≠l->L.put l (λ_=>D) x n=L x n:=λz=>congrFun (LM.put_ne _ z) _;have new:∀{n},L.put l (λ_=>D) l n=D:=congrFun (LM.put_same L l λ_=>D) _;have z0:∀{n},n∈w.cells->n=0:=λhn=>by rw[hw]at hn;exact af.mp hn
 refine⟨h.base,h.keepK,h.keepg,h.gens,h.os,λx v e=>?_,λx n x' n' i i' e=>?_,λx n i=>?_,λa fa=>iaaa ((h.frm a fa).1) ((h.frm a fa).2.1) ((h.frm a fa).2.2.1) (λx n i e=>?_)⟩
 ·unfold OM.put at e;split at e
  ·rename_i z;refine(ab.inj e)▸?_;rw[z,LM.put_same];exact nd
  ·rename_i z;rw[LM.put_ne _ z];exact h.node x v e
 ·rcases i.put with⟨rfl,hn⟩|⟨ne,j⟩<;>rcases i'.put with⟨rfl,hn'⟩|⟨ne',j'⟩
  ·exact⟨rfl,(z0 hn).trans (z0 hn').symm⟩
  ·simp only[new,old ne']at e;exact absurd e.symm (lD _ _ j')
  ·simp only[new,old ne]at e;exact absurd e (lD _ _ j)
  ·simp only[old ne,old ne']at e;exact h.inj _ _ _ _ j j' e
 ·rcases i.put with⟨rfl,hn⟩|⟨ne,j⟩
  ·refine(new).symm▸?_;exact⟨kD,gD⟩
  ·refine(old ne).symm▸?_;exact h.own _ _ j
 ·rcases i.put with⟨rfl,hn⟩|⟨ne,j⟩
  ·rw[new]at e;exact fD (e▸fa)
  ·rw[old ne]at e;exact(h.frm a fa).2.2.2 _ _ j e
theorem St.take1(S:St c Z y fr s)(kD:Z.K D=none)(off:HOff y.g (om fr Z.X) y.L (frameOf Z.env) (·=D))(hw:w.cells=[0])(nd:NodeAt c s.heap y.g (λ_=>D) w):St c (Z.push w) ⟨y.g,y.L.put (.tmp Z.X.length) λ_=>D⟩ fr s/\Ext Z true y ⟨y.g,y.L.put (.tmp Z.X.length) λ_=>D⟩:=by
 have ne:∀i,y.L.put (.tmp Z.X.length) (λ_=>D) (.var i)=y.L (.var i):=λi=>LM.put_ne _ λz=>nomatch z;refine⟨S.same (by rw[om_snoc];exact S.hs.take1 kD off hw nd) λi w e=>iea w e (λval h=>by rw[ne];exact h),.refl _ _,λi=>congrFun (ne i) 0,λ_ i n=>congrFun (ne i) n,λj hj n=>congrFun (LM.put_ne (L:=y.L) (x:=.tmp j) (λ_=>D) λz=>?_) n⟩;injection z with z;subst z;exact bQ _ hj
theorem SE.dict0(G:Gd c):SE c k sc (.Dict [] [] pos) fDict0 true:=by
 intro Z y fr s Q ok S q;refine wpAny_Dict_empty ?_;have hf:s.heap.get? s.heap.objs.size=none:=fresh_none _;have S1:St c Z y fr {s with heap:=s.heap.push {cls:=.type "dict",data:=.dict #[]}}:=S.kp (.of (λb o e=>Heap.get?_push_of_some _ e) rfl rfl);have hd:=Heap.DictOf.new (knd:=intKind c.prog c.w) s.heap;refine oa (S1.take1 (D:=s.heap.objs.size) (w:=.dict []) (S.hs.fresh hf).1 (λa z=>z▸(S.hs.fresh hf).2) rfl ⟨notMods G S,[],hd,rfl,rfl⟩) λS2 e2=>?_;exact⟨_,fr,.fresh (.dict []),e2,iaa S2 rfl (congrArg Value.ref (congrFun (LM.put_same y.L (.tmp Z.X.length) λ_=>s.heap.objs.size) 0).symm),q⟩
theorem SE.dict1(G:Gd c)(h1:SV c k sc e1 fv b1)(h2:SV c k sc e2 gv b2):SE c k sc (.Dict [some e1] [e2] pos) (fDict1 fv gv) (b1&&b2):=by
 intro Z y fr s Q ok S q;refine wpAny_Dict_walk (knd:=intKind c.prog c.w) rfl rfl (by simp) (by simp) ?_;refine pairTrees_cons_walk ?_;have hf:s.heap.get? s.heap.objs.size=none:=fresh_none _;have nM:=notMods G S;refine oaa (S.hideH (H:=(·=s.heap.objs.size)) (s':={s with heap:=s.heap.push {cls:=.type "dict",data:=.dict #[]}}) (λa z=>z▸hf) (λb ob e=>Heap.get?_push_of_some _ e) rfl rfl) λhid ng S0=>?_;have hd0:=Heap.DictOf.new (knd:=intKind c.prog c.w) s.heap;have hl:∀a,a=s.heap.objs.size->∃o,(s.heap.push {cls:=.type "dict",data:=.dict #[]}).get? a=some o:=λa z=>⟨_,z▸Heap.get?_push_size _ rfl⟩;refine h1.use (Z:=Z.hid (·=s.heap.objs.size) _) ⟨ok.sc,ok.rm⟩ S0 q λy1 fr1 v kv s1 x1 r1 q1=>?_;cases v with
 |int j=>
  obtain⟨S1,t,rfl⟩:=r1;refine h2.use (Z:=Z.hid (·=s.heap.objs.size) _) ⟨ok.sc,ok.rm⟩ S1 q1 λy2 fr2 u vv s2 x2 r2 q2=>?_;refine oa r2 λS2 r2=>?_;refine pairTrees_nil_walk (ieaa ([(j,vv)]) (iaa (by simp[intKind,Value.isInt]) rfl trivial) ((by refine oeeea hd0 λo b ep e0 r0=>?_;exact ieeea o b ep ((hid.after (X:=Z.X) S2 hl _ rfl).trans e0) r0)) (λh' hd' hs'=>?_));have ng2:=Hid.ng hl ng (x1.trans x2).g;have S3:=hid.gone (s':={s2 with heap:=h',toks:=s2.toks+1}) S2 hl ng2 (λb ob nb e=>(hs'.2 b nb).trans e) rfl rfl;obtain⟨S4,x4⟩:=S3.take1 (D:=s.heap.objs.size) (w:=.dict [(j,u)]) (hid.nK _ rfl) (hid.off S2 hl ng2) rfl ⟨nM,[(j,vv)],hd',rfl,⟨vv,[],rfl,r2,rfl⟩⟩;exact⟨_,fr2,.fresh (.dict [(j,u)]),(hid.extE (x1.trans x2)).r x4,iaa S4 rfl (congrArg Value.ref (congrFun (LM.put_same y2.L (.tmp Z.X.length) λ_=>s.heap.objs.size) 0).symm),q2⟩
 |_=>exact q1.elim
end
structure KF(c:Cx):Prop where
 gd:Gd c
 b:∀(i:Nat) n,tB[i]?=some n->nsIn c.Kf mainGlobals (Str.ofString n)=some none
 g:∀(i:Nat) n a,tG[i]?=some (n,a)->nsIn c.Kf mainGlobals (Str.ofString n)=some (some (.ref a))
 k:∀(i:Nat) a,tK[i]?=some a->keepIn c.Kf (.ref a)=true
 f:∀(i:Nat) a S ps,tF[i]?=some (a,S,ps)->∃fd,fd.scope=scopeOf S/\FnOk c a fd (bodyOf S) ps
 s:∀(i:Nat) a S ps C,tS[i]?=some (a,S,ps,C)->∃fd cc cda,fd.scope=scopeOf S/\FnOkS c a fd (bodyOf S) ps/\SupOk c a fd C C 295 cc cda 122
 ka:KA c
 cl:∀(i:Nat) C a,tC[i]?=some (C,a)->ClsOk c C a
noncomputable def plainE:Expr->Bool
 |.Starred ..=>false
 |.Slice ..=>false
 |.Set ..=>false
 |.ListComp ..=>false
 |.SetComp ..=>false
 |.DictComp ..=>false
 |_=>true
noncomputable def starE:Expr->Bool
 |.Starred ..=>false
 |_=>true
noncomputable def setE:Expr->Bool
 |.Set ..=>false
 |_=>true
noncomputable def callE:Expr->Bool
 |.Call _ [] _ _=>true
 |_=>false
noncomputable def tstE:Expr->Bool
 |.UnaryOp .Not _ _=>false
 |.BoolOp ..=>false
 |.IfExp ..=>false
 |.Compare ..=>false
 |_=>true
theorem star_ok{e:Expr}{es:List Expr}(h:starE e=true):∀env,starEach (e::es) env=(false,eval e env)::starEach es env:=by
 cases e<;>first|exact λ_=>rfl|exact ff h
theorem stars_ok:∀{es:List Expr},es.all starE=true->∀env pos,(backTo pos (starEach es env)).any (·.1)=false
 |[],_,_,_=>rfl
 |e::es,h,env,pos=>by
  simp only[bM,aB]at h;rw[star_ok h.1];exact stars_ok h.2 env pos
theorem sub_ok{e:Expr}(h:plainE e=true):∀x y,subscripted e false x y=operate [x,y] (getItem x y):=by
 cases e<;>first|exact λ_ _=>rfl|exact ff h
theorem fold_ok{e:Expr}(h:setE e=true):∀env x,foldedSetIterable e env x=pure x:=by
 cases e<;>first|exact λ_ _=>rfl|exact ff h
theorem swap_ok{e:Expr}(h:plainE e=true):∀t l env,swapsWith e t l env=pure false:=by
 cases e<;>first|exact λ_ _ _=>rfl|exact ff h
theorem beh_ok{e:Expr}(h:plainE e=true):∀op,behindInMarks op e=false:=by
 cases e<;>first|exact λ_=>rfl|exact ff h
theorem base_ok{e:Expr}(h:callE e=false):∀x env m,attributeBase e x env m=m:=by
 cases e with
 |Call f es ks p=>cases es with
  |nil=>injection h
  |cons _ _=>clear h;cases f<;>exact λ_ _ _=>rfl
 |_=>exact λ_ _ _=>rfl
theorem tst_ok{e:Expr}(h:tstE e=true):∀env whole,PySem.isTrue e env whole=(do let v ←whole;standAt e.pos;holding [v] (truthy v)):=by
 cases e with
 |UnaryOp op _ _=>cases op<;>first|exact λ_ _=>rfl|exact ff h
 |_=>first|exact λ_ _=>rfl|exact ff h
theorem attr_ok{e:Expr}(x:Str)(pos:Pos)(hc:callE e=false):∀env,eval (.Attribute e x pos) env=(do
 let o ←eval e env
 standAt pos.atName
 let r ←holding [o] (getAttr o x true)
 letTemporaryGo e o r
 pure r):=λenv=>by
 show(do
  let o ←attributeBase e x env (eval e env)
  standAt pos.atName
  let r ←holding [o] (getAttr o x true)
  letTemporaryGo e o r
  pure r)=_
 rw[base_ok hc]
theorem meth_ok{e:Expr}{X:Str}{ap pos:Pos}{es:List Expr}(hc:callE e=false)(hp:(ap.endLine==pos.line)=true)(hl:es.length<30)(ha:es.all starE=true):∀env,∃pl,eval (.Call (.Attribute e X ap) es [] pos) env=(do
 let ov ←eval e env
 standAt ap.atName
 let(f,first) ←holding [ov] (getMethod ov X pl)
 callWith pos f first (backTo pos (starEach es env)) (backToKw pos (keywordEach [] env))):=λenv=>by
 have hf:methodCallForm (es.length+0) (backTo pos (starEach es env)) (backToKw pos (keywordEach [] env))=true:=by
  unfold methodCallForm;simp only[aB,aB];refine⟨⟨?_,rfl⟩,decide_eq_true ?_⟩
  ·rw[List.all_eq_not_any_not];simp only[Bool.not_not];rw[stars_ok ha];rfl
  ·exact hl
 refine⟨do return (←importBound e env).getD true,?_⟩;show(do
  let ov ←attributeBase e X env (eval e env)
  standAt ap.atName
  methodCall e X ap pos env ov (es.length+0) (backTo pos (starEach es env)) (backToKw pos (keywordEach [] env)))=_
 rw[base_ok hc];delta methodCall methodCallPos;rw[hf,hp];rfl
inductive RT where
 |e (f:FE)
 |v (f:FV)
noncomputable def RT.onE{β:Type}:RT->(FE->β)->β
 |.e f,k=>k f
 |.v f,k=>k (fVal f)
noncomputable def RT.onV{β:Type}:RT->(FV->β)->β
 |.e f,k=>k (fPur f)
 |.v f,k=>k f
noncomputable def RT.onO{β:Type}:RT->(FO->β)->β
 |.e f,k=>k (fOp f)
 |.v f,k=>k (fOpV f)
structure CO(α β:Type) where
 x:α
 b:β
 ok:Bool
 hs:List Nat
noncomputable def CO.go{α β γ:Type}:CO α β->(α->β->Bool->List Nat->γ)->γ
 |⟨x,b,ok,hs⟩,k=>k x b ok hs
noncomputable def hd{β:Type}:List Nat->(Nat->List Nat->β)->β
 |[],k=>k 0 []
 |i::hs,k=>k i hs
theorem hd_ind{β:Type}{P:β->Prop}{hs:List Nat}{k:Nat->List Nat->β}(h:∀i hs,P (k i hs)):P (hd hs k):=by
 cases hs<;>exact h _ _
structure CC where
 r:Scope->Expr->List Nat->CO RT Bool
 t:Scope->Expr->List Nat->CO FB Bool
 s:Scope->Stmt->List Nat->CO FS (List Nat)
noncomputable def badR:CO RT Bool:=⟨.v (fV .none),true,false,[]⟩
noncomputable def badT:CO FB Bool:=⟨fTrue,true,false,[]⟩
noncomputable def badS:CO FS (List Nat):=⟨fRet0,[],false,[]⟩
noncomputable def cOs(C:CC)(sc:Scope):List Expr->List Nat->CO (Pw (List Ow)) Bool
 |[],hs=>⟨fNil,true,true,hs⟩
 |e::es,hs=>(C.r sc e hs).go λf b1 o1 hs=>f.onO λg=>(cOs C sc es hs).go λfs b2 o2 hs=>⟨fOcons g fs b2,b1&&b2,o1&&(o2&&starE e),hs⟩
noncomputable def cVs(C:CC)(sc:Scope):List Expr->List Nat->CO (Pw (List V)) Bool
 |[],hs=>⟨fNil,true,true,hs⟩
 |e::es,hs=>(C.r sc e hs).go λf b1 o1 hs=>f.onV λg=>(cVs C sc es hs).go λfs b2 o2 hs=>⟨fCons g fs,b1&&b2,o1&&(o2&&starE e),hs⟩
noncomputable def cRs(C:CC)(sc:Scope):List Expr->List Nat->CO (Pw (List Rz)) Bool
 |[],hs=>⟨fNil,true,true,hs⟩
 |e::es,hs=>(C.r sc e hs).go λf b1 o1 hs=>f.onE λg=>(cRs C sc es hs).go λfs b2 o2 hs=>⟨fRcons g fs,b1&&b2,o1&&(o2&&starE e),hs⟩
noncomputable def cTs(C:CC)(sc:Scope)(op:BoolOp):List Expr->List Nat->CO FB Bool
 |[],hs=>(match op with|.And=>⟨fTrue,true,true,hs⟩|.Or=>⟨fFalse,true,true,hs⟩)
 |e::es,hs=>(C.t sc e hs).go λf b1 o1 hs=>(cTs C sc op es hs).go λg b2 o2 hs=>(match op with|.And=>⟨fAnd f g,b1&&b2,o1&&o2,hs⟩|.Or=>⟨fOr f g,b1&&b2,o1&&o2,hs⟩)
noncomputable def cVB(C:CC)(sc:Scope)(op:BoolOp):List Expr->List Nat->CO FB Bool
 |[],hs=>badT
 |[e],hs=>(C.r sc e hs).go λf b1 o1 hs=>f.onV λf=>⟨fTest f,b1,o1,hs⟩
 |e::e2::es,hs=>(C.r sc e hs).go λf b1 o1 hs=>f.onV λf=>(cVB C sc op (e2::es) hs).go λg b2 o2 hs=>(match op with|.And=>⟨fAnd (fTest f) g,b1&&b2,o1&&o2,hs⟩|.Or=>⟨fOr (fTest f) g,b1&&b2,o1&&o2,hs⟩)
noncomputable def cSs(C:CC)(sc:Scope):List Stmt->List Nat->CO FS (List Nat)
 |[],hs=>⟨fNext,[],true,hs⟩
 |e::es,hs=>(C.s sc e hs).go λf b1 o1 hs=>(cSs C sc es hs).go λg b2 o2 hs=>⟨fSeq f g,b1++b2,o1&&o2,hs⟩
section
variable{c:Cx}{k:Nat}{sc:Scope}{C:CC}
def JR(c:Cx)(k:Nat)(sc:Scope)(e:Expr):RT->Bool->Prop
 |.e f,b=>SE c k sc e f b
 |.v f,b=>SV c k sc e f b
structure CC.Ok(c:Cx)(k:Nat)(C:CC):Prop where
 r:∀sc e hs,(C.r sc e hs).ok=true->JR c k sc e (C.r sc e hs).x (C.r sc e hs).b
 t:∀sc e hs,(C.t sc e hs).ok=true->SB c k sc e (C.t sc e hs).x (C.t sc e hs).b
 s:∀sc e hs,(C.s sc e hs).ok=true->SS1 c k sc e (C.s sc e hs).x (C.s sc e hs).b
theorem and1{a b:Bool}(h:(a&&b)=true):a=true:=by cases a with|true=>rfl|false=>exact h
theorem and2{a b:Bool}(h:(a&&b)=true):b=true:=by cases a with|true=>exact h|false=>exact ff h
theorem go_ind{α β γ:Type}{P:γ->Prop}{r:CO α β}{k:α->β->Bool->List Nat->γ}(h:P (k r.x r.b r.ok r.hs)):P (r.go k):=h
theorem onE_ind(c:Cx)(k:Nat){β:Type}{P:β->Prop}{k':FE->β}:∀{x:RT},(∀f,(∀{sc e b},JR c k sc e x b->SE c k sc e f b)->P (k' f))->P (x.onE k')
 |.e f,h=>h f λx=>x
 |.v f,h=>h _ λx=>.of x
theorem onV_ind(c:Cx)(k:Nat){β:Type}{P:β->Prop}{k':FV->β}:∀{x:RT},(∀f,(∀{sc e b},JR c k sc e x b->SV c k sc e f b)->P (k' f))->P (x.onV k')
 |.e f,h=>h _ λx=>.of x
 |.v f,h=>h f λx=>x
theorem onO_ind(c:Cx)(k:Nat){β:Type}{P:β->Prop}{k':FO->β}:∀{x:RT},(∀f,(∀{sc e b},JR c k sc e x b->SO c k sc e f b)->P (k' f))->P (x.onO k')
 |.e f,h=>h _ λx=>.of x
 |.v f,h=>h _ λx=>.ofV x
theorem cOs_ok(H:C.Ok c k):∀(es:List Expr) (hs:List Nat),(cOs C sc es hs).ok=true->SOs c k sc es (cOs C sc es hs).x (cOs C sc es hs).b
 |[],hs,_=>.nil
 |e::es,hs,h=>by
  revert h
  refine go_ind (P:=λr:CO (Pw (List Ow)) Bool=>r.ok=true->SOs c k sc (e::es) r.x r.b) ?_;refine onO_ind c k (P:=λr:CO (Pw (List Ow)) Bool=>r.ok=true->SOs c k sc (e::es) r.x r.b) λf hf h=>?_;exact .cons (star_ok (and2 (and2 h))) (hf (H.r _ _ _ (and1 h))) (cOs_ok H es _ (and1 (and2 h)))
theorem cVs_ok(H:C.Ok c k):∀(es:List Expr) (hs:List Nat),(cVs C sc es hs).ok=true->SVs c k sc es (cVs C sc es hs).x (cVs C sc es hs).b
 |[],hs,_=>.nil
 |e::es,hs,h=>by
  revert h
  refine go_ind (P:=λr:CO (Pw (List V)) Bool=>r.ok=true->SVs c k sc (e::es) r.x r.b) ?_;refine onV_ind c k (P:=λr:CO (Pw (List V)) Bool=>r.ok=true->SVs c k sc (e::es) r.x r.b) λf hf h=>?_;exact .cons (star_ok (and2 (and2 h))) (hf (H.r _ _ _ (and1 h))) (cVs_ok H es _ (and1 (and2 h)))
theorem cRs_ok(H:C.Ok c k):∀(es:List Expr) (hs:List Nat),(cRs C sc es hs).ok=true->SRs c k sc es (cRs C sc es hs).x (cRs C sc es hs).b
 |[],hs,_=>.nil
 |e::es,hs,h=>by
  revert h
  refine go_ind (P:=λr:CO (Pw (List Rz)) Bool=>r.ok=true->SRs c k sc (e::es) r.x r.b) ?_;refine onE_ind c k (P:=λr:CO (Pw (List Rz)) Bool=>r.ok=true->SRs c k sc (e::es) r.x r.b) λf hf h=>?_;exact .cons (star_ok (and2 (and2 h))) (hf (H.r _ _ _ (and1 h))) (cRs_ok H es _ (and1 (and2 h)))
theorem cTs_ok(H:C.Ok c k)(op:BoolOp):∀(es:List Expr) (hs:List Nat),(cTs C sc op es hs).ok=true->SBs c k sc op es (cTs C sc op es hs).x (cTs C sc op es hs).b
 |[],hs,h=>by revert h;cases op;exact λ_=>.and_nil;exact λ_=>.or_nil
 |e::es,hs,h=>by
  have h2:=cTs_ok H op es (C.t sc e hs).hs
  revert h
  cases op
  ·exact λh=>.and_cons (H.t sc e hs (and1 h)) (h2 (and2 h))
  ·exact λh=>.or_cons (H.t sc e hs (and1 h)) (h2 (and2 h))
theorem cVB_ok(H:C.Ok c k)(op:BoolOp):∀(es:List Expr) (hs:List Nat),(cVB C sc op es hs).ok=true->SVB c k sc op es (cVB C sc op es hs).x (cVB C sc op es hs).b
 |[],hs,h=>nomatch h
 |[e],hs,h=>by
  revert h
  exact onV_ind c k (P:=λr:CO FB Bool=>r.ok=true->SVB c k sc op [e] r.x r.b) λf hf h=>.one (hf (H.r sc e hs h))
 |e::e2::es,hs,h=>by
  have h2:=cVB_ok H op (e2::es) (C.r sc e hs).hs
  revert h
  cases op
  ·exact onV_ind c k (P:=λr:CO FB Bool=>r.ok=true->SVB c k sc .And (e::e2::es) r.x r.b) λf hf h=>.and (hf (H.r sc e hs (and1 h))) (h2 (and2 h))
  ·exact onV_ind c k (P:=λr:CO FB Bool=>r.ok=true->SVB c k sc .Or (e::e2::es) r.x r.b) λf hf h=>.or (hf (H.r sc e hs (and1 h))) (h2 (and2 h))
theorem cSs_ok(H:C.Ok c k):∀(es:List Stmt) (hs:List Nat),(cSs C sc es hs).ok=true->SS c k sc es (cSs C sc es hs).x (cSs C sc es hs).b
 |[],hs,_=>.nil
 |e::es,hs,h=>.cons (H.s sc e hs (and1 h)) (cSs_ok H es _ (and2 h))
end
noncomputable def biL:List (String×FBi):=[("len",lenW),("max",maxW),("min",minW),("sum",sumW),("sorted",sortW),("range",rangeW),("tuple",tupW),("list",lstW),("sorted",sortTW)]
def HW(c:Cx)(v:Value)(es:List Expr):Prop:=∀env pos A s (Q:Value->Shared->Prop),c.Kf.In s.heap->wpAny c.M A (spliced (backTo pos (starEach es env))) (λvs s₁=>c.Kf.In s₁.heap/\wpAny c.M A (PySem.call v ([]++vs)) Q noE s₁) noE s->wpAny c.M A (callWith pos v [] (backTo pos (starEach es env)) []) Q noE s
structure BiOk(c:Cx)(k:Nat)(n:String)(F:FBi)(v:Value):Prop where
 w:BiW c k v true F
 bb:bootBuiltins (Str.ofString n)=some v
 no:nsIn c.Kf mainGlobals (Str.ofString n)=some none
 nn:Str.ofString n≠"__name__"
 dbg:(Str.ofString n==("__debug__":Str))=false
 hw:∀e es,starE e=true->es.all starE=true->HW c v (e::es)
section
variable{c:Cx}{k:Nat}{sc:Scope}{C:CC}
theorem hwB{id:String}:∀e es,starE e=true->es.all starE=true->HW c (.builtin id) (e::es):=λe es h1 h2 env pos A s Q X h=>CallW.b (star_ok h1) (stars_ok h2) env pos A s [] Q X h
theorem hwT{id:String}:∀e es,starE e=true->es.all starE=true->HW c (.type id) (e::es):=λe es h1 h2 env pos A s Q _ h=>CallW.t (star_ok h1) (stars_ok h2) env pos A s Q h
theorem bi_ok(H:KF c):∀(j:Nat) n F,biL[j]?=some (n,F)->∃v,BiOk c k n F v
 |0,_,_,h=>by injection h with h;injections;subst_vars;exact⟨_,biLen,rfl,H.b 0 _ rfl,by decide,rfl,hwB⟩
 |1,_,_,h=>by injection h with h;injections;subst_vars;exact⟨_,biMax,rfl,H.b 1 _ rfl,by decide,rfl,hwB⟩
 |2,_,_,h=>by injection h with h;injections;subst_vars;exact⟨_,biMin,rfl,H.b 2 _ rfl,by decide,rfl,hwB⟩
 |3,_,_,h=>by injection h with h;injections;subst_vars;exact⟨_,biSum,rfl,H.b 3 _ rfl,by decide,rfl,hwB⟩
 |4,_,_,h=>by injection h with h;injections;subst_vars;exact⟨_,biSorted,rfl,H.b 4 _ rfl,by decide,rfl,hwB⟩
 |5,_,_,h=>by injection h with h;injections;subst_vars;exact⟨_,biRange,rfl,H.b 5 _ rfl,by decide,rfl,hwT⟩
 |6,_,_,h=>by injection h with h;injections;subst_vars;exact⟨_,biTuple,rfl,H.b 6 _ rfl,by decide,rfl,hwT⟩
 |7,_,_,h=>by injection h with h;injections;subst_vars;exact⟨_,biList,rfl,H.b 7 _ rfl,by decide,rfl,hwT⟩
 |8,_,_,h=>by injection h with h;injections;subst_vars;exact⟨_,biSortedT,rfl,H.b 4 _ rfl,by decide,rfl,hwB⟩
 |_+9,_,_,h=>nomatch h
noncomputable def glB(sc:Scope)(x:Str):Bool:=decide (sc.names.lookup x=some .globalImplicit)
noncomputable def callN(C:CC)(sc:Scope)(x:Str)(es:List Expr)(hs:List Nat):CO RT Bool:=
 hd hs λj hs=>hd hs λq hs=>(cOs C sc es hs).go λfs b ok hs=>
  match q with
  |0=>match biL[j]? with
   |some (n,F)=>⟨.e (fBi F fs),b,ok&&(decide (x=Str.ofString n)&&(glB sc x&&(es.all starE&&!es.isEmpty))),hs⟩
   |none=>badR
  |q+1=>match tG[j]? with
   |some (n,a)=>⟨.e (fCall a fs),false,ok&&(decide (x=Str.ofString n)&&(glB sc x&&(es.all starE&&(decide (tK[q]?=some a)&&!(x==("__debug__":Str)))))),hs⟩
   |none=>badR
abbrev SR(c:Cx)(k:Nat)(sc:Scope)(e:Expr)(r:CO RT Bool):Prop:=r.ok=true->JR c k sc e r.x r.b
theorem callN_ok(K:KF c)(H:C.Ok c k){x:Str}{p pos:Pos}{es:List Expr}{hs:List Nat}:SR c k sc (.Call (.Name x p) es [] pos) (callN C sc x es hs):=by
 refine hd_ind (P:=SR c k sc _) λj hs=>hd_ind (P:=SR c k sc _) λq hs=>?_;refine go_ind (P:=SR c k sc _) ?_;have ho:=cOs_ok (sc:=sc) H es hs;generalize cOs C sc es hs=r at *;cases q with
 |zero=>
  show SR c k sc _ (match biL[j]? with|some (n,F)=>_|none=>badR);cases e:biL[j]? with
  |none=>exact ff
  |some nF=>
   obtain⟨n,F⟩:=nF;intro h;refine oe (bi_ok (k:=k) K j n F e) λv B=>?_;have hx:=of_decide_eq_true (and1 (and2 h));subst hx;cases es with
   |nil=>exact ff (and2 (and2 (and2 (and2 h))))
   |cons e1 es=>
    have hp:=and1 (and2 (and2 (and2 h)));exact SE.bi B.w (.builtin B.no B.bb B.nn (of_decide_eq_true (and1 (and2 (and2 h)))) B.dbg) (B.hw e1 es (and1 hp) (and2 hp)) (ho (and1 h)) λ_=>rfl
 |succ q=>
  show SR c k sc _ (match tG[j]? with|some (n,F)=>_|none=>badR);cases e:tG[j]? with
  |none=>exact ff
  |some nF=>
   obtain⟨n,a⟩:=nF;intro h;have hx:=of_decide_eq_true (and1 (and2 h));subst hx;have h3:=and2 (and2 (and2 h));have kp:=K.k q a (of_decide_eq_true (and1 (and2 h3)));have hw:CallW c (.ref a) es:=by
    cases es with
    |nil=>exact .fn0 kp
    |cons e1 es=>exact .fn kp (star_ok (and1 (and1 h3))) (stars_ok (and2 (and1 h3)))
   exact SE.call (.glob (K.g j n a e) (of_decide_eq_true (and1 (and2 (and2 h)))) (by have:=and2 (and2 h3);rwa[bO]at this)) (λenv pos A s Q X h=>hw env pos A s [] Q X h) (ho (and1 h)) λ_=>rfl
noncomputable def lmL:List LMt:=[.append,.pop,.extend,.index,.count,.text]
noncomputable def lmB:LMt->Str->Bool
 |.append,x=>decide (x=Str.ofString "append")
 |.pop,x=>decide (x=Str.ofString "pop")
 |.extend,x=>decide (x=Str.ofString "extend")
 |.index,x=>decide (x=Str.ofString "index")
 |.count,x=>decide (x=Str.ofString "count")
 |.text,_=>true
theorem lmB_ok:∀{l:LMt} {x:Str},lmB l x=true->lmName l x
 |.append,x,h=>(of_decide_eq_true h:x=Str.ofString "append")
 |.pop,x,h=>(of_decide_eq_true h:x=Str.ofString "pop")
 |.extend,x,h=>(of_decide_eq_true h:x=Str.ofString "extend")
 |.index,x,h=>(of_decide_eq_true h:x=Str.ofString "index")
 |.count,x,h=>(of_decide_eq_true h:x=Str.ofString "count")
 |.text,_,_=>trivial
noncomputable def callM(C:CC)(sc:Scope)(e:Expr)(X:Str)(ap:Pos)(es:List Expr)(pos:Pos)(hs:List Nat):CO RT Bool:=
 hd hs λm hs=>hd hs λj hs=>(C.r sc e hs).go λf b1 o1 hs=>f.onO λf=>(cOs C sc es hs).go λfs b2 o2 hs=>
  match lmL[j]? with
  |some lm=>⟨.e (fMeth m lm f fs b2),false,o1&&(o2&&(decide (nm m=X)&&(lmB lm X&&(!callE e&&((ap.endLine==pos.line)&&(decide (es.length<30)&&es.all starE)))))),hs⟩
  |none=>badR
theorem callM_ok(K:KF c)(H:C.Ok c k){e:Expr}{X:Str}{ap pos:Pos}{es:List Expr}{hs:List Nat}:SR c k sc (.Call (.Attribute e X ap) es [] pos) (callM C sc e X ap es pos hs):=by
 refine hd_ind (P:=SR c k sc _) λm hs=>hd_ind (P:=SR c k sc _) λj hs=>?_;refine go_ind (P:=SR c k sc _) ?_;have hr:=H.r sc e hs;generalize C.r sc e hs=r at *;refine onO_ind c k (P:=SR c k sc _) λf hf=>?_;refine go_ind (P:=SR c k sc _) ?_;have ho:=cOs_ok (sc:=sc) H es r.hs;generalize cOs C sc es r.hs=r2 at *;cases e:lmL[j]? with
 |none=>exact ff
 |some lm=>
  intro h;have h1:=and2 (and2 h);have h2:=and2 (and2 h1);have h3:=and2 (and2 h2);have hc:=and1 h2;rw[bO]at hc;have W:(∀id,CallW c (.builtin id) es)/\∀f:Nat,keepIn c.Kf (.ref f)=true->CallW c (.ref f) es:=by
   cases es with
   |nil=>exact⟨λ_=>.b0,λ_ h=>.fn0 h⟩
   |cons e1 es=>exact⟨λ_=>.b (star_ok (and1 (and2 h3))) (stars_ok (and2 (and2 h3))),λ_ h=>.fn h (star_ok (and1 (and2 h3))) (stars_ok (and2 (and2 h3)))⟩
  exact SE.meth K.ka (of_decide_eq_true (and1 h1)) (lmB_ok (and1 (and2 h1))) W.1 W.2 (hf (hr (and1 h))) (ho (and1 (and2 h))) (meth_ok hc (and1 (and2 h2)) (of_decide_eq_true (and1 h3)) (and2 h3))
end
noncomputable def wrB(sc:Scope)(x:Str):Bool:=decide (sc.names.lookup x=some .local)||decide (sc.names.lookup x=some .cell)
noncomputable def cNm(sc:Scope):List Expr->List Nat->CO (List Nat) Unit
 |.Name x _::es,hs=>hd hs λi hs=>(cNm sc es hs).go λis _ ok hs=>⟨i::is,(),ok&&(decide (nm i=x)&&wrB sc x),hs⟩
 |[],hs=>⟨[],(),true,hs⟩
 |_,hs=>⟨[],(),false,hs⟩
noncomputable def cTg(sc:Scope)(t:Expr)(hs:List Nat):CO Tgt Unit:=match t with
 |.Name x _=>hd hs λi hs=>⟨.one i,(),decide (nm i=x)&&wrB sc x,hs⟩
 |.Tuple ts _ _=>(cNm sc ts hs).go λis _ ok hs=>⟨.tup is,(),ok,hs⟩
 |_=>⟨.one 0,(),false,hs⟩
noncomputable def cIfs(C:CC)(sc:Scope):List Expr->List Nat->CO (List FB) Unit
 |[],hs=>⟨[],(),true,hs⟩
 |e::es,hs=>(C.t sc e hs).go λf b o1 hs=>(cIfs C sc es hs).go λfs _ o2 hs=>⟨f::fs,(),o1&&o2,hs⟩
noncomputable def tk{β:Type}:Nat->List Nat->(List Nat->List Nat->β)->β
 |n+1,i::hs,k=>tk n hs λis hs=>k (i::is) hs
 |_,hs,k=>k [] hs
noncomputable def cmpB(sc scope:Scope)(cs:List Nat):Bool:=decide ((scope.kind=.function/\sc.kind=.function)/\((scope.names.map (·.1)).Nodup/\(∀x∈scope.names,x.2=.free->sc.names.lookup x.1=some .cell))/\
 ((∀i∈cs,scope.names.lookup (nm i)=some .free)/\(∀x∈scope.names,x.2=.free->∃i∈cs,nm i=x.1))/\∀y∈scope.names,y.2=.local->scope.names.lookup y.1=some .local)
structure CP where
 cs:List Nat
 fv:FV
 tg:Tgt
 g:FAcc
noncomputable def badP:CO CP Unit:=⟨⟨[],fV .none,.one 0,λ_ _ _ _=>False⟩,(),false,[]⟩
noncomputable def cComp(C:CC)(sc:Scope)(elt:Expr)(gens:List Comprehension)(scope:Scope)(hs:List Nat):CO CP Unit:=
 match gens with
 |[⟨t,i,ifs,a⟩]=>(C.r sc i hs).go λfi _ o1 hs=>fi.onV λfi=>hd hs λn hs=>tk n hs λcs hs=>(cTg (relabelS scope sc) t hs).go λtg _ o2 hs=>(cIfs C (relabelS scope sc) ifs hs).go λfbs _ o3 hs=>(C.r (relabelS scope sc) elt hs).go λfe _ o4 hs=>fe.onV λfe=>
    ⟨⟨cs,fi,tg,w1 fbs fe⟩,(),(o1&&o2)&&((o3&&o4)&&(cmpB sc scope cs&&(setE i&&decide (a=0)))),hs⟩
 |[⟨t,i,ifs,a⟩,⟨t2,i2,ifs2,a2⟩]=>(C.r sc i hs).go λfi _ o1 hs=>fi.onV λfi=>hd hs λn hs=>tk n hs λcs hs=>(cTg (relabelS scope sc) t hs).go λtg _ o2 hs=>(cIfs C (relabelS scope sc) ifs hs).go λfbs _ o3 hs=>
    (C.r (relabelS scope sc) i2 hs).go λfi2 _ o4 hs=>fi2.onV λfi2=>(cTg (relabelS scope sc) t2 hs).go λtg2 _ o5 hs=>(cIfs C (relabelS scope sc) ifs2 hs).go λfbs2 _ o6 hs=>(C.r (relabelS scope sc) elt hs).go λfe _ o7 hs=>fe.onV λfe=>
    ⟨⟨cs,fi,tg,w2 fbs fi2 tg2 (w1 fbs2 fe)⟩,(),((o1&&o2)&&((o3&&o4)&&(cmpB sc scope cs&&(setE i&&decide (a=0)))))&&((o5&&o6)&&(o7&&(setE i2&&decide (a2=0)))),hs⟩
 |_=>badP
section
variable{c:Cx}{k:Nat}{sc:Scope}{C:CC}
theorem wr_ok{x:Str}(h:wrB sc x=true):Writable sc x:=by
 rcases Bool.or_eq_true_iff.mp h with h|h
 ·exact .inl (of_decide_eq_true h)
 ·exact .inr (of_decide_eq_true h)
theorem cNm_ok:∀(es:List Expr) (hs:List Nat),(cNm sc es hs).ok=true->NamesAre es (cNm sc es hs).x/\allW sc es
 |[],_,_=>⟨.nil,trivial⟩
 |e::es,hs,h=>by
  cases e with
  |Name x p=>
   revert h
   refine hd_ind (P:=λr:CO (List Nat) Unit=>r.ok=true->NamesAre (.Name x p::es) r.x/\allW sc (.Name x p::es)) λi hs h=>?_;obtain⟨h1,h2⟩:=cNm_ok es hs (and1 h);exact⟨.cons (of_decide_eq_true (and1 (and2 h))) h1,wr_ok (and2 (and2 h)),h2⟩
  |_=>exact ff h
theorem cTg_ok{t:Expr}{hs:List Nat}:(cTg sc t hs).ok=true->TgtOk sc t (cTg sc t hs).x:=by
 cases t with
 |Name x p=>exact hd_ind (P:=λr:CO Tgt Unit=>r.ok=true->TgtOk sc (.Name x p) r.x) λi hs h=>⟨of_decide_eq_true (and1 h),wr_ok (and2 h)⟩
 |Tuple ts _ _=>exact λh=>cNm_ok ts hs h
 |_=>exact ff
theorem cIfs_ok(H:C.Ok c k):∀(es:List Expr) (hs:List Nat),(cIfs C sc es hs).ok=true->IfsW c k sc es (cIfs C sc es hs).x
 |[],_,_=>.nil
 |e::es,hs,h=>.cons (H.t sc e hs (and1 h)) (cIfs_ok H es _ (and2 h))
theorem tk_ind{β:Type}{P:β->Prop}:∀{n:Nat} {hs:List Nat} {k:List Nat->List Nat->β},(∀is hs,P (k is hs))->P (tk n hs k)
 |0,[],_,h=>h _ _
 |0,_::_,_,h=>h _ _
 |n+1,[],_,h=>h _ _
 |n+1,i::hs,k,h=>tk_ind (n:=n) (k:=λis hs=>k (i::is) hs) λis hs=>h _ _
inductive CPOk(c:Cx)(k:Nat)(sc:Scope)(elt:Expr)(gens:List Comprehension)(scope:Scope)(p:CP):Prop
 |mk (t i:Expr) (ifs:List Expr) (gs:List Comprehension) (b:Bool) (e:gens=⟨t,i,ifs,0⟩::gs) (h:CompS sc scope p.cs) (hi:SV c k sc i p.fv b) (ht:TgtOk (relabelS scope sc) t p.tg)
  (L:∀pos,AL c k (relabelS scope sc) (.ListComp elt gens scope pos) 0 t p.tg p.g) (hf:∀env x,foldedSetIterable i env x=pure x) (hl:∀y∈scope.names,y.2=.local->scope.names.lookup y.1=some .local):CPOk c k sc elt gens scope p
theorem cmp_ok'{scope:Scope}{cs:List Nat}(h:cmpB sc scope cs=true):CompS sc scope cs/\∀y∈scope.names,y.2=.local->scope.names.lookup y.1=some .local:=by
 have h:=of_decide_eq_true h;exact⟨⟨h.1.1,h.1.2,h.2.1.1,h.2.1.2,h.2.2.1.1,h.2.2.1.2⟩,h.2.2.2⟩
theorem cComp_ok(H:C.Ok c k){elt:Expr}{scope:Scope}{hs:List Nat}:∀{gens:List Comprehension},(cComp C sc elt gens scope hs).ok=true->CPOk c k sc elt gens scope (cComp C sc elt gens scope hs).x
 |[],h=>ff h
 |[⟨t,i,ifs,a⟩],h=>by
  revert h
  refine onV_ind c k (P:=λr:CO CP Unit=>r.ok=true->CPOk c k sc elt _ scope r.x) λfi hi=>hd_ind (P:=λr:CO CP Unit=>r.ok=true->CPOk c k sc elt _ scope r.x) λn hs2=>tk_ind (P:=λr:CO CP Unit=>r.ok=true->CPOk c k sc elt _ scope r.x) λcs hs3=>
   onV_ind c k (P:=λr:CO CP Unit=>r.ok=true->CPOk c k sc elt _ scope r.x) λfe he h=>?_
  have h2:=and2 (and2 (and2 h));have ha:=of_decide_eq_true (and2 h2);refine ha.symm▸?_;have cm:=cmp_ok' (and1 (and2 (and2 h)));exact⟨t,i,ifs,[],_,rfl,cm.1,hi (H.r _ _ _ (and1 (and1 h))),cTg_ok (and2 (and1 h)),λpos=>SL.last rfl rfl (cTg_ok (and2 (and1 h))) (cIfs_ok H _ _ (and1 (and1 (and2 h)))) (he (H.r _ _ _ (and2 (and1 (and2 h))))),fold_ok (and1 h2),cm.2⟩
 |[⟨t,i,ifs,a⟩,⟨t2,i2,ifs2,a2⟩],h=>by
  revert h
  refine onV_ind c k (P:=λr:CO CP Unit=>r.ok=true->CPOk c k sc elt _ scope r.x) λfi hi=>hd_ind (P:=λr:CO CP Unit=>r.ok=true->CPOk c k sc elt _ scope r.x) λn hs2=>tk_ind (P:=λr:CO CP Unit=>r.ok=true->CPOk c k sc elt _ scope r.x) λcs hs3=>
   onV_ind c k (P:=λr:CO CP Unit=>r.ok=true->CPOk c k sc elt _ scope r.x) λfi2 hi2=>
   onV_ind c k (P:=λr:CO CP Unit=>r.ok=true->CPOk c k sc elt _ scope r.x) λfe he h=>?_
  have h1:=and1 h;have h0:=and2 h;have h2:=and2 (and2 (and2 h1));have h3:=and2 (and2 h0);have ha:=of_decide_eq_true (and2 h2);have ha2:=of_decide_eq_true (and2 h3);subst ha ha2;have cm:=cmp_ok' (and1 (and2 (and2 h1)));exact⟨t,i,ifs,_,_,rfl,cm.1,hi (H.r _ _ _ (and1 (and1 h1))),cTg_ok (and2 (and1 h1)),λpos=>SL.outer rfl rfl (cTg_ok (and2 (and1 h1))) (cTg_ok (and1 (and1 h0))) (cIfs_ok H _ _ (and1 (and1 (and2 h1)))) (hi2 (H.r _ _ _ (and2 (and1 (and2 h1))))) (fold_ok (and1 h3))
   (SL.last rfl rfl (cTg_ok (and1 (and1 h0))) (cIfs_ok H _ _ (and2 (and1 h0))) (he (H.r _ _ _ (and1 (and2 h0))))),fold_ok (and1 h2),cm.2⟩
 |⟨_,_,_,_⟩::⟨_,_,_,_⟩::_::_,h=>ff h
end
noncomputable def sliceU:Expr->Option Expr
 |.Slice l u s _=>(match l with|none=>(match s with|none=>u|some _=>none)|some _=>none)
 |_=>none
theorem sliceU_out{e u:Expr}(h:sliceU e=some u):∃q,e=.Slice none (some u) none q:=by
 cases e with
 |Slice l w s q=>cases l with
  |none=>cases s with
   |none=>exact⟨q,by rw[show w=some u from h]⟩
   |some _=>exact nos h
  |some _=>exact nos h
 |_=>exact nos h
noncomputable def stepR(C:CC)(sc:Scope)(e:Expr)(hs:List Nat):CO RT Bool:=match e with
 |.Constant q _ _=>(match q with
  |.int i=>⟨.v (fV (.int i)),true,true,hs⟩
  |.str i=>⟨.v (fV (.str i)),true,true,hs⟩
  |.bool i=>⟨.v (fV (.bool i)),true,true,hs⟩
  |.none=>⟨.v (fV .none),true,true,hs⟩
  |_=>badR)
 |.Name x _=>hd hs λi hs=>⟨.e (fName i),true,decide (nm i=x),hs⟩
 |.Attribute e x _=>hd hs λi hs=>(C.r sc e hs).go λf b ok hs=>f.onE λg=>⟨.e (fAttr i g),b,ok&&(decide (nm i=x)&&!callE e),hs⟩
 |.Subscript e1 e2 _=>(C.r sc e1 hs).go λf b1 o1 hs=>f.onO λf=>(match sliceU e2 with
  |some u=>(C.r sc u hs).go λg b2 o2 hs=>g.onV λg=>⟨.e (fSlice f g b2),b1&&b2,o1&&o2,hs⟩
  |none=>(C.r sc e2 hs).go λg b2 o2 hs=>g.onO λg=>⟨.v (fItem f g b2),b1&&b2,o1&&(o2&&plainE e2),hs⟩)
 |.Call f es ks p=>(match ks with
  |[]=>(match f with
   |.Name x _=>callN C sc x es hs
   |.Attribute e X ap=>callM C sc e X ap es p hs
   |_=>badR)
  |_=>badR)
 |.Compare l ops rs _=>(match ops,rs with
  |[op],[r]=>(C.r sc l hs).go λf b1 o1 hs=>f.onO λf=>(C.r sc r hs).go λg b2 o2 hs=>g.onO λg=>⟨.v (fBoolV (fCmp op f g b2)),b1&&b2,o1&&(o2&&plainE r),hs⟩
  |_,_=>badR)
 |.UnaryOp op e _=>(C.r sc e hs).go λf b ok hs=>f.onV λf=>(match op with
  |.USub=>⟨.v (fNeg f),b,ok,hs⟩
  |.Not=>⟨.v (fBoolV (fNot (fTest f))),b,ok,hs⟩
  |_=>badR)
 |.BoolOp op es _=>(cVB C sc op es hs).go λf b ok hs=>⟨.v (fBoolV f),b,ok,hs⟩
 |.IfExp t a z _=>(C.t sc t hs).go λf b1 o1 hs=>(C.r sc a hs).go λg b2 o2 hs=>g.onE λg=>(C.r sc z hs).go λh b3 o3 hs=>h.onE λh=>⟨.e (fIf f g h),b1&&(b2&&b3),o1&&(o2&&o3),hs⟩
 |.BinOp l op r _=>(C.r sc l hs).go λf b1 o1 hs=>f.onO λf=>(C.r sc r hs).go λg b2 o2 hs=>g.onO λg=>⟨.e (fBin op f g b2),b1&&b2,o1&&o2,hs⟩
 |.Tuple es _ _=>(cVs C sc es hs).go λfs b ok hs=>⟨.v (fTup fs),b,ok&&decide (es.length<=1000),hs⟩
 |.List es _=>(cVs C sc es hs).go λfs b ok hs=>⟨.e (fLst fs),b,ok&&decide (es.length<=1000),hs⟩
 |.Dict ks vs _=>(match ks,vs with
  |[],[]=>⟨.e fDict0,true,true,hs⟩
  |[some q],[v]=>(C.r sc q hs).go λf b1 o1 hs=>f.onV λf=>(C.r sc v hs).go λg b2 o2 hs=>g.onV λg=>⟨.e (fDict1 f g),b1&&b2,o1&&o2,hs⟩
  |_,_=>badR)
 |.ListComp elt gens scope _=>(cComp C sc elt gens scope hs).go λp _ ok hs=>⟨.v (fComp p.cs p.fv p.tg p.g),false,ok,hs⟩
 |_=>badR
noncomputable def stepT(C:CC)(sc:Scope)(e:Expr)(hs:List Nat):CO FB Bool:=match e with
 |.Compare l ops rs _=>(match ops,rs with
  |[op],[r]=>(C.r sc l hs).go λf b1 o1 hs=>f.onO λf=>(C.r sc r hs).go λg b2 o2 hs=>g.onO λg=>⟨fCmp op f g b2,b1&&b2,o1&&(o2&&plainE r),hs⟩
  |[op,op2],[r,r2]=>(C.r sc l hs).go λf b1 o1 hs=>f.onO λf=>(C.r sc r hs).go λg b2 o2 hs=>g.onO λg=>(C.r sc r2 hs).go λh b3 o3 hs=>h.onO λh=>⟨fCmp2 op op2 f g h b2 b3,b1&&b2&&b3,o1&&(o2&&(o3&&plainE r2)),hs⟩
  |_,_=>badT)
 |.BoolOp op es _=>cTs C sc op es hs
 |.UnaryOp .Not e _=>(C.t sc e hs).go λf b ok hs=>⟨fNot f,b,ok,hs⟩
 |e=>(C.r sc e hs).go λf b ok hs=>f.onV λf=>⟨fTest f,b,ok&&tstE e,hs⟩
section
variable{c:Cx}{k:Nat}{sc:Scope}{C:CC}
theorem stepR_ok(K:KF c)(H:C.Ok c k):∀e hs,SR c k sc e (stepR C sc e hs):=by
 intro e hs;cases e with
 |Constant q a p=>
  cases q with
  |int i=>exact λ_=>SV.int
  |str i=>exact λ_=>SV.str
  |bool i=>exact λ_=>SV.bool
  |none=>exact λ_=>SV.none
  |_=>exact ff
 |Name x p=>exact hd_ind (P:=SR c k sc (.Name x p)) λi hs h=>SE.name (of_decide_eq_true h)
 |Attribute e x p=>
  refine hd_ind (P:=SR c k sc (.Attribute e x p)) λi hs=>onE_ind c k (P:=SR c k sc (.Attribute e x p)) λf hf h=>?_;have hc:=and2 (and2 h);simp only[bO]at hc;exact SE.attr K.ka (hf (H.r _ _ _ (and1 h))) (of_decide_eq_true (and1 (and2 h))) (attr_ok x p hc)
 |Subscript e1 e2 p=>
  refine onO_ind c k (P:=SR c k sc (.Subscript e1 e2 p)) λf hf=>?_;cases z:sliceU e2 with
  |some u=>
   obtain⟨q,rfl⟩:=sliceU_out z;exact onV_ind c k (P:=SR c k sc (.Subscript e1 (.Slice none (some u) none q) p)) λg hg h=>SE.slice (hf (H.r _ _ _ (and1 h))) (hg (H.r _ _ _ (and2 h)))
  |none=>
   exact onO_ind c k (P:=SR c k sc (.Subscript e1 e2 p)) λg hg h=>SV.item (hf (H.r _ _ _ (and1 h))) (hg (H.r _ _ _ (and1 (and2 h)))) (sub_ok (and2 (and2 h)))
 |Call f es ks p=>
  cases ks with
  |cons _ _=>exact ff
  |nil=>
   cases f with
   |Name x q=>exact callN_ok K H
   |Attribute e X ap=>exact callM_ok K H
   |_=>exact ff
 |Compare l ops rs p=>
  rcases ops with _|⟨op,_|⟨_,_⟩⟩<;>rcases rs with _|⟨r,_|⟨_,_⟩⟩<;>try(intro h;exact ff h;done)
  exact onO_ind c k (P:=SR c k sc (.Compare l [op] [r] p)) λf hf=>onO_ind c k (P:=SR c k sc (.Compare l [op] [r] p)) λg hg h=>SV.cmp (hf (H.r _ _ _ (and1 h))) (hg (H.r _ _ _ (and1 (and2 h)))) (beh_ok (and2 (and2 h)) op)
 |UnaryOp op e p=>
  refine onV_ind c k (P:=SR c k sc (.UnaryOp op e p)) λf hf=>?_;cases op with
  |USub=>exact λh=>SV.neg (hf (H.r _ _ _ h))
  |Not=>exact λh=>SV.not (hf (H.r _ _ _ h))
  |_=>exact ff
 |BoolOp op es p=>exact λh=>SV.bool_ (cVB_ok H op es hs h)
 |IfExp t a z p=>exact onE_ind c k (P:=SR c k sc (.IfExp t a z p)) λf hf=>onE_ind c k (P:=SR c k sc (.IfExp t a z p)) λg hg h=>SE.ifExp (H.t _ _ _ (and1 h)) (hf (H.r _ _ _ (and1 (and2 h)))) (hg (H.r _ _ _ (and2 (and2 h))))
 |BinOp l op r p=>exact onO_ind c k (P:=SR c k sc (.BinOp l op r p)) λf hf=>onO_ind c k (P:=SR c k sc (.BinOp l op r p)) λg hg h=>SE.bin (hf (H.r _ _ _ (and1 h))) (hg (H.r _ _ _ (and2 h)))
 |Tuple es _ p=>exact λh=>SV.tuple (cVs_ok H es hs (and1 h)) (of_decide_eq_true (and2 h))
 |List es p=>exact λh=>SE.list (cVs_ok H es hs (and1 h)) (of_decide_eq_true (and2 h))
 |Dict ks vs p=>
  rcases ks with _|⟨_|q,_|⟨_,_⟩⟩<;>rcases vs with _|⟨v,_|⟨_,_⟩⟩<;>try(intro h;exact ff h;done)
  ·exact λ_=>SE.dict0 K.gd
  ·exact onV_ind c k (P:=SR c k sc (.Dict [some q] [v] p)) λf hf=>onV_ind c k (P:=SR c k sc (.Dict [some q] [v] p)) λg hg h=>SE.dict1 K.gd (hf (H.r _ _ _ (and1 h))) (hg (H.r _ _ _ (and2 h)))
 |ListComp elt gens scope p=>
  have key:∀r:CO CP Unit,(r.ok=true->CPOk c k sc elt gens scope r.x)->SR c k sc (.ListComp elt gens scope p) (r.go λp _ ok hs=>⟨.v (fComp p.cs p.fv p.tg p.g),false,ok,hs⟩):=λr hr h=>by
   obtain⟨t,i,ifs,gs,b,rfl,h1,h2,h3,h4,h5,h6⟩:=hr h;exact SV.comp h1 h2 h3 (h4 p) h5 h6
  exact key _ (cComp_ok H)
 |_=>exact ff
abbrev ST(c:Cx)(k:Nat)(sc:Scope)(e:Expr)(r:CO FB Bool):Prop:=r.ok=true->SB c k sc e r.x r.b
theorem stepT_any(H:C.Ok c k){e:Expr}{hs:List Nat}:ST c k sc e ((C.r sc e hs).go λf b ok hs=>f.onV λf=>⟨fTest f,b,ok&&tstE e,hs⟩):=
 onV_ind c k (P:=ST c k sc e) λf hf h=>SB.ofV (hf (H.r _ _ _ (and1 h))) (tst_ok (and2 h))
theorem stepT_ok(H:C.Ok c k):∀e hs,ST c k sc e (stepT C sc e hs):=by
 intro e hs;cases e with
 |Compare l ops rs p=>
  rcases ops with _|⟨op,_|⟨op2,_|⟨_,_⟩⟩⟩<;>rcases rs with _|⟨r,_|⟨r2,_|⟨_,_⟩⟩⟩<;>try(intro h;exact ff h;done)
  ·exact onO_ind c k (P:=ST c k sc (.Compare l [op] [r] p)) λf hf=>onO_ind c k (P:=ST c k sc (.Compare l [op] [r] p)) λg hg h=>SB.cmp (hf (H.r _ _ _ (and1 h))) (hg (H.r _ _ _ (and1 (and2 h)))) (beh_ok (and2 (and2 h)) op)
  ·exact onO_ind c k (P:=ST c k sc (.Compare l [op,op2] [r,r2] p)) λf hf=>onO_ind c k (P:=ST c k sc (.Compare l [op,op2] [r,r2] p)) λg hg=>onO_ind c k (P:=ST c k sc (.Compare l [op,op2] [r,r2] p)) λg2 hg2 h=>SB.cmp2 (hf (H.r _ _ _ (and1 h))) (hg (H.r _ _ _ (and1 (and2 h)))) (hg2 (H.r _ _ _ (and1 (and2 (and2 h))))) (beh_ok (and2 (and2 (and2 h))) op2)
 |BoolOp op es p=>exact λh=>SB.bool (cTs_ok H op es hs h)
 |UnaryOp op e p=>
  cases op with
  |Not=>exact λh=>SB.not (H.t _ _ _ h)
  |_=>exact stepT_any H
 |_=>exact stepT_any H
end
noncomputable def bkS(sc:Scope):ScopeKind:=if sc.kind.isAnnotationScope then ScopeKind.function else sc.kind
noncomputable def swC(sc scope:Scope)(x:Str)(tp p:Pos):Bool:=bkS sc==.function&&sc.names.lookup x==some .local&&tp.line==p.line&&!(scope.names.any λ(n,k)=>n==x&&(k==.local||k==.cell))
set_option backward.match.sparseCases true in
noncomputable def swS(sc:Scope)(ts vs:List Expr):Option (Option (List Str)):=
 if !(ts.length==2||ts.length==3)||vs.length !=ts.length||bkS sc !=.function then some none
 else if vs.any (fun|.Starred ..=>true|_=>false)then some none
 else
  let line:=(ts.head?.map (·.pos.line)).getD 0
  let names:=ts.filterMap fun
   |.Name id pos=>if sc.names.lookup id==some .local&&pos.line==line then some id else none
   |_=>none
  if names.length !=ts.length||names.eraseDups.length !=names.length then some none
  else if vs.all (foldedForSure 8)then some none
  else if vs.all (constantsAlone 8)then none
  else some (some names)
noncomputable def tupE:Expr->Option (List Expr)
 |.Tuple es _ _=>some es
 |_=>none
theorem tupE_out{e:Expr}{es:List Expr}(h:tupE e=some es):∃k p,e=.Tuple es k p:=by
 cases e with
 |Tuple ws k p=>exact iee k p (by rw[ab.inj h])
 |_=>exact nos h
noncomputable def asgS(C:CC)(sc:Scope)(t e:Expr)(hs:List Nat):CO FS (List Nat):=match t with
 |.Name x tp=>(match e with
  |.ListComp elt gens scope p=>(cComp C sc elt gens scope hs).go λP _ ok hs=>hd hs λi hs=>(match swC sc scope x tp p with
   |true=>⟨fAsgC i (fComp P.cs P.fv P.tg P.g),[i],ok&&(decide (nm i=x)&&wrB sc x),hs⟩
   |false=>⟨fAsg i (fVal (fComp P.cs P.fv P.tg P.g)),[i],ok&&(decide (nm i=x)&&wrB sc x),hs⟩)
  |e=>(C.r sc e hs).go λf b ok hs=>f.onE λf=>hd hs λi hs=>⟨fAsg i f,[i],ok&&(decide (nm i=x)&&(wrB sc x&&plainE e)),hs⟩)
 |.Attribute o x _=>(C.r sc e hs).go λf b o1 hs=>f.onE λf=>(C.r sc o hs).go λg b o2 hs=>g.onE λg=>hd hs λi hs=>⟨fAsgA i f g,[],o1&&(o2&&decide (nm i=x)),hs⟩
 |.Subscript oe ie _=>(C.r sc e hs).go λf b o1 hs=>f.onV λf=>(C.r sc oe hs).go λg b o2 hs=>g.onO λg=>(C.r sc ie hs).go λh b3 o3 hs=>h.onO λh=>⟨fAsgI f g h b3,[],o1&&(o2&&(o3&&plainE e)),hs⟩
 |.Tuple ts _ _=>(match tupE e with
  |some es=>(cRs C sc es hs).go λfs b o1 hs=>(cNm sc ts hs).go λis _ o2 hs=>(match swS sc ts es with
   |some (some ns)=>⟨fAsgT is fs true,is,o1&&(o2&&(decide (ts.length=es.length)&&(decide (es.length<=1000)&&decide (ns=nmsOf ts)))),hs⟩
   |some none=>⟨fAsgT is fs false,is,o1&&(o2&&(decide (ts.length=es.length)&&decide (es.length<=1000))),hs⟩
   |none=>badS)
  |none=>(C.r sc e hs).go λf b o1 hs=>f.onV λf=>(cNm sc ts hs).go λis _ o2 hs=>⟨fAsgU is f,is,o1&&(o2&&plainE e),hs⟩)
 |_=>badS
noncomputable def stepS(C:CC)(sc:Scope)(st:Stmt)(hs:List Nat):CO FS (List Nat):=match st with
 |.Return e _=>(match e with
  |none=>⟨fRet0,[],true,hs⟩
  |some e=>(C.r sc e hs).go λf b ok hs=>f.onE λf=>⟨fRet f,[],ok,hs⟩)
 |.Expr e _=>(C.r sc e hs).go λf b ok hs=>f.onE λf=>⟨fExp f,[],ok&&plainE e,hs⟩
 |.Assign ts e _=>(match ts with
  |[t]=>asgS C sc t e hs
  |_=>badS)
 |.AugAssign t op e _=>(match t with
  |.Subscript oe ie _=>(C.r sc e hs).go λf b3 o3 hs=>f.onV λf=>(C.r sc oe hs).go λg b o1 hs=>g.onO λg=>(C.r sc ie hs).go λh b2 o2 hs=>h.onO λh=>⟨fAug op g h f b2 b3,[],o3&&(o1&&(o2&&(decide (op=.Add∨op=.Sub)&&plainE ie))),hs⟩
  |_=>badS)
 |.If t p q _=>(C.t sc t hs).go λf b o1 hs=>(cSs C sc p hs).go λg a1 o2 hs=>(cSs C sc q hs).go λh a2 o3 hs=>⟨fIfS f g h,a1++a2,o1&&(o2&&o3),hs⟩
 |.While t p els _=>(match els with
  |[]=>(C.t sc t hs).go λf b o1 hs=>(cSs C sc p hs).go λg a1 o2 hs=>⟨While f g,a1,o1&&o2,hs⟩
  |_=>badS)
 |.For t it p els _=>(match els with
  |[]=>(C.r sc it hs).go λf b o1 hs=>f.onV λf=>(cTg sc t hs).go λtg _ o2 hs=>(cSs C sc p hs).go λg a1 o3 hs=>⟨fFor tg f g,a1,o1&&(o2&&(o3&&setE it)),hs⟩
  |_=>badS)
 |_=>badS
noncomputable def cc:Nat->CC
 |0=>⟨λ_ _ _=>badR,λ_ _ _=>badT,λ_ _ _=>badS⟩
 |n+1=>⟨stepR (cc n),stepT (cc n),stepS (cc n)⟩
section
variable{c:Cx}{k:Nat}{sc:Scope}{C:CC}
theorem swC_ok{elt:Expr}{gens:List Comprehension}{scope:Scope}{x:Str}{tp p:Pos}{l:Nat}{env:Env}(h:env.scope=sc):swapsWith (.ListComp elt gens scope p) (some (.Name x tp)) l env=pure (swC sc scope x tp p):=by
 subst h;rfl
set_option backward.match.sparseCases true in
theorem swS_ok{ts vs:List Expr}{k1 k2:Nat}{p p2:Pos}{env:Env}{r:Option (List Str)}(h:env.scope=sc)(e:swS sc ts vs=some r):swappedStores [.Tuple ts k1 p] (.Tuple vs k2 p2) env=pure r:=by
 subst h;dsimp only[swS]at e;show(if !(ts.length==2||ts.length==3)||vs.length !=ts.length||bkS env.scope !=.function then pure none else _)=_;split at e
 ·rename_i z;rw[if_pos z];obtain rfl:=ab.inj e;rfl
 rename_i z;rw[if_neg z];split at e
 ·rename_i z;exact(if_pos z).trans (by obtain rfl:=ab.inj e;rfl)
 rename_i z;refine(if_neg z).trans ?_;dsimp only at e⊢;split at e
 ·rename_i z;exact(if_pos z).trans (by obtain rfl:=ab.inj e;rfl)
 rename_i z;refine(if_neg z).trans ?_;split at e
 ·rename_i z;exact(if_pos z).trans (by obtain rfl:=ab.inj e;rfl)
 rename_i z;refine(if_neg z).trans ?_;split at e
 ·exact nos e
 rename_i z;exact(if_neg z).trans (by refine(ab.inj e).symm▸?_;rfl)
theorem swap_at{e o:Expr}{x:Str}{q:Pos}{l:Nat}{env:Env}:swapsWith e (some (.Attribute o x q)) l env=pure false:=by cases e<;>rfl
theorem aug_ok{e:Expr}(h:plainE e=true):∀ov iv new,augStore e ov iv new=(do holding [new,ov,iv] (setItem ov iv new);release [new,ov,iv] [];pure .next):=by
 cases e<;>first|exact λ_ _ _=>rfl|exact ff h
abbrev SQ(c:Cx)(k:Nat)(sc:Scope)(e:Stmt)(r:CO FS (List Nat)):Prop:=r.ok=true->SS1 c k sc e r.x r.b
theorem asgS_any(H:C.Ok c k){x:Str}{tp p:Pos}{e:Expr}{hs:List Nat}:SQ c k sc (.Assign [.Name x tp] e p) ((C.r sc e hs).go λf b ok hs=>f.onE λf=>hd hs λi hs=>⟨fAsg i f,[i],ok&&(decide (nm i=x)&&(wrB sc x&&plainE e)),hs⟩):=
 onE_ind c k (P:=SQ c k sc _) λf hf=>hd_ind (P:=SQ c k sc _) λi hs h=>SS1.asg (hf (H.r _ _ _ (and1 h))) (of_decide_eq_true (and1 (and2 h))) (wr_ok (and1 (and2 (and2 h)))) λenv _=>swap_ok (and2 (and2 (and2 h))) _ _ _
theorem asgS_ok(K:KF c)(H:C.Ok c k):∀t e p hs,SQ c k sc (.Assign [t] e p) (asgS C sc t e hs):=by
 intro t e p hs;cases t with
 |Name x tp=>
  cases e with
  |ListComp elt gens scope q=>
   have key:∀r:CO CP Unit,(r.ok=true->CPOk c k sc elt gens scope r.x)->SQ c k sc (.Assign [.Name x tp] (.ListComp elt gens scope q) p) (r.go λP _ ok hs=>hd hs λi hs=>(match swC sc scope x tp q with
    |true=>⟨fAsgC i (fComp P.cs P.fv P.tg P.g),[i],ok&&(decide (nm i=x)&&wrB sc x),hs⟩
    |false=>⟨fAsg i (fVal (fComp P.cs P.fv P.tg P.g)),[i],ok&&(decide (nm i=x)&&wrB sc x),hs⟩)):=λr hr=>hd_ind (P:=SQ c k sc _) λi hs=>by
    cases z:swC sc scope x tp q with
    |true=>
     intro h;obtain⟨t,i',ifs,gs,b,rfl,h1,h2,h3,h4,h5,h6⟩:=hr (and1 h);exact SS1.asgComp h1 h2 h3 (h4 q) h5 h6 (of_decide_eq_true (and1 (and2 h))) (wr_ok (and2 (and2 h))) λenv hs=>(swC_ok hs).trans (congrArg pure z)
    |false=>
     intro h;obtain⟨t,i',ifs,gs,b,rfl,h1,h2,h3,h4,h5,h6⟩:=hr (and1 h);exact SS1.asg (SE.of (SV.comp h1 h2 h3 (h4 q) h5 h6)) (of_decide_eq_true (and1 (and2 h))) (wr_ok (and2 (and2 h))) λenv hs=>(swC_ok hs).trans (congrArg pure z)
   exact key _ (cComp_ok H)
  |_=>exact asgS_any H
 |Attribute o x q=>
  exact onE_ind c k (P:=SQ c k sc _) λf hf=>onE_ind c k (P:=SQ c k sc _) λg hg=>hd_ind (P:=SQ c k sc _) λi hs h=>SS1.asgA K.ka (hf (H.r _ _ _ (and1 h))) (hg (H.r _ _ _ (and1 (and2 h)))) (of_decide_eq_true (and2 (and2 h))) (λenv=>swap_at (o:=o) (x:=x) (q:=q) (l:=p.line) (env:=env)) λenv=>rfl
 |Subscript oe ie q=>
  exact onV_ind c k (P:=SQ c k sc _) λf hf=>onO_ind c k (P:=SQ c k sc _) λg hg=>onO_ind c k (P:=SQ c k sc _) λh2 hh h=>SS1.asgI (hf (H.r _ _ _ (and1 h))) (hg (H.r _ _ _ (and1 (and2 h)))) (hh (H.r _ _ _ (and1 (and2 (and2 h))))) λenv=>swap_ok (and2 (and2 (and2 h))) _ _ _
 |Tuple ts kk tp=>
  cases te:tupE e with
  |some es=>
   refine oee (tupE_out te) λk2 p2 z_=>?_;refine z_▸?_;show SQ c k sc _ ((cRs C sc es hs).go λfs b o1 hs=>(cNm sc ts hs).go λis _ o2 hs=>_);have h1:=cRs_ok (sc:=sc) H es hs;generalize cRs C sc es hs=r1 at *;refine go_ind (P:=SQ c k sc _) ?_;have h2:=cNm_ok (sc:=sc) ts r1.hs;generalize cNm sc ts r1.hs=r2 at *;refine go_ind (P:=SQ c k sc _) ?_;cases y:swS sc ts es with
   |none=>exact ff
   |some r=>
    cases r with
    |none=>exact λh=>SS1.asgT (h1 (and1 h)) (h2 (and1 (and2 h))).1 (h2 (and1 (and2 h))).2 (of_decide_eq_true (and1 (and2 (and2 h)))) (of_decide_eq_true (and2 (and2 (and2 h)))) (λenv=>rfl) λenv hs=>swS_ok hs y
    |some ns=>
     intro h;have e:=of_decide_eq_true (and2 (and2 (and2 (and2 h))));exact SS1.asgTb (h1 (and1 h)) (h2 (and1 (and2 h))).1 (h2 (and1 (and2 h))).2 (of_decide_eq_true (and1 (and2 (and2 h)))) (of_decide_eq_true (and1 (and2 (and2 (and2 h))))) (λenv=>rfl) λenv hs=>e▸swS_ok hs y
  |none=>
   have sw:∀env,swappedStores [.Tuple ts kk tp] e env=pure none:=λenv=>by
    cases e with
    |Tuple es k2 p2=>exact nos te.symm
    |_=>rfl
   show SQ c k sc _ (match tupE e with|some es=>_|none=>_);refine(te).symm▸?_;refine onV_ind c k (P:=SQ c k sc _) λf hf=>?_;have h2:=cNm_ok (sc:=sc) ts (C.r sc e hs).hs;generalize cNm sc ts (C.r sc e hs).hs=r2 at *;exact λh=>SS1.asgU (hf (H.r _ _ _ (and1 h))) (h2 (and1 (and2 h))).1 (h2 (and1 (and2 h))).2 (λenv=>swap_ok (and2 (and2 h)) (some (.Tuple ts kk tp)) p.line env) λenv _=>sw env
 |_=>exact ff
theorem stepS_ok(K:KF c)(H:C.Ok c k):∀st hs,SQ c k sc st (stepS C sc st hs):=by
 intro st hs;cases st with
 |Return e p=>
  cases e with
  |none=>exact λ_=>SS1.ret0
  |some e=>exact onE_ind c k (P:=SQ c k sc _) λf hf h=>SS1.ret (hf (H.r _ _ _ h))
 |Expr e p=>exact onE_ind c k (P:=SQ c k sc _) λf hf h=>SS1.expr (hf (H.r _ _ _ (and1 h))) λenv=>swap_ok (and2 h) _ _ _
 |Assign ts e p=>
  rcases ts with _|⟨t,_|⟨_,_⟩⟩
  ·exact ff
  ·exact asgS_ok K H t e p hs
  ·exact ff
 |AugAssign t op e p=>
  cases t with
  |Subscript oe ie q=>exact onV_ind c k (P:=SQ c k sc _) λf hf=>onO_ind c k (P:=SQ c k sc _) λg hg=>onO_ind c k (P:=SQ c k sc _) λh2 hh h=>SS1.aug (of_decide_eq_true (and1 (and2 (and2 (and2 h))))) (hf (H.r _ _ _ (and1 h))) (hg (H.r _ _ _ (and1 (and2 h)))) (hh (H.r _ _ _ (and1 (and2 (and2 h))))) (aug_ok (and2 (and2 (and2 (and2 h)))))
  |_=>exact ff
 |If t p q _=>exact λh=>SS1.if_ (H.t _ _ _ (and1 h)) (cSs_ok H _ _ (and1 (and2 h))) (cSs_ok H _ _ (and2 (and2 h)))
 |While t p els _=>
  cases els with
  |nil=>exact λh=>SS1.while_ (H.t _ _ _ (and1 h)) (cSs_ok H _ _ (and2 h))
  |cons _ _=>exact ff
 |For t it p els _=>
  cases els with
  |nil=>
   refine onV_ind c k (P:=SQ c k sc _) λf hf=>?_;have h2:=cTg_ok (sc:=sc) (t:=t) (hs:=(C.r sc it hs).hs);generalize cTg sc t (C.r sc it hs).hs=r2 at *;exact λh=>SS1.for_ (hf (H.r _ _ _ (and1 h))) (h2 (and1 (and2 h))) (cSs_ok H _ _ (and1 (and2 (and2 h)))) (fold_ok (and2 (and2 (and2 h))))
  |cons _ _=>exact ff
 |_=>exact ff
theorem cc_ok(K:KF c):∀n,(cc n).Ok c k
 |0=>⟨λ_ _ _ h=>(ff h),λ_ _ _ h=>(ff h),λ_ _ _ h=>(ff h)⟩
 |n+1=>⟨λ_=>stepR_ok K (cc_ok K n),λ_=>stepT_ok (cc_ok K n),λ_=>stepS_ok K (cc_ok K n)⟩
end
inductive XB where
 |no
 |mk (x:FS) (b:List Nat)
noncomputable def CO.xb:CO FS (List Nat)->XB
 |⟨x,b,_,_⟩=>.mk x b
noncomputable def cBody(S:Stmt)(hs:List Nat):CO FS (List Nat):=cSs (cc 20) (scopeOf S) (bodyOf S) hs
theorem FSW.ofChk{c:Cx}{k f:Nat}{S:Stmt}{ps asg:List Nat}{fs:FS}{F:FF}(K:KF c)(H:∃fd,fd.scope=scopeOf S/\FnOk c f fd (bodyOf S) ps)(hs:List Nat)(e:(cBody S hs).xb=.mk fs asg:=by conv=>lhs;whnf)(h:(cBody S hs).ok=true:=by decide+kernel)(w:∀ws Q,F ws Q->fnW ⟨c,k⟩ ps asg fs ws Q):FSW c (k+1) (.ref f) F:=by
 have h2:=cSs_ok (cc_ok (c:=c) (k:=k) K 20) _ _ h;cases e;exact .ofBody K.gd H h2 w
theorem br_{b:Bool}{X Y:Prop}(h1:b=true->X)(h2:b=false->Y):Br b X Y:=by
 cases b
 ·exact .n rfl (h2 rfl)
 ·exact .y rfl (h1 rfl)
theorem brT{X Y:Prop}(h:X):Br true X Y:=.y rfl h
theorem brF{X Y:Prop}(h:Y):Br false X Y:=.n rfl h
theorem brD{p:Prop}[Decidable p]{X Y:Prop}(h1:p->X)(h2:¬p->Y):Br (decide p) X Y:=by
 by_cases h:p
 ·exact .y (decide_eq_true h) (h1 h)
 ·exact .n (decide_eq_false h) (h2 h)
theorem brE{b:Bool}{X Y:Prop}(v:Bool)(e:b=v)(h:Br v X Y):Br b X Y:=e▸h
theorem sz_{n m:Nat}{X:Prop}(h:n<=m)(x:X):Sz n m X:=⟨h,x⟩
theorem it_{α:Type}{o:Option α}{x:α}{X:α->Prop}(e:o=some x)(h:X x):It o X:=⟨x,e,h⟩
theorem nx_{γ:Ct}{g:FS}{fr fr':FrL}{Q:Fw->FrL->Prop}(e:fr=fr')(h:g γ fr' Q):Nx γ g fr Q:=by subst e;exact⟨h⟩
theorem pr_{p X:Prop}(h:p)(x:X):Pr p X:=⟨h,x⟩
theorem fn_{γ:Ct}{ps asg:List Nat}{f:FS}{ws:List MW}{Q:Rz->List MW->Prop}{fr:FrL}(e:zipW ps ws=some fr)(ha:asgOk asg ps ws=true)(h:f γ fr (endW ps ws Q)):fnW γ ps asg f ws Q:=by unfold fnW sm;rw[e];show yes _ _;rw[ha];exact h
theorem call_{c:Cx}{k k' f:Nat}{ws:List MW}{F:FF}{Q:Rz->List MW->Prop}(h:FSW c k' (.ref f) F)(x:F ws Q)(hk:k'<=k:=by decide):CallF ⟨c,k⟩ f ws Q:=⟨k',F,h,hk,x⟩
theorem eqv_{a b:V}{q:Bool->Prop}(r:Bool)(h1:okV a=true)(h2:okV b=true)(hr:r=true↔a=b)(h:q r):EqV a b q:=
 ⟨h1,h2,λr' hr'=>by
   have:r'=r:=by
    cases r<;>cases r'<;>simp_all
   rw[this];exact h⟩
theorem inv_{a:V}{vs:List V}{q:Bool->Prop}(r:Bool)(h1:okV a=true)(h2:okVs vs=true)(hr:r=true↔a∈vs)(h:q r):InV a vs q:=
 ⟨h1,h2,λr' hr'=>by
   have:r'=r:=by
    cases r<;>cases r'<;>simp_all
   rw[this];exact h⟩
theorem okI(i:Int):okV (.int i)=true:=rfl
theorem szMap{α β:Type}{f:α->β}{l:List α}{n:Nat}(h:l.length<=n):(l.map f).length<=n:=by rw[a7];exact h
theorem nabN{n m:Nat}(h:n<=m):((n:Int)).natAbs<=m:=h
theorem getD_lt{l:List Int}{j:Nat}(h:j<l.length):l.getD j 0=l[j]:=by rw[a9,a8 h];rfl
theorem okIs(ns:List Int):okVs (ns.map .int)=true:=by
 unfold okVs
 induction ns with
 |nil=>rfl
 |cons n ns ih=>rw[aD,vDats_c,bM,ih];rfl
theorem inI_{i:Int}{ns:List Int}{q:Bool->Prop}(h:q (ns.contains i)):InV (.int i) (ns.map .int) q:=
 inv_ _ (okI i) (okIs ns) (by simp) h
theorem itemAt_nat{vs:List V}{v:V}{n:Nat}(h:vs.length<=100000)(e:vs[n]?=some v):itemAt vs n=some v:=by
 have:=(ac.mp e).1;have e1:idx? n vs.length=some n:=by simp[idx?,this]
 unfold itemAt;rw[if_pos (nabN (leT (bf (bH this h)) rfl)),e1];exact e
theorem itemAt_int{vs:List V}{v:V}{i:Int}(h:vs.length<=100000)(h0:0<=i)(e:vs[i.toNat]?=some v):itemAt vs i=some v:=by
 obtain⟨n,rfl⟩:=c6 h0;exact itemAt_nat h (by simpa using e)
theorem itemAt_last{vs:List V}{v:V}(h:vs.length<=100000):itemAt (vs++[v]) (-1)=some v:=by simp[itemAt,idx?]
theorem idx_last(n:Nat):idx? (-1) (n+1)=some n:=by simp[idx?]
theorem idx_nat{n m:Nat}(h:n<m):idx? (n:Int) m=some n:=by simp[idx?,h]
theorem snoc_cases{α:Type}(d:List α):d=[]∨∃e p,d=e++[p]:=by
 rcases List.eq_nil_or_concat d with h|⟨e,p,h⟩
 ·exact .inl h
 ·exact .inr (iee e p (by simpa using h))
theorem loopI{α β:Type}(g:β->V)(L:α->FrL)(I:List β->α->Prop){γ:Ct}{tg:Tgt}{body:FS}{n:Nat}{Q:Fw->FrL->Prop}
 (step:∀u us a (Q':Fw->FrL->Prop),I (u::us) a->(∀a' fr2,I us a'->fr2.take n=L a'->Q' .nxt fr2)->(∀r fr2,Q (.ret r) fr2->Q' (.ret r) fr2)->bindW tg (g u) (L a) λfr1=>body γ fr1 Q')
 (fin:∀a,I [] a->Q .nxt (L a)):∀(us:List β) (a:α),I us a->loopW tg body n (us.map g) γ (L a) Q
 |[],a,h=>fin a h
 |u::us,a,h=>step u us a _ h (λa' fr2 h' e=>by show loopW tg body n (us.map g) γ (fr2.take n) Q;rw[e];exact loopI g L I step fin us a' h') (λr fr2 q=>q)
theorem loop_{α β:Type}(g:β->V)(L:α->FrL)(I:List β->α->Prop){γ:Ct}{tg:Tgt}{body:FS}{fr:FrL}{vs:List V}{Q:Fw->FrL->Prop}
 (step:∀u us a (Q':Fw->FrL->Prop),I (u::us) a->(∀a' fr2,I us a'->fr2.take fr.length=L a'->Q' .nxt fr2)->(∀r fr2,Q (.ret r) fr2->Q' (.ret r) fr2)->bindW tg (g u) (L a) λfr1=>body γ fr1 Q')
 (fin:∀a,I [] a->Q .nxt (L a)) (us:List β) (a:α) (h:I us a) (e:vs=us.map g:=by rfl) (ef:fr=L a:=by rfl):Loop γ tg body vs fr Q:=by
 subst e;exact⟨by have:=loopI g L I (n:=fr.length) step fin us a h;rwa[←ef]at this⟩
theorem while_{α:Type}(m:Nat)(a:α)(L:α->FrL)(I:Nat->α->Prop){γ:Ct}{t:FB}{body:FS}{Q:Fw->FrL->Prop}{fr:FrL}(e:fr=L a)(h:I m a)
 (step:∀m a (Q':Fw->FrL->Prop),I (m+1) a->(∀a' fr2,I m a'->fr2.take fr.length=L a'->Q' .nxt fr2)->(∀r fr2,Q (.ret r) fr2->Q' (.ret r) fr2)->t γ (L a) λb fr1=>Br b (body γ fr1 Q') (Q .nxt fr1))
 (no:∀a,¬I 0 a):While t body γ fr Q:=by
 have key:∀(m:Nat) (a:α),I m a->whileW t body fr.length m γ (L a) Q:=by
  intro m
  induction m with
  |zero=>intro a h;exact absurd h (no a)
  |succ m ih=>intro a h;exact step m a _ h (λa' fr2 h' e=>by show whileW t body fr.length m γ (fr2.take fr.length) Q;rw[e];exact ih a' h') (λr fr2 q=>q)
 exact⟨m,by
  have:=key m a h
  rwa[←e]at this⟩
theorem ob_{α β:Type}{o:Option α}{f:α->Option β}{r:β}(h:o.bind f=some r){G:Prop}(k:∀x,o=some x->f x=some r->G):G:=by
 cases o with
 |none=>exact nos h
 |some x=>exact k x rfl h
theorem og_{b:Bool}{β:Type}{X:Option β}{r:β}(h:cond b X none=some r){G:Prop}(k:b=true->X=some r->G):G:=by
 cases b with
 |false=>exact nos h
 |true=>exact k rfl h
theorem oT{b:Bool}{β:Type}{X Y:Option β}{r:β}(e:b=true)(h:cond b X Y=some r):X=some r:=by rw[e]at h;exact h
theorem oF{b:Bool}{β:Type}{X Y:Option β}{r:β}(e:b=false)(h:cond b X Y=some r):Y=some r:=by rw[e]at h;exact h
theorem oc_{b:Bool}{β:Type}{X Y:Option β}{r:β}(h:cond b X Y=some r){G:Prop}(k1:b=true->X=some r->G)(k2:b=false->Y=some r->G):G:=by
 cases b with
 |false=>exact k2 rfl h
 |true=>exact k1 rfl h
theorem nt_{b:Bool}(h:(!b)=true):b=false:=by cases b with|true=>exact ff h|false=>rfl
theorem nf_{b:Bool}(h:(!b)=false):b=true:=by cases b with|true=>rfl|false=>exact ff h.symm
theorem not_has{l:List Int}{i:Int}(h:l.contains i=false):i∉l:=λz=>by rw[ax.mpr z]at h;exact ff h.symm
theorem ec_{α:Type}{a b c:α}(e:a=b)(h:a=c):b=c:=e▸h
theorem oe_{α β:Type}{o:Option α}{n:Option β}{f:α->Option β}{r:β}{x:α}(e:o=some x)(h:o.elim n f=some r):f x=some r:=by rw[e]at h;exact h
theorem oN_{α β:Type}{o:Option α}{n:Option β}{f:α->Option β}{r:β}(e:o=none)(h:o.elim n f=some r):n=some r:=by rw[e]at h;exact h
theorem tl_{α:Type}(C:α->Prop){Vs:α->List V}{Fr:α->FrL}{γ:Ct}{tg:Tgt}{body:FS}{Q:Fw->FrL->Prop}{G:Prop}(m:(∀x,C x->Loop γ tg body (Vs x) (Fr x) Q)->G)(t:∀x,C x->Loop γ tg body (Vs x) (Fr x) Q):G:=m t
theorem cut_{γ:Ct}{g:FS}{fr:FrL}{Q:Fw->FrL->Prop}{G:Prop}(m:Nx γ g fr Q->G)(t:Nx γ g fr Q):G:=m t
theorem loop1_{α β:Type}(g:β->V)(L:α->FrL)(I:List β->α->Prop->Prop){γ:Ct}{tg:Tgt}{body:FS}{fr:FrL}{vs:List V}{Q:Fw->FrL->Prop}
 (step:∀u us a (Q':Fw->FrL->Prop),I (u::us) a ((∀a' fr2,(∀R,I us a' R->R)->fr2.take fr.length=L a'->Q' .nxt fr2)->(∀r fr2,Q (.ret r) fr2->Q' (.ret r) fr2)->bindW tg (g u) (L a) λfr1=>body γ fr1 Q'))
 (fin:∀a,I [] a (Q .nxt (L a))) (us:List β) (a:α) (h:∀R,I us a R->R) (e:vs=us.map g:=by rfl) (ef:fr=L a:=by rfl):Loop γ tg body vs fr Q:=
 loop_ g L (λus a=>∀R,I us a R->R) (λu us a Q' h hn hr=>h _ (step u us a Q') hn hr) (λa h=>h _ (fin a)) us a h e ef
theorem loop2_{α α2 β:Type}(g:β->V)(L:α->α2->FrL)(I:List β->α->α2->Prop->Prop){γ:Ct}{tg:Tgt}{body:FS}{fr:FrL}{vs:List V}{Q:Fw->FrL->Prop}
 (step:∀u us a b (Q':Fw->FrL->Prop),I (u::us) a b ((∀a' b' fr2,(∀R,I us a' b' R->R)->fr2.take fr.length=L a' b'->Q' .nxt fr2)->(∀r fr2,Q (.ret r) fr2->Q' (.ret r) fr2)->bindW tg (g u) (L a b) λfr1=>body γ fr1 Q'))
 (fin:∀a b,I [] a b (Q .nxt (L a b))) (us:List β) (a:α) (b:α2) (h:∀R,I us a b R->R) (e:vs=us.map g:=by rfl) (ef:fr=L a b:=by rfl):Loop γ tg body vs fr Q:=
 loop_ g (λp:α×α2=>L p.1 p.2) (λus p=>∀R,I us p.1 p.2 R->R) (λu us p Q' h hn hr=>h _ (step u us p.1 p.2 Q') (λa b=>hn (a,b)) hr) (λp h=>h _ (fin p.1 p.2)) us (a,b) h e ef
theorem loop3_{α α2 α3 β:Type}(g:β->V)(L:α->α2->α3->FrL)(I:List β->α->α2->α3->Prop->Prop){γ:Ct}{tg:Tgt}{body:FS}{fr:FrL}{vs:List V}{Q:Fw->FrL->Prop}
 (step:∀u us a b d (Q':Fw->FrL->Prop),I (u::us) a b d ((∀a' b' d' fr2,(∀R,I us a' b' d' R->R)->fr2.take fr.length=L a' b' d'->Q' .nxt fr2)->(∀r fr2,Q (.ret r) fr2->Q' (.ret r) fr2)->bindW tg (g u) (L a b d) λfr1=>body γ fr1 Q'))
 (fin:∀a b d,I [] a b d (Q .nxt (L a b d))) (us:List β) (a:α) (b:α2) (d:α3) (h:∀R,I us a b d R->R) (e:vs=us.map g:=by rfl) (ef:fr=L a b d:=by rfl):Loop γ tg body vs fr Q:=
 loop_ g (λp:α×α2×α3=>L p.1 p.2.1 p.2.2) (λus p=>∀R,I us p.1 p.2.1 p.2.2 R->R) (λu us p Q' h hn hr=>h _ (step u us p.1 p.2.1 p.2.2 Q') (λa b d=>hn (a,b,d)) hr) (λp h=>h _ (fin p.1 p.2.1 p.2.2)) us (a,b,d) h e ef
theorem loopR1_{α:Type}(n:Nat)(L:α->FrL)(I:Nat->α->Prop->Prop){γ:Ct}{tg:Tgt}{body:FS}{fr:FrL}{vs:List V}{Q:Fw->FrL->Prop}
 (step:∀i,i<n->∀a (Q':Fw->FrL->Prop),I i a ((∀a' fr2,(∀R,I (i+1) a' R->R)->fr2.take fr.length=L a'->Q' .nxt fr2)->(∀r fr2,Q (.ret r) fr2->Q' (.ret r) fr2)->bindW tg (.int i) (L a) λfr1=>body γ fr1 Q'))
 (fin:∀a,I n a (Q .nxt (L a))) (a:α) (h:∀R,I 0 a R->R) (e:vs=(ao n).map λx:Nat=>V.int x) (ef:fr=L a:=by rfl):Loop γ tg body vs fr Q:=by
 have key:∀m i a,i+m=n->(∀R,I i a R->R)->loopW tg body fr.length ((dY i m).map λx:Nat=>V.int x) γ (L a) Q:=by
  intro m
  induction m with
  |zero=>intro i a e h;rw[Nat.add_zero]at e;exact h _ (e▸fin a)
  |succ m ih=>
   intro i a e h;refine h _ (step i (e▸eJ (ck m)) a _) (λa' fr2 h' e2=>?_) λr fr2 q=>q;show loopW tg body fr.length ((dY (i+1) m).map λx:Nat=>V.int x) γ (fr2.take fr.length) Q;rw[e2];exact ih (i+1) a' (by rw[aH];exact e) h'
 rw[e,eX];exact⟨by have:=key n 0 a (bB n) h;rwa[←ef]at this⟩
theorem loopR2_{α α2:Type}(n:Nat)(L:α->α2->FrL)(I:Nat->α->α2->Prop->Prop){γ:Ct}{tg:Tgt}{body:FS}{fr:FrL}{vs:List V}{Q:Fw->FrL->Prop}
 (step:∀i,i<n->∀a b (Q':Fw->FrL->Prop),I i a b ((∀a' b' fr2,(∀R,I (i+1) a' b' R->R)->fr2.take fr.length=L a' b'->Q' .nxt fr2)->(∀r fr2,Q (.ret r) fr2->Q' (.ret r) fr2)->bindW tg (.int i) (L a b) λfr1=>body γ fr1 Q'))
 (fin:∀a b,I n a b (Q .nxt (L a b))) (a:α) (b:α2) (h:∀R,I 0 a b R->R) (e:vs=(ao n).map λx:Nat=>V.int x) (ef:fr=L a b:=by rfl):Loop γ tg body vs fr Q:=
 loopR1_ n (λp:α×α2=>L p.1 p.2) (λi p R=>∀(_:∀R,I i p.1 p.2 R->R),R) (λi hi p Q' h hn hr=>h _ (step i hi p.1 p.2 Q') (λa b fr2 k=>hn (a,b) fr2 λR z=>z k) hr) (λp h=>h _ (fin p.1 p.2)) (a,b) (λR k=>k h) e ef
theorem while2_{α α2:Type}(m:Nat)(a:α)(b:α2)(L:α->α2->FrL)(I:Nat->α->α2->Prop->Prop){γ:Ct}{t:FB}{body:FS}{Q:Fw->FrL->Prop}{fr:FrL}(e:fr=L a b)(h:∀R,I m a b R->R)
 (step:∀m a b (Q':Fw->FrL->Prop),I (m+1) a b ((∀a' b' fr2,(∀R,I m a' b' R->R)->fr2.take fr.length=L a' b'->Q' .nxt fr2)->(∀r fr2,Q (.ret r) fr2->Q' (.ret r) fr2)->t γ (L a b) λb fr1=>Br b (body γ fr1 Q') (Q .nxt fr1)))
 (no:∀a b,I 0 a b False):While t body γ fr Q:=
 while_ m (a,b) (λp:α×α2=>L p.1 p.2) (λm p=>∀R,I m p.1 p.2 R->R) e h (λm p Q' h hn hr=>h _ (step m p.1 p.2 Q') (λa b=>hn (a,b)) hr) λp h=>h _ (no p.1 p.2)
theorem while3_{α α2 α3:Type}(m:Nat)(a:α)(b:α2)(d:α3)(L:α->α2->α3->FrL)(I:Nat->α->α2->α3->Prop->Prop){γ:Ct}{t:FB}{body:FS}{Q:Fw->FrL->Prop}{fr:FrL}(e:fr=L a b d)(h:∀R,I m a b d R->R)
 (step:∀m a b d (Q':Fw->FrL->Prop),I (m+1) a b d ((∀a' b' d' fr2,(∀R,I m a' b' d' R->R)->fr2.take fr.length=L a' b' d'->Q' .nxt fr2)->(∀r fr2,Q (.ret r) fr2->Q' (.ret r) fr2)->t γ (L a b d) λb fr1=>Br b (body γ fr1 Q') (Q .nxt fr1)))
 (no:∀a b d,I 0 a b d False):While t body γ fr Q:=
 while_ m (a,b,d) (λp:α×α2×α3=>L p.1 p.2.1 p.2.2) (λm p=>∀R,I m p.1 p.2.1 p.2.2 R->R) e h (λm p Q' h hn hr=>h _ (step m p.1 p.2.1 p.2.2 Q') (λa b d=>hn (a,b,d)) hr) λp h=>h _ (no p.1 p.2.1 p.2.2)
theorem acc_{β:Type}(us:List β)(g:β->V)(f:β->List V){γ:Ct}{tg:Tgt}{G:FAcc}{fr:FrL}{Q:List V->FrL->Prop}{vs:List V}(e:vs=us.map g)
 (step:∀u∈us,∀(acc:List V) (Q':List V->FrL->Prop),acc.length<=4096->(∀fr2,fr2.take fr.length=fr->Q' (acc++f u) fr2)->bindW tg (g u) fr λfr1=>G acc γ fr1 Q')
 (hl:(us.flatMap f).length<=4096) (h:Q (us.flatMap f) fr):Acc γ tg G vs [] fr Q:=by
 subst e;refine⟨?_⟩;have key:∀(us:List β) (acc:List V) (Q:List V->FrL->Prop),(∀u∈us,∀(acc:List V) (Q':List V->FrL->Prop),acc.length<=4096->(∀fr2,fr2.take fr.length=fr->Q' (acc++f u) fr2)->bindW tg (g u) fr λfr1=>G acc γ fr1 Q')->
  (acc++us.flatMap f).length<=4096->Q (acc++us.flatMap f) fr->accW tg G fr.length (us.map g) acc γ fr Q:=by
  intro us
  induction us with
  |nil=>intro acc Q _ _ h;show Q acc fr;simpa using h
  |cons u us ih=>
   intro acc Q st hl h;have e:acc++(u::us).flatMap f=acc++f u++us.flatMap f:=by simp
   rw[e]at hl h;refine st u (.head _) acc _ (by simp at hl;exact a6 (an _ _) (a6 ‹_› (a5 rfl))) λfr2 e2=>?_;show accW tg G fr.length (us.map g) (acc++f u) γ (fr2.take fr.length) Q;rw[e2];exact ih _ Q (λu' hu=>st u' (.tail _ hu)) hl h
 exact key us [] Q step (by exact hl) (by exact h)
theorem flatMap_one{β γ:Type}(f:β->γ):∀us:List β,us.flatMap (λu=>[f u])=us.map f
 |[]=>rfl
 |u::us=>by rw[fK,flatMap_one f us];rfl
theorem flatMap_filter{β γ:Type}(p:β->Bool)(f:β->γ):∀us:List β,us.flatMap (λu=>if p u=true then[f u]else[])=(us.filter p).map f
 |[]=>rfl
 |u::us=>by
  rw[fK,flatMap_filter p f us];by_cases q:p u=true
  ·rw[dk q,if_pos q];rfl
  ·rw[dp q,if_neg q];rfl
theorem acc1{β:Type}(us:List β)(g:β->V)(f:β->V){γ:Ct}{tg:Tgt}{G:FAcc}{fr:FrL}{Q:List V->FrL->Prop}{vs:List V}(e:vs=us.map g)
 (step:∀u∈us,∀(acc:List V) (Q':List V->FrL->Prop),acc.length<=4096->(∀fr2,fr2.take fr.length=fr->Q' (acc++[f u]) fr2)->bindW tg (g u) fr λfr1=>G acc γ fr1 Q')
 (hl:us.length<=4096) (h:Q (us.map f) fr):Acc γ tg G vs [] fr Q:=by
 have:=flatMap_one f us;exact acc_ us g (λu=>[f u]) e step (by rw[this];simpa using hl) (by rw[this];exact h)
theorem accF{β:Type}(us:List β)(g:β->V)(p:β->Bool)(f:β->V){γ:Ct}{tg:Tgt}{G:FAcc}{fr:FrL}{Q:List V->FrL->Prop}{vs:List V}(e:vs=us.map g)
 (step:∀u∈us,∀(acc:List V) (Q':List V->FrL->Prop),acc.length<=4096->(p u=true->∀fr2,fr2.take fr.length=fr->Q' (acc++[f u]) fr2)->(p u=false->∀fr2,fr2.take fr.length=fr->Q' acc fr2)->bindW tg (g u) fr λfr1=>G acc γ fr1 Q')
 (hl:us.length<=4096) (h:Q ((us.filter p).map f) fr):Acc γ tg G vs [] fr Q:=by
 have:=flatMap_filter p f us;refine acc_ us g (λu=>if p u=true then[f u]else[]) e (λu hu acc Q' ha hq=>step u hu acc Q' ha (λq fr2 hs=>?_) (λq fr2 hs=>?_)) ?_ ?_
 ·have:=hq fr2 hs;rw[if_pos q]at this;exact this
 ·have:=hq fr2 hs;rw[if_neg (by rw[q];simp)]at this;simpa using this
 ·rw[this,a7];exact a6 (ak _ _) hl
 ·rw[this];exact h
def FS1(c:Cx)(k f:Nat)(ws:List MW)(F:(Rz->List MW->Prop)->Prop):Prop:=FSW c k (.ref f) λws' Q=>ws'=ws/\F Q
theorem call1_{c:Cx}{k k' f:Nat}{ws:List MW}{F:(Rz->List MW->Prop)->Prop}{Q:Rz->List MW->Prop}(h:FS1 c k' f ws F)(x:F Q)(hk:k'<=k:=by decide):CallF ⟨c,k⟩ f ws Q:=⟨k',_,h,hk,rfl,x⟩
theorem call1e_{c:Cx}{k k' f:Nat}{ws ws':List MW}{F:(Rz->List MW->Prop)->Prop}{Q:Rz->List MW->Prop}(h:FS1 c k' f ws' F)(e:ws=ws')(x:F Q)(hk:k'<=k:=by decide):CallF ⟨c,k⟩ f ws Q:=⟨k',_,h,hk,e,x⟩
section
variable{c:Cx}{k f C fI i:Nat}{ps asg ks:List Nat}{fs:FS}{S:Stmt}{ws:List MW}{F:(Rz->List MW->Prop)->Prop}{F0:FF}{b:Bool}{p0 p1 ap pos pos':Pos}{e0:Expr}{es:List Expr}{rest:List Stmt}{fos:Pw (List Ow)}
theorem FS1.ofBody1(G:Gd c)(H:∃fd,fd.scope=scopeOf S/\FnOk c f fd (bodyOf S) ps)(hb:SS c k (scopeOf S) (bodyOf S) fs asg)(w:∀Q,F Q->fnW ⟨c,k⟩ ps asg fs ws Q):FS1 c (k+1) f ws F:=.ofBody G H hb λ_ Q q=>q.1▸w Q q.2
theorem FS1.ofChk1{c:Cx}{k f:Nat}{S:Stmt}{ps asg:List Nat}{fs:FS}{ws:List MW}{F:(Rz->List MW->Prop)->Prop}(K:KF c)(H:∃fd,fd.scope=scopeOf S/\FnOk c f fd (bodyOf S) ps)(hs:List Nat)(e:(cBody S hs).xb=.mk fs asg:=by conv=>lhs;whnf)(h:(cBody S hs).ok=true:=by decide+kernel)(w:∀Q,F Q->fnW ⟨c,k⟩ ps asg fs ws Q):FS1 c (k+1) f ws F:=.ofChk K H hs e h λ_ Q q=>q.1▸w Q q.2
theorem FS1.ofSuper1(G:Gd c)(H:∃fd cc cda,fd.scope=scopeOf S/\FnOkS c f fd (bodyOf S) ps/\SupOk c f fd C C 295 cc cda i)(hI:FSW c k (.ref 295) F0)
 (eb:bodyOf S=.Expr (.Call (.Attribute (.Call (.Name "super" p0) [] [] p1) "__init__" ap) (e0::es) [] pos) pos'::rest) (hd:SOs c k (scopeOf S) (e0::es) fos b)
 (he:∀env,starEach (e0::es) env=(false,eval e0 env)::starEach es env) (hp:∀env pos,(backTo pos (starEach es env)).any (·.1)=false)
 (hm:∀env,∃pl,eval (.Call (.Attribute (.Call (.Name "super" p0) [] [] p1) "__init__" ap) (e0::es) [] pos) env=(do
   let ov ←attributeBase (.Call (.Name "super" p0) [] [] p1) "__init__" env (eval (.Call (.Name "super" p0) [] [] p1) env)
   standAt ap.atName
   let(f,first) ←holding [ov] (getMethod ov "__init__" pl)
   callWith pos f first (backTo pos (starEach (e0::es) env)) []))
 (hsw:∀env,swapsWith (.Call (.Attribute (.Call (.Name "super" p0) [] [] p1) "__init__" ap) (e0::es) [] pos) none pos'.line env=pure false)
 (hb:SS c k (scopeOf S) rest fs asg) (w:∀Q,F Q->fnW ⟨c,k⟩ ps asg (fSup C i fos F0 fs) ws Q):FS1 c (k+1) f ws F:=.ofSuper G H hI eb hd he hp hm hsw hb λ_ Q q=>q.1▸w Q q.2
def clsQ(Q:Rz->List MW->Prop)(r:Rz)(ws':List MW):Prop:=match r with
 |.v x=>(match x with|.none=>(match ws' with|w::rs=>objW (some w) λC' ks vs=>Q (.fresh (.obj C' ks vs)) rs|_=>False)|_=>False)
 |_=>False
theorem FS1.cls(H:ClsOk c C fI)(hI:FS1 c k fI (.obj C [] []::ws) F):FS1 c (k+1) C ws λQ=>F (clsQ Q):=(FSW.cls H hI).of λ_ Q q=>⟨congrArg _ q.1,q.2⟩
end
local macro_rules | `(tactic| walk_at "sz") => `(tactic| first | assumption | exact a5 rfl | (apply a6; assumption; exact a5 rfl) | (refine szMap ?_; walk_at "sz") | (with_reducible refine nabN ?_; walk_at "sz") | (with_reducible refine nabI (n := 1000000) ?_ ?_; lia; lia) | lia | (simp only [a7, aa, am, bo, cP, List.length_flatMap] at * <;> lia))
local macro_rules | `(tactic| walk_at "it") => `(tactic| first | exact rfl | assumption | exact itemAt_last (by walk_at "sz") | (rw [aa]; exact idx_last _) | exact intsOf_map _ | (apply itemAt_nat (by walk_at "sz"); assumption) | (apply itemAt_int (by walk_at "sz") (by walk_at "sz"); assumption))
local macro_rules | `(tactic| walk_at "nf") => `(tactic| dsimp only [setF, getF, updW, putW, capF, backF, memN, setBack, setRs, setVs, Rz.mw, replW, putKs, putWs, List.take, cy, aT, Rz.toRw])
local macro_rules | `(tactic| walk_at "g") => `(tactic| repeat' (first | refine nx_ (by walk_at "nf") ?_ | refine nx_ rfl ?_ | refine fn_ rfl rfl ?_ | refine brT ?_ | refine brF ?_ | refine sz_ (by walk_at "sz") ?_ | refine it_ (by walk_at "it") ?_ | (refine brD ?_ ?_ <;> set_option tactic.hygienic true in intro) | (refine br_ ?_ ?_ <;> set_option tactic.hygienic true in intro)))
noncomputable abbrev Dom:=List (Int×Int)
noncomputable abbrev vI(p:Int×Int):V:=.tup [.int p.1,.int p.2]
noncomputable abbrev vD(d:Dom):V:=.tup (d.map vI)
noncomputable def putBehind(d:Dom)(l h:Int):Dom:=match d.getLast? with
 |some p=>if l<=p.2+1 then(if p.2<h then d.dropLast++[(p.1,h)]else d)else d++[(l,h)]
 |none=>[(l,h)]
theorem putBehind_len(d:Dom)(l h:Int):(putBehind d l h).length<=d.length+1:=by
 rcases snoc_cases d with rfl|⟨e,p,rfl⟩
 ·simp[putBehind]
 ·simp only[putBehind,cR];split<;>(try split)<;>simp
noncomputable def sizeD(d:Dom):Int:=(d.map λp=>p.2-p.1+1).sum
noncomputable def nextFrom(v:Int):Dom->Option Int
 |[]=>none
 |p::ds=>if v<=p.2 then some (max p.1 v)else nextFrom v ds
noncomputable def oV:Option Int->V
 |some i=>.int i
 |none=>.none
noncomputable def hasD(d:Dom)(v:Int):Bool:=nextFrom v d==some v
section
variable{c:Cx}{k:Nat}{Q:Rz->List MW->Prop}
theorem c_least(H:KF c):∀(d:Dom) (p:Int×Int) (ds:Dom),(d=p::ds)->FS1 c 1 42 [.v (vD d)] (λQ=>Q (.v (.int p.1)) [.v (vD d)]):=
 λd p ds hz0=>.ofChk1 H (H.f 2 42 (stAt top 4) [27] rfl) [27] (w:=by
  intro Q q;obtain rfl:=hz0;walk_at"g";exact q)
theorem c_greatest(H:KF c):∀(d:Dom) (p:Int×Int) (ds:Dom),(d=ds++[p])->(d.length<=100)->FS1 c 1 49 [.v (vD d)] (λQ=>Q (.v (.int p.2)) [.v (vD d)]):=
 λd p ds hz0 hl=>.ofChk1 H (H.f 3 49 (stAt top 5) [27] rfl) [27] (w:=by
  intro Q q;obtain rfl:=hz0;simp only[vD,ah,aD,ca]at q⊢;walk_at"g";exact q)
theorem c_put_behind(H:KF c):∀(d:Dom) (l h:Int),(d.length<=100)->FS1 c 1 28 [.list (d.map vI),.v (.int l),.v (.int h)] (λQ=>Q (.v .none) [.list ((putBehind d l h).map vI),.v (.int l),.v (.int h)]):=
 λd l h hl=>.ofChk1 H (H.f 0 28 (stAt top 2) [46,78,57] rfl) [0,0,46,78,46,57,46,46,57,46,5,0,46,78,57] (w:=by
  intro Q q;rcases snoc_cases d with rfl|⟨e,p,rfl⟩
  ·walk_at"g"
   all_goals first|exact q|(exfalso;revert ‹¬_›;simp;done)|trace_state
  ·simp only[ah,aD,ca,aa,am,bo]at hl⊢;rw[putBehind,cR,dF]at q;walk_at"g"
   all_goals show Q _ _
   all_goals simp[*]at q
   all_goals first|simpa using q|(exfalso;rename_i h;first|lia|(simp at h;done)|(simp at h;lia)))
theorem c_size(H:KF c):∀d:Dom,(d.length<=100)->(∀p∈d,p.1.natAbs<=1000/\p.2.natAbs<=1000)->FS1 c 1 54 [.v (vD d)] (λQ=>Q (.v (.int (sizeD d))) [.v (vD d)]):=
 λd hl hb=>.ofChk1 H (H.f 4 54 (stAt top 6) [27] rfl) [3,0,27,0,78,57,57,78] (w:=by
  intro Q q;walk_at"g";refine acc1 d vI (λp=>.int (p.2-p.1+1)) rfl (λp hp acc Q' ha hq=>?_) (leT hl rfl) ?_
  ·walk_at"g";exact hq _ rfl
  ·refine it_ (x:=d.map λp=>p.2-p.1+1) (by rw[←intsOf_map,av];rfl) ?_;refine pr_ ⟨szMap (leT hl rfl),?_⟩ ?_
   ·intro n hn;obtain⟨p,hp,rfl⟩:=au.mp hn;exact leT (nabA (nabS (hb p hp).2 (hb p hp).1) nab1) rfl
   ·walk_at"g";exact q)
theorem c_next_from(H:KF c):∀(d:Dom) (v:Int),FS1 c 1 61 [.v (vD d),.v (.int v)] (λQ=>Q (.v (oV (nextFrom v d))) [.v (vD d),.v (.int v)]):=
 λd v=>.ofChk1 H (H.f 5 61 (stAt top 8) [27,141] rfl) [27,78,57,141,57,1,0,78,141] (w:=by
  intro Q q;walk_at"g";refine loop_ vI (λ_:Unit=>[(27,.v (vD d)),(141,.v (.int v))]) (λds _=>nextFrom v ds=nextFrom v d) (λp ds _ Q' hI hn hr=>?_) (λ_ hI=>?_) d () rfl
  ·have hI':(if v<=p.2 then some (max p.1 v)else nextFrom v ds)=nextFrom v d:=hI;walk_at"g"
   ·rename_i hv;rw[if_pos hv]at hI';apply hr;rw[←hI']at q;walk_at"g";exact q
   ·rename_i hv;rw[if_neg hv]at hI';exact hn () _ hI' rfl
  ·walk_at"g";rw[←hI]at q;exact q)
theorem c_has(H:KF c):∀(d:Dom) (v:Int),FS1 c 2 68 [.v (vD d),.v (.int v)] (λQ=>Q (.v (.bool (hasD d v))) [.v (vD d),.v (.int v)]):=
 λd v=>.ofChk1 H (H.f 6 68 (stAt top 9) [27,141] rfl) [6,6,27,141,141] (w:=by
  intro Q q;walk_at"g";refine call1_ (c_next_from H d v) ?_;rcases h:nextFrom v d with _|w
  ·refine eqv_ false rfl rfl (by simp[oV]) ?_;have hh:hasD d v=false:=by simp[hasD,h]
   rw[hh]at q;walk_at"g";exact q
  ·have hh:hasD d v=decide (w=v):=by simp only[hasD,h,Option.some_beq_some];rfl
   rw[hh]at q;walk_at"g";exact q)
end
noncomputable def valuesD(d:Dom):List Int:=d.flatMap λp=>rangeI p.1 (p.2+1)
def Sm(d:Dom):Prop:=∀p∈d,p.1.natAbs<=1000/\p.2.natAbs<=1000
noncomputable def upTo(d:Dom)(k:Int):Dom:=(d.filter λp=>decide (p.1<=k)).map λp=>(p.1,min p.2 k)
theorem upTo_len(d:Dom)(k:Int):(upTo d k).length<=d.length:=by
 simp only[upTo,a7];exact ak _ _
noncomputable def fromOn(d:Dom)(k:Int):Dom:=(d.filter λp=>decide (k<=p.2)).map λp=>(max p.1 k,p.2)
theorem fromOn_len(d:Dom)(k:Int):(fromOn d k).length<=d.length:=by
 simp only[fromOn,a7];exact ak _ _
noncomputable def meet1(k:Int):Dom->Dom
 |[]=>[]
 |p::ds=>(if p.1<=k/\k<=p.2 then[(k,k)]else[])++(if p.2<k then meet1 k ds else[])
set_option smartUnfolding false in
theorem meet1_c{k:Int}{p:Int×Int}{ds:Dom}:meet1 k (p::ds)=(if p.1<=k/\k<=p.2 then[(k,k)]else[])++(if p.2<k then meet1 k ds else[]):=rfl
theorem mxmn{lo hi k:Int}:(max lo k<=min hi k↔lo<=k/\k<=hi)/\(max lo k<=min hi k->max lo k=k/\min hi k=k):=
 have h1:max lo k<=min hi k->lo<=k/\k<=hi:=λh=>⟨aG (gB _ _) (aG h (Int.min_le_right _ _)),aG (gq _ _) (aG h (gz _ _))⟩;have h2:lo<=k/\k<=hi->max lo k=k/\min hi k=k:=λh=>⟨gm h.1,gh h.2⟩
 ⟨⟨h1,λh=>by rw[(h2 h).1,(h2 h).2];exact Int.le_refl k⟩,λh=>h2 (h1 h)⟩
theorem meet1_len(k:Int)(d:Dom):(meet1 k d).length<=d.length:=by
 induction d with
 |nil=>exact aI _
 |cons p ds ih=>
  simp only[meet1_c,aa,am];split<;>split<;>simp<;>lia
section
variable{c:Cx}
theorem c_values(H:KF c):∀d:Dom,(Sm d)->((valuesD d).length<=100)->FS1 c 1 75 [.v (vD d)] (λQ=>Q (.v (.lst ((valuesD d).map .int))) [.v (vD d)]):=
 λd hb hl=>.ofChk1 H (H.f 7 75 (stAt top 11) [27] rfl) [46,27,78,57,37,2,46,5,0,78,57,46] (w:=by
  intro Q q;walk_at"g";refine loop_ vI (λl:List Int=>[(27,.v (vD d)),(46,.list (l.map .int))]) (λds l=>l++valuesD ds=valuesD d/\Sm ds) (λp ds l Q' hI hn hr=>?_) (λl hI=>?_) d [] ⟨rfl,hb⟩
  ·obtain⟨h1,h2⟩:=hI;have hp:=h2 p (.head _);have n1:p.1.natAbs<=1000000:=leT hp.1 rfl;have n2:(p.2+1).natAbs<=1000000:=leT (nabA hp.2 nab1) rfl;have hv:valuesD (p::ds)=rangeI p.1 (p.2+1)++valuesD ds:=rfl;have hl':(l++valuesD (p::ds)).length<=100:=by rw[h1];exact hl
   simp only[hv,aa]at hl';walk_at"g";refine hn (l++rangeI p.1 (p.2+1)) _ ⟨by rw[←h1,hv,bg],λp hp=>h2 p (by simp[hp])⟩ ?_;rw[ah];rfl
  ·have h1:=hI.1;simp only[valuesD,List.flatMap_nil,aM]at h1;refine h1▸?_;walk_at"g";exact q)
theorem c_up_to(H:KF c):∀(d:Dom) (k:Int),(d.length<=100)->FS1 c 1 80 [.v (vD d),.v (.int k)] (λQ=>Q (.v (vD (upTo d k))) [.v (vD d),.v (.int k)]):=
 λd k hl=>.ofChk1 H (H.f 8 80 (stAt top 12) [27,66] rfl) [6,0,27,1,66,78,57,78,66,78,2,0,57,66] (w:=by
  intro Q q;have hl2:=upTo_len d k;simp only[upTo,a7]at hl2;walk_at"g";refine accF d vI (λp=>decide (p.1<=k)) (λp=>vI (p.1,min p.2 k)) rfl (λp hp acc Q' ha hq hr=>?_) (a6 ‹_› (a5 rfl)) ?_
  ·walk_at"g"
   ·exact hq (decide_eq_true ‹_›) _ rfl
   ·exact hr (decide_eq_false ‹_›) _ rfl
  ·walk_at"g";show Q _ _;simpa only[vD,upTo,av,Function.comp_def]using q)
theorem c_from_on(H:KF c):∀(d:Dom) (k:Int),(d.length<=100)->FS1 c 1 85 [.v (vD d),.v (.int k)] (λQ=>Q (.v (vD (fromOn d k))) [.v (vD d),.v (.int k)]):=
 λd k hl=>.ofChk1 H (H.f 9 85 (stAt top 13) [27,66] rfl) [6,0,27,1,66,78,57,57,66,1,0,78,66,57] (w:=by
  intro Q q;have hl2:=fromOn_len d k;simp only[fromOn,a7]at hl2;walk_at"g";refine accF d vI (λp=>decide (k<=p.2)) (λp=>vI (max p.1 k,p.2)) rfl (λp hp acc Q' ha hq hr=>?_) (a6 ‹_› (a5 rfl)) ?_
  ·walk_at"g"
   ·exact hq (decide_eq_true ‹_›) _ rfl
   ·exact hr (decide_eq_false ‹_›) _ rfl
  ·walk_at"g";show Q _ _;simpa only[vD,fromOn,av,Function.comp_def]using q)
theorem c_without(H:KF c):∀(d:Dom) (v:Int),(d.length<=100)->FS1 c 2 92 [.v (vD d),.v (.int v)] (λQ=>Q (.v (vD (upTo d (v-1)++fromOn d (v+1)))) [.v (vD d),.v (.int v)]):=
 λd v hl=>.ofChk1 H (H.f 10 92 (stAt top 14) [27,141] rfl) [10,9,27,141,11,10,27,141] (w:=by
  intro Q q;have h1:=upTo_len d (v-1);have h2:=fromOn_len d (v+1);walk_at"g";refine call1_ (c_up_to H d _ hl) ?_;walk_at"g";refine call1_ (c_from_on H d _ hl) ?_;walk_at"g";show Q _ _;simpa only[vD,ah]using q)
theorem c_negation(H:KF c):∀(x k:Int) (s:Str),(okV (.str s)=true)->FS1 c 1 113 [.v (.tup [.int x,.str s,.int k])] (λQ=>(∀s' k',Q (.v (.tup [.int x,.str s',.int k'])) [.v (.tup [.int x,.str s,.int k])])):=
 λx k s hs=>.ofChk1 H (H.f 13 113 (stAt top 17) [76] rfl) [76,151,124,66,124,151,66,124,151,66,124,151,66,151,66] (w:=by
  intro Q q;have st:∀(t:Str) (P:Bool->Prop),okV (.str t)=true->(∀b,P b)->EqV (.str s) (.str t) P:=λt P h1 h2=>⟨hs,h1,λr _=>h2 r⟩;walk_at"g";refine st _ _ (by decide+kernel) λb=>br_ (λ_=>?_) λ_=>?_
  ·walk_at"g";exact q _ _
  walk_at"g";refine st _ _ (by decide+kernel) λb=>br_ (λ_=>?_) λ_=>?_
  ·walk_at"g";exact q _ _
  walk_at"g";refine st _ _ (by decide+kernel) λb=>br_ (λ_=>?_) λ_=>?_
  all_goals
   walk_at"g";exact q _ _)
theorem c_meet(H:KF c):∀(d:Dom) (k:Int),(d.length<=100)->FS1 c 1 99 [.v (vD d),.v (.tup [.tup [.int k,.int k]])] (λQ=>Q (.v (vD (meet1 k d))) [.v (vD d),.v (.tup [.tup [.int k,.int k]])]):=
 λd k hl=>.ofChk1 H (H.f 11 99 (stAt top 15) [27,32] rfl) [46,59,65,59,0,0,27,65,0,0,32,1,0,27,59,32,65,2,0,27,59,32,65,78,57,78,57,5,0,46,78,57,27,59,32,65,59,59,65,65,6,0,46] (w:=by
  intro Q q;have hl2:=meet1_len k d;walk_at"g";have mx:=λlo hi:Int=>mxmn (lo:=lo) (hi:=hi) (k:=k);have fl:∀f g:Dom,f++g=meet1 k d->f.length<=100:=λf g e=>a6 (a6 (by rw[←e,aa];exact an _ _) hl2) hl;refine while3_ (d.length+3) 0 0 [] (λ(i:Nat) (j:Int) (f:Dom)=>[(27,.v (vD d)),(32,.v (.tup [.tup [.int k,.int k]])),(65,.v (.int j)),(59,.v (.int i)),(46,.list (f.map vI))])
   (λm i j f G=>(j=0->d.length+2<=m+i->i<=d.length->f++meet1 k (d.drop i)=meet1 k d->G)/\(j=1->1<=m->f=meet1 k d->G)) rfl (λR k=>k.1 rfl (cb _) (aZ _) rfl)
   (λm i j f Q'=>⟨λej h1 h2 h3 hn hr=>?_,λej h1 h2 hn hr=>?_⟩) λi j f=>⟨λ_ h1 h2 _=>bF d.length (a6 (cb _) (a6 (bB i▸h1) h2)),λ_ h _=>bF 0 h⟩
  ·refine ej.symm▸?_;have fl:=fl _ _ h3;rcases Nat.lt_or_ge i d.length with hi|hi
   ·have m1:1<=m:=by lia
    have h1:d.length+2<=m+(i+1):=by rw[cB i 1,←bh];exact h1
    have hx2:itemAt (d.map vI) (i:Int)=some (vI d[i]):=itemAt_nat (szMap (a6 hl (a5 rfl))) (by rw[ae,a8 hi];rfl);rw[eA hi,show meet1 k (d[i]::d.drop (i+1))=(if d[i].1<=k/\k<=d[i].2 then[(k,k)]else[])++(if d[i].2<k then meet1 k (d.drop (i+1))else[])from rfl]at h3;obtain⟨k1,k2⟩:=mx d[i].1 d[i].2;generalize d[i]=p at *;have di:(i:Int)<(d.map vI).length:=by rw[a7];exact bq.mpr hi
    walk_at"g"
    ·rename_i _ g1 g2;obtain⟨e1,e2⟩:=k2 g1;rw[if_pos (k1.1 g1),if_pos g2,←bg]at h3;exact hn (i+1) 0 (f++[(k,k)]) _ (λR k=>k.1 rfl h1 hi h3) (by rw[e1,e2,ah];rfl)
    ·rename_i _ g1 g2;obtain⟨e1,e2⟩:=k2 g1;rw[if_pos (k1.1 g1),if_neg g2,aM]at h3;exact hn i 1 (f++[(k,k)]) _ (λR k=>k.2 rfl m1 h3) (by rw[e1,e2,ah];rfl)
    ·rename_i _ g1 g2;rw[if_neg (λh=>g1 (k1.2 h)),if_pos g2,List.nil_append]at h3;exact hn (i+1) 0 f _ (λR k=>k.1 rfl h1 hi h3) rfl
    ·rename_i _ g1 g2;rw[if_neg (λh=>g1 (k1.2 h)),if_neg g2,aM,aM]at h3;exact hn i 1 f _ (λR k=>k.2 rfl m1 h3) rfl
    all_goals first|(rename_i z;exact absurd di z)|(exfalso;walk_at"sz")
   ·rw[bC h2 hi]at h3⊢;rw[dW,show meet1 k []=[]from rfl,aM]at h3;have di:¬((d.length:Int)<(d.map vI).length):=by rw[a7];exact Int.lt_irrefl _
    walk_at"g"
    all_goals first|(rename_i z;exact absurd z di)|(rename_i z _;exact absurd z di)|skip
    all_goals(rw[h3];exact q)
  ·subst ej;walk_at"g"
   all_goals first|(exfalso;walk_at"sz";done)|skip
   all_goals(rw[h2];exact q))
end
noncomputable def valsM(m:Nat):List Int:=[0,1,2,3].filter λv=>m.testBit v.toNat
noncomputable def dm(m:Nat):Dom:=(valsM m).foldl (λd v=>putBehind d v v) []
noncomputable abbrev wD(m:Nat):V:=vD (dm m)
inductive Sg where|le|ge|eq|ne
noncomputable def Sg.str:Sg->Str
 |.le=>Str.ofString "<="|.ge=>Str.ofString ">="|.eq=>Str.ofString "="|.ne=>Str.ofString "!="
noncomputable def Sg.sat(s:Sg)(k v:Int):Bool:=match s with
 |.le=>decide (v<=k)|.ge=>decide (k<=v)|.eq=>decide (v=k)|.ne=>decide (v≠k)
noncomputable def lm(s:Sg)(k:Int):Nat:=(if s.sat k 0 then 1 else 0)+(if s.sat k 1 then 2 else 0)+(if s.sat k 2 then 4 else 0)+(if s.sat k 3 then 8 else 0)
noncomputable abbrev lit(x:Nat)(s:Sg)(k:Int):V:=.tup [.int x,.str s.str,.int k]
theorem Sg.ok(s:Sg):okV (.str s.str)=true:=by cases s<;>decide+kernel
theorem t_struck:∀m<16,∀k:Nat,k<6->(upTo (dm m) ((k:Int)-1)=dm (m&&&lm .le ((k:Int)-1))/\fromOn (dm m) ((k:Int)-1)=dm (m&&&lm .ge ((k:Int)-1)))/\meet1 ((k:Int)-1) (dm m)=dm (m&&&lm .eq ((k:Int)-1))/\upTo (dm m) ((k:Int)-1-1)++fromOn (dm m) ((k:Int)-1+1)=dm (m&&&lm .ne ((k:Int)-1)):=by decide+kernel
def k8(k:Int):Prop:=-1<=k/\k<=4
theorem k8_nat{n:Nat}(h:n<4):k8 (n:Int):=⟨aG (by decide) (aX _),bv.mpr (bf h)⟩
theorem k8_4{v:Int}(h0:0<=v)(h:v<=3):k8 v:=⟨aG (by decide) h0,aG h (by decide)⟩
theorem k8_ex{k:Int}(h:k8 k):∃n:Nat,n<6/\k=(n:Int)-1:=by
 obtain⟨n,e⟩:=c6 (show(0:Int)<=k+1 from cU h.1 1);exact⟨n,bq.mp (e▸bY (cU h.2 1) (by decide)),by rw[←e];exact(dM k 1).symm⟩
theorem struckM{m:Nat}{k:Int}(hm:m<16)(hk:k8 k):(upTo (dm m) k=dm (m&&&lm .le k)/\fromOn (dm m) k=dm (m&&&lm .ge k))/\meet1 k (dm m)=dm (m&&&lm .eq k)/\upTo (dm m) (k-1)++fromOn (dm m) (k+1)=dm (m&&&lm .ne k):=by
 refine oea (k8_ex hk) λn hn z_=>?_;subst z_;exact t_struck m hm n hn
noncomputable instance(d:Dom):Decidable (Sm d):=inferInstanceAs (Decidable (∀p∈d,p.1.natAbs<=1000/\p.2.natAbs<=1000))
theorem t_dm:∀m<16,(Sm (dm m)/\(dm m).length<=2)/\valuesD (dm m)=valsM m/\sizeD (dm m)=(valsM m).length:=by decide+kernel
theorem dm_len{m:Nat}(hm:m<16):(dm m).length<=100:=a6 (t_dm m hm).1.2 (by decide)
section
variable{c:Cx}
theorem c_struck(H:KF c):∀(x m:Nat) (s:Sg) (k:Int),(m<16)->(k8 k)->FS1 c 3 120 [.v (lit x s k),.v (wD m)] (λQ=>Q (.v (wD (m&&&lm s k))) [.v (lit x s k),.v (wD m)]):=
 λx m s k hm hk=>.ofChk1 H (H.f 14 120 (stAt top 18) [76,27] rfl) [76,76,124,66,124,10,9,27,66,124,11,10,27,66,124,13,12,27,66,66,12,11,27,66] (w:=by
  intro Q q;refine oaa (struckM hm hk) λz_ e3 e4=>?_;obtain⟨e1,e2⟩:=z_;have hl:=dm_len hm;have ne:∀(a b:Str) (P:Bool->Prop),okV (.str a)=true->okV (.str b)=true->decide (a=b)=false->P false->EqV (.str a) (.str b) P:=λa b P h1 h2 h3 h=>eqv_ false h1 h2 (by simp only[bX,V.str.injEq,false_iff];exact of_decide_eq_false h3) h;have eq:∀(a:Str) (P:Bool->Prop),okV (.str a)=true->P true->EqV (.str a) (.str a) P:=λa P h1 h=>eqv_ true h1 h1 (by simp) h;cases s
  ·walk_at"g";refine eq _ _ (by decide+kernel) (brT ?_);walk_at"g";refine call1_ (c_up_to H (dm m) k hl) ?_;rw[e1];walk_at"g";exact q
  ·walk_at"g";refine ne _ _ _ (by decide+kernel) (by decide+kernel) (by decide+kernel) (brF ?_);walk_at"g";refine eq _ _ (by decide+kernel) (brT ?_);walk_at"g";refine call1_ (c_from_on H (dm m) k hl) ?_;rw[e2];walk_at"g";exact q
  ·walk_at"g";refine ne _ _ _ (by decide+kernel) (by decide+kernel) (by decide+kernel) (brF ?_);walk_at"g";refine ne _ _ _ (by decide+kernel) (by decide+kernel) (by decide+kernel) (brF ?_);walk_at"g";refine eq _ _ (by decide+kernel) (brT ?_);walk_at"g";refine call1_ (c_meet H (dm m) k hl) ?_;rw[e3];walk_at"g";exact q
  ·walk_at"g";refine ne _ _ _ (by decide+kernel) (by decide+kernel) (by decide+kernel) (brF ?_);walk_at"g";refine ne _ _ _ (by decide+kernel) (by decide+kernel) (by decide+kernel) (brF ?_);walk_at"g";refine ne _ _ _ (by decide+kernel) (by decide+kernel) (by decide+kernel) (brF ?_);walk_at"g";refine call1_ (c_without H (dm m) k hl) ?_;rw[e4];walk_at"g";exact q)
end
structure Ent where
 x:Nat
 old:Nat
 rest:List V
noncomputable def Ent.v(e:Ent):V:=.tup (.int e.x::wD e.old::e.rest)
structure Sto where
 D:List Nat
 F:List Nat
 tr:List Ent
 mks:List V
 nw:List (Int×V)
 spk:Int
 fl:Bool
 cl:V
noncomputable abbrev Sto.w(s:Sto):MW:=.obj 277 [31,43,138,83,95,127,63,22] [.list (s.D.map wD),.list (s.F.map wD),.list (s.tr.map Ent.v),.list s.mks,.dict s.nw,.v (.int s.spk),.v (.bool s.fl),.v s.cl]
noncomputable def wt(D:List Nat):Nat:=(D.map λm=>(valsM m).length).sum
noncomputable def undo(tr:List Ent)(D:List Nat):List Nat:=tr.foldr (λe D=>D.set e.x e.old) D
theorem undo_snoc(tr:List Ent)(e:Ent)(D:List Nat):undo (tr++[e]) D=undo tr (D.set e.x e.old):=by simp[undo]
structure Sto.Ok(s:Sto):Prop where
 len:s.D.length=5
 lenF:s.F.length=5
 rg:∀m∈s.D,1<=m/\m<16
 rgF:∀m∈s.F,1<=m/\m<16
 tr:s.tr.length+wt s.D<=20
 nw:s.nw.length+wt s.D<=20
 ent:∀e∈s.tr,e.x<5
 und:undo s.tr s.D=s.F
noncomputable def at_(D:List Nat)(x:Nat):Nat:=D.getD x 0
noncomputable def lowM(m:Nat):Int:=(valsM m).headD 0
noncomputable def highM(m:Nat):Int:=(valsM m).getLastD 0
@[irreducible] noncomputable def hasM (m:Nat) (v:Int):Bool:=(valsM m).contains v
@[irreducible] noncomputable def fixM (m:Nat):Bool:=(valsM m).length==1
noncomputable def firstP(d:Dom):Int×Int:=d.headD (0,0)
theorem t_dm2:∀m<16,1<=m->(dm m=firstP (dm m)::(dm m).tail/\(firstP (dm m)).1=lowM m)/\(dm m=(dm m).dropLast++[(dm m).getLastD (0,0)]/\((dm m).getLastD (0,0)).2=highM m)/\fixM m=(decide (((dm m).length:Int)=1)&&decide ((firstP (dm m)).1=(firstP (dm m)).2)):=by decide+kernel
theorem t_has:∀m<16,∀v:Nat,v<6->hasD (dm m) ((v:Int)-1)=hasM m ((v:Int)-1):=by decide+kernel
theorem hasDM{m:Nat}{v:Int}(hm:m<16)(hv:k8 v):hasD (dm m) v=hasM m v:=by
 refine oea (k8_ex hv) λn hn z_=>?_;subst z_;exact t_has m hm n hn
theorem t_inj:∀m<16,∀n<16,dm m=dm n->m=n:=by decide+kernel
theorem vI_inj{p q:Int×Int}(h:vI p=vI q):p=q:=by
 cases p;cases q;simp only[vI,V.tup.injEq,d5.injEq,V.int.injEq,and_true]at h;exact Prod.ext h.1 h.2
theorem vD_inj{d e:Dom}(h:vD d=vD e):d=e:=by
 simp only[vD,V.tup.injEq]at h;exact(fE λ_ _=>vI_inj).1 h
theorem wD_inj{m n:Nat}(hm:m<16)(hn:n<16):wD m=wD n↔m=n:=⟨λh=>t_inj m hm n hn (vD_inj h),λh=>by rw[h]⟩
theorem t_okW:∀m<16,okV (wD m)=true:=by decide+kernel
theorem eqW_{m n:Nat}{P:Bool->Prop}(hm:m<16)(hn:n<16)(h:P (decide (m=n))):EqV (wD m) (wD n) P:=
 eqv_ _ (t_okW m hm) (t_okW n hn) (by simp only[wD_inj hm hn];simp) h
theorem eqW0{m:Nat}{P:Bool->Prop}(hm:m<16)(h:P (decide (m=0))):EqV (wD m) (.tup []) P:=eqW_ hm (by decide) h
theorem lenD{x n:Nat}(h:n=5)(hx:x<5):x<n/\n<=100:=by subst h;exact⟨hx,by decide⟩
theorem itemAt_D{D:List Nat}{x:Nat}(h:x<D.length/\D.length<=100):itemAt (D.map wD) (x:Int)=some (wD (at_ D x)):=by
 refine itemAt_nat (by simp;exact a6 (And.right ‹_›) (a5 rfl)) ?_;simp[at_,h.1]
theorem okWs{F:List Nat}(h:∀m∈F,1<=m/\m<16):okVs (F.map wD)=true:=by
 induction F with
 |nil=>rfl
 |cons m F ih=>
  have h1:=t_okW m (h m (by simp)).2;unfold okVs at *;simp only[aD,vDats,bM,ih λm hm=>h m (by simp[hm])];unfold okV at h1;rw[h1];rfl
theorem noW0{F:List Nat}(h:∀m∈F,1<=m/\m<16):V.tup []∉F.map wD:=λz=>by
 refine oea (au.mp z) λm hm e=>?_;have:=(wD_inj (h m hm).2 (show(0:Nat)<16 by decide)).1 e;have:=(h m hm).1;lia
theorem Sto.Ok.atD{s:Sto}(h:s.Ok){x:Nat}(hx:x<5):1<=at_ s.D x/\at_ s.D x<16:=by
 have hx':x<s.D.length:=by rw[h.len];exact hx
 have:at_ s.D x=s.D[x]:=by simp[at_,hx']
 refine(this).symm▸?_;exact h.rg _ (aP hx')
theorem Sto.Ok.atF{s:Sto}(h:s.Ok){x:Nat}(hx:x<5):1<=at_ s.F x/\at_ s.F x<16:=by
 have hx':x<s.F.length:=by rw[h.lenF];exact hx
 have:at_ s.F x=s.F[x]:=by simp[at_,hx']
 refine(this).symm▸?_;exact h.rgF _ (aP hx')
section
variable{c:Cx}{k:Nat}{s:Sto}{x:Nat}{Q:Rz->List MW->Prop}
theorem c_dom(H:KF c):∀(s:Sto) (x:Nat),(s.Ok)->(x<5)->FS1 c 1 162 [s.w,.v (.int x)] (λQ=>Q (.v (wD (at_ s.D x))) [s.w,.v (.int x)]):=
 λs x ok hx=>.ofChk1 H (H.f 17 162 (stAt (bodyOf (stAt top 21)) 3) [122,151] rfl) [31,122,151] (w:=by
  intro Q q;have hD:=itemAt_D (D:=s.D) (x:=x) (lenD ok.len ‹_›);walk_at"g";exact q)
theorem c_initial(H:KF c):∀(s:Sto) (x:Nat),(s.Ok)->(x<5)->FS1 c 1 169 [s.w,.v (.int x)] (λQ=>Q (.v (wD (at_ s.F x))) [s.w,.v (.int x)]):=
 λs x ok hx=>.ofChk1 H (H.f 18 169 (stAt (bodyOf (stAt top 21)) 4) [122,151] rfl) [43,122,151] (w:=by
  intro Q q;have hD:=itemAt_D (D:=s.F) (x:=x) (lenD ok.lenF ‹_›);walk_at"g";exact q)
theorem c_low(H:KF c):∀(s:Sto) (x:Nat),(s.Ok)->(x<5)->FS1 c 2 176 [s.w,.v (.int x)] (λQ=>Q (.v (.int (lowM (at_ s.D x)))) [s.w,.v (.int x)]):=
 λs x ok hx=>.ofChk1 H (H.f 19 176 (stAt (bodyOf (stAt top 21)) 5) [122,151] rfl) [2,3,31,122,151] (w:=by
  intro Q q;have hD:=itemAt_D (D:=s.D) (x:=x) (lenD ok.len ‹_›);refine oa (ok.atD hx) λr1 r2=>?_;obtain⟨⟨e1,e2⟩,-⟩:=t_dm2 _ r2 r1;walk_at"g";refine call1_ (c_least H _ _ _ e1) ?_;refine(e2).symm▸?_;walk_at"g";exact q)
theorem c_high(H:KF c):∀(s:Sto) (x:Nat),(s.Ok)->(x<5)->FS1 c 2 183 [s.w,.v (.int x)] (λQ=>Q (.v (.int (highM (at_ s.D x)))) [s.w,.v (.int x)]):=
 λs x ok hx=>.ofChk1 H (H.f 20 183 (stAt (bodyOf (stAt top 21)) 6) [122,151] rfl) [3,4,31,122,151] (w:=by
  intro Q q;have hD:=itemAt_D (D:=s.D) (x:=x) (lenD ok.len ‹_›);refine oa (ok.atD hx) λr1 r2=>?_;refine oaa (t_dm2 _ r2 r1) λz_ z24_ z25_=>?_;obtain -:=z_;refine oa z24_ λe1 e2=>?_;obtain -:=z25_;walk_at"g";refine call1_ (c_greatest H _ _ _ e1 (dm_len r2)) ?_;rw[e2];walk_at"g";exact q)
theorem c_Shas(H:KF c):∀(s:Sto) (x:Nat) (v:Int),(s.Ok)->(x<5)->(k8 v)->FS1 c 3 190 [s.w,.v (.int x),.v (.int v)] (λQ=>Q (.v (.bool (hasM (at_ s.D x) v))) [s.w,.v (.int x),.v (.int v)]):=
 λs x v ok hx hv=>.ofChk1 H (H.f 21 190 (stAt (bodyOf (stAt top 21)) 7) [122,151,141] rfl) [8,7,31,122,151,141] (w:=by
  intro Q q;have hD:=itemAt_D (D:=s.D) (x:=x) (lenD ok.len ‹_›);obtain⟨r1,r2⟩:=ok.atD hx;walk_at"g";refine call1_ (c_has H _ _) ?_;refine(hasDM r2 hv).symm▸?_;walk_at"g";exact q)
theorem c_is_fixed(H:KF c):∀(s:Sto) (x:Nat),(s.Ok)->(x<5)->FS1 c 1 197 [s.w,.v (.int x)] (λQ=>Q (.v (.bool (fixM (at_ s.D x)))) [s.w,.v (.int x)]):=
 λs x ok hx=>.ofChk1 H (H.f 22 197 (stAt (bodyOf (stAt top 21)) 8) [122,151] rfl) [31,122,151,30,0,0,30,30,30] (w:=by
  intro Q q;have hD:=itemAt_D (D:=s.D) (x:=x) (lenD ok.len ‹_›);refine oa (ok.atD hx) λr1 r2=>?_;have hl:=dm_len r2;refine oaa (t_dm2 _ r2 r1) λz_ z33_ e3=>?_;clear hx;obtain⟨e1,-⟩:=z_;obtain -:=z33_;rw[e3]at q;have e4:itemAt ((dm (at_ s.D x)).map vI) 0=some (vI (firstP (dm (at_ s.D x)))):=itemAt_nat (n:=0) (by simp;exact a6 (by assumption) (a5 rfl)) (by refine(e1)▸?_;rfl);walk_at"g"
  all_goals
   show Q _ _;rename_i hh;rw[a7]at hh;simpa[hh]using q)
theorem c_value(H:KF c):∀(s:Sto) (x:Nat),(s.Ok)->(x<5)->FS1 c 1 204 [s.w,.v (.int x)] (λQ=>Q (.v (.int (lowM (at_ s.D x)))) [s.w,.v (.int x)]):=
 λs x ok hx=>.ofChk1 H (H.f 23 204 (stAt (bodyOf (stAt top 21)) 9) [122,151] rfl) [31,122,151] (w:=by
  intro Q q;have hD:=itemAt_D (D:=s.D) (x:=x) (lenD ok.len ‹_›);refine oa (ok.atD hx) λr1 r2=>?_;have hl:=dm_len r2;obtain⟨⟨e1,e2⟩,-⟩:=t_dm2 _ r2 r1;have e4:itemAt ((dm (at_ s.D x)).map vI) 0=some (vI (firstP (dm (at_ s.D x)))):=itemAt_nat (n:=0) (by simp;exact a6 (by assumption) (a5 rfl)) (by refine(e1).symm▸?_;rfl);rw[←e2]at q;walk_at"g";exact q)
theorem c_width(H:KF c):∀(s:Sto) (x:Nat),(s.Ok)->(x<5)->FS1 c 2 211 [s.w,.v (.int x)] (λQ=>Q (.v (.int (valsM (at_ s.D x)).length)) [s.w,.v (.int x)]):=
 λs x ok hx=>.ofChk1 H (H.f 24 211 (stAt (bodyOf (stAt top 21)) 10) [122,151] rfl) [5,5,31,122,151] (w:=by
  intro Q q;have hD:=itemAt_D (D:=s.D) (x:=x) (lenD ok.len ‹_›);refine oa (ok.atD hx) λr1 r2=>?_;refine oaa (t_dm _ r2) λz_ z55_ h4=>?_;refine oa z_ λh1 h2=>?_;obtain -:=z55_;rw[←h4]at q;walk_at"g";refine call1_ (c_size H _ (dm_len r2) h1) ?_;walk_at"g";exact q)
noncomputable def lsOf:MW->Option (List V)
 |.v (.lst vs)=>some vs
 |.list vs=>some vs
 |_=>none
theorem lsOf_out{W:MW}{rs:List V}(h:lsOf W=some rs):W=.v (.lst rs)∨W=.list rs:=by
 cases W with
 |v x=>cases x<;>first|(exact nos h;done)|(refine(ab.inj h)▸?_;exact .inl rfl)
 |list vs=>refine(ab.inj h)▸?_;exact .inr rfl
 |_=>exact nos h
def IsRs(R:MW)(rs:List V):Prop:=R=.v (.tup rs)∨lsOf R=some rs
theorem c_fail(H:KF c):∀(s:Sto) (R:MW) (rs:List V),(IsRs R rs)->(rs.length<=4096)->FS1 c 1 246 [s.w,R] (λQ=>Q (.v (.bool false)) [Sto.w {s with fl:=true,cl:=.tup rs},R]):=
 λs R rs hR hl=>.ofChk1 H (H.f 28 246 (stAt (bodyOf (stAt top 21)) 15) [122,114] rfl) [122,63,6,0,114,122,22] (w:=by
  intro Q q;obtain rfl|rfl|rfl:R=.v (.tup rs)∨R=.v (.lst rs)∨R=.list rs:=hR.imp id lsOf_out
  all_goals
   walk_at"g";exact q)
def EntD(s:Sto)(x:Nat)(g:Sg)(k:Int)(P:Bool->Sto->Prop):Prop:=
 if at_ s.D x&&&lm g k=0 then∀w,P false {s with fl:=true,cl:=w}
 else if at_ s.D x&&&lm g k=at_ s.D x then P true s
 else∀rest,P true {s with D:=s.D.set x (at_ s.D x&&&lm g k),tr:=s.tr++[⟨x,at_ s.D x,rest⟩],nw:=put1 s.nw x (.bool true)}
theorem t_and{m:Nat}(hm:m<16)(n:Nat):m&&&n<16:=aL Nat.and_le_left hm
theorem set_w(D:List Nat)(x m:Nat):(D.map wD).set x (wD m)=(D.set x m).map wD:=by simp only[dt]
theorem c_enter(H:KF c):∀(s:Sto) (x:Nat) (g:Sg) (k:Int) (R:V) (rs:List V) (sp:Int),(s.Ok)->(x<5)->(k8 k)->(R=.none∨R=.tup rs)->(rs.length<=4000)->FS1 c 4 225 [s.w,.v (lit x g k),.v R,.v (.int sp)] (λQ=>EntD s x g k λb s'=>Q (.v (.bool b)) [s'.w,.v (lit x g k),.v R,.v (.int sp)]):=
 λs x g k R rs sp ok hx hk hR hl=>.ofChk1 H (H.f 25 225 (stAt (bodyOf (stAt top 21)) 12) [122,76,114,127] rfl) [76,151,31,122,151,98,16,15,76,98,47,47,38,5,122,114,114,15,14,76,47,98,5,0,138,122,151,98,76,114,127,47,31,122,151,95,122,151] (w:=by
  intro Q q;have hD:=itemAt_D (D:=s.D) (x:=x) (lenD ok.len ‹_›);refine oa (ok.atD hx) λr1 r2=>?_;have r3:=t_and r2 (lm g k);have hL:s.D.length=5:=ok.len;have ht:=ok.tr;have hn:=ok.nw;dsimp only[EntD]at q;walk_at"g";refine call1_ (c_struck H x _ g k r2 hk) ?_;walk_at"g";refine eqW0 r3 ?_;walk_at"g"
  ·rename_i h0;rw[if_pos h0]at q;rcases hR with rfl|rfl
   ·walk_at"g";refine call1_ (c_negation H _ _ _ g.ok) (λs' k'=>?_);walk_at"g";refine call1_ (c_fail H s _ _ (.inl rfl) (by simp)) ?_;walk_at"g";exact q _
   ·walk_at"g";refine call1_ (c_negation H _ _ _ g.ok) (λs' k'=>?_);walk_at"g";refine call1_ (c_fail H s _ _ (.inl rfl) (by simp;exact a6 ‹_› (a5 rfl))) ?_;walk_at"g";exact q _
  ·rename_i h0;rw[if_neg h0]at q;refine eqW_ r3 r2 ?_;walk_at"g"
   ·rename_i h1;rw[if_pos h1]at q;exact q
   ·rename_i h1;rw[if_neg h1]at q;refine it_ (idx_nat (by rw[a7];exact d9 ‹_› (Eq.symm ‹_›))) ?_;walk_at"g";have q:=q [lit x g k,R,.int sp];simp only[Sto.w,←set_w,ah,aD,ca]at q;exact q)
theorem c_strike(H:KF c):∀(s:Sto) (x:Nat) (g:Sg) (k:Int) (R:MW) (rs:List V),(s.Ok)->(x<5)->(k8 k)->(IsRs R rs)->(rs.length<=4000)->FS1 c 5 232 [s.w,.v (lit x g k),R] (λQ=>EntD s x g k λb s'=>Q (.v (.bool b)) [s'.w,.v (lit x g k),R]):=
 λs x g k R rs ok hx hk hR hl=>.ofChk1 H (H.f 26 232 (stAt (bodyOf (stAt top 21)) 13) [122,76,114] rfl) [34,5,122,76,6,0,114,127,122] (w:=by
  intro Q q;obtain rfl|rfl|rfl:R=.v (.tup rs)∨R=.v (.lst rs)∨R=.list rs:=hR.imp id lsOf_out
  all_goals
   walk_at"g";refine call1_ (c_enter H s x g k _ rs _ ok hx hk (.inr rfl) hl) ?_;dsimp only[EntD]at q⊢;split at q
   ·rename_i h0;rw[if_pos h0];intro w;have q:=q w;walk_at"g";exact q
   ·rename_i h0;rw[if_neg h0];split at q
    ·rename_i h1;rw[if_pos h1];walk_at"g";exact q
    ·rename_i h1;rw[if_neg h1];intro r;have q:=q r;walk_at"g";exact q)
theorem c_decide(H:KF c):∀(s:Sto) (x:Nat) (g:Sg) (k:Int),(s.Ok)->(x<5)->(k8 k)->FS1 c 5 239 [s.w,.v (lit x g k)] (λQ=>EntD s x g k λb s'=>Q (.v (.bool b)) [s'.w,.v (lit x g k)]):=
 λs x g k ok hx hk=>.ofChk1 H (H.f 27 239 (stAt (bodyOf (stAt top 21)) 14) [122,76] rfl) [34,5,122,76] (w:=by
  intro Q q;walk_at"g";refine call1_ (c_enter H s x g k _ [] _ ok hx hk (.inl rfl) (by simp)) ?_;dsimp only[EntD]at q⊢;split at q
  ·rename_i h0;rw[if_pos h0];intro w;have q:=q w;walk_at"g";exact q
  ·rename_i h0;rw[if_neg h0];split at q
   ·rename_i h1;rw[if_pos h1];walk_at"g";exact q
   ·rename_i h1;rw[if_neg h1];intro r;have q:=q r;walk_at"g";exact q)
theorem c_push(H:KF c):∀s:Sto,(s.tr.length<=100)->(s.mks.length<=100)->FS1 c 1 253 [s.w] (λQ=>Q (.v .none) [Sto.w {s with mks:=s.mks++[.int s.tr.length]}]):=
 λs h1 h2=>.ofChk1 H (H.f 29 253 (stAt (bodyOf (stAt top 21)) 16) [122] rfl) [5,0,83,122,0,0,138,122] (w:=by
  intro Q q;walk_at"g";rw[show(s.tr.length:Int)=((s.tr.map Ent.v).length:Nat) by simp]at q;exact q)
theorem c_init(H:KF c):FS1 c 1 141 [.obj 277 [] []] (λQ=>Q (.v .none) [Sto.w ⟨[],[],[],[],[],-1,false,.tup []⟩]):=
 .ofChk1 H (H.f 15 141 (stAt (bodyOf (stAt top 21)) 0) [122] rfl) [122,31,122,43,122,138,122,83,122,95,122,127,122,63,122,22] (w:=by
  intro Q q;walk_at"g";exact q)
theorem c_Store(H:KF c):FS1 c 2 277 [] (λQ=>Q (.fresh (Sto.w ⟨[],[],[],[],[],-1,false,.tup []⟩)) []):=
 .cls (H.cl 0 277 141 rfl) (c_init H)
theorem c_new_var(H:KF c):∀(s:Sto) (m:Nat),(s.D.length<=10)->(s.F.length<=10)->(1<=m)->(m<16)->FS1 c 2 148 [s.w,.v (wD m)] (λQ=>Q (.v (.int s.D.length)) [Sto.w {s with D:=s.D++[m],F:=s.F++[m]},.v (wD m)]):=
 λs m h1 h2 h3 h4=>.ofChk1 H (H.f 16 148 (stAt (bodyOf (stAt top 21)) 1) [122,30] rfl) [5,0,31,122,30,5,0,43,122,30,30,38,5,122,0,0,31,122] (w:=by
  intro Q q;walk_at"g";refine eqW0 h4 ?_;rw[decide_eq_false (cL ‹_›:¬m=0)];walk_at"g";have e:((gu wD s.D++[wD m]).length:Int)-1=s.D.length:=by simp
  simp only[Sto.w,ah,aD,ca]at q;simp only[←e]at q;exact q)
theorem c_pop(H:KF c):∀s:Sto,(s.Ok)->(s.mks=[.int 0])->FS1 c 1 260 [s.w,.v (.int 1)] (λQ=>Q (.v .none) [Sto.w {s with D:=s.F,tr:=[],mks:=[],nw:=[],fl:=false,cl:=.tup []},.v (.int 1)]):=
 λs ok hm=>.ofChk1 H (H.f 30 260 (stAt (bodyOf (stAt top 21)) 17) [122,91] rfl) [91,83,122,0,0,83,122,91,82,83,122,0,0,83,122,91,122,83,0,0,138,122,82,110,1,138,122,35,35,31,122,35,122,95,43,122,122,63,122,22] (w:=by
  intro Q q;obtain⟨D,F,tr,mks,nw,spk,fl,cl⟩:=s;obtain rfl:mks=[.int 0]:=hm;have hF:∀m∈F,1<=m/\m<16:=ok.rgF;have htr:tr.length<=20:=a6 (an _ _) ok.tr;walk_at"g";refine while2_ (tr.length+1) tr D (λ(tr:List Ent) (D:List Nat)=>[(122,Sto.w ⟨D,F,tr,[],nw,spk,fl,cl⟩),(91,.v (.int 1)),(82,.v (.int 0))])
   (λn tr D G=>tr.length<n->tr.length<=20->undo tr D=F->D.length=5->(∀e∈tr,e.x<5)->G) rfl (λR k=>k (br _) htr ok.und ok.len ok.ent) (λn tr D Q' h1 h0 h2 h3 h4 hn hr=>?_) λtr D h _ _ _ _=>bR _ h
  rcases snoc_cases tr with rfl|⟨tr,e,rfl⟩
  ·walk_at"g";rw[show D=F from h2];refine inv_ false rfl (okWs hF) (by simp only[bX,false_iff];exact noW0 hF) ?_;walk_at"g";exact q
  ·simp only[aa,bn]at h0 h1;have he:=h4 e (bm _ (.head _));have tl:tr.length<=20:=bU h0;have ml:((tr++[e]).map Ent.v).length<=20:=by simp only[a7,aa];exact h0
   walk_at"g"
   ·refine it_ (x:=e.v) (by rw[ah];exact cR) ?_;walk_at"g";refine it_ (idx_nat (by simp only[a7,h3];exact he)) ?_;walk_at"g";rw[undo_snoc]at h2;refine hn tr (D.set e.x e.old) _ (λR k=>k (cM h1) tl h2 (by rw[cW];exact h3) λe' he'=>h4 e' (aK _ he')) ?_;have e1:tr.map Ent.v=((tr++[e]).map Ent.v).dropLast:=by rw[ah];exact dF.symm
    dsimp only[Sto.w];simp only[e1,←set_w];rfl
   ·exfalso;rename_i hh;simp at hh)
end
def InD(D:List Nat)(p:Nat->Int):Prop:=∀x<5,hasM (at_ D x) (p x)=true
theorem hasM_rg{m:Nat}{v:Int}(h:hasM m v=true):∃n:Nat,n<4/\v=n:=by
 have:v∈[(0:Int),1,2,3]:=(aq.mp (by simpa[hasM,valsM]using h:v∈valsM m)).1;simp only[aj,aN,or_false]at this;clear h;rcases this with rfl|rfl|rfl|rfl
 ·exact⟨0,by decide,rfl⟩
 ·exact⟨1,by decide,rfl⟩
 ·exact⟨2,by decide,rfl⟩
 ·exact⟨3,by decide,rfl⟩
theorem t_sat:∀m<16,∀k:Nat,k<6->∀v:Nat,v<4->(hasM (m&&&lm .le ((k:Int)-1)) v=(hasM m v&&Sg.sat .le ((k:Int)-1) v)/\hasM (m&&&lm .ge ((k:Int)-1)) v=(hasM m v&&Sg.sat .ge ((k:Int)-1) v))/\
 hasM (m&&&lm .eq ((k:Int)-1)) v=(hasM m v&&Sg.sat .eq ((k:Int)-1) v)/\hasM (m&&&lm .ne ((k:Int)-1)) v=(hasM m v&&Sg.sat .ne ((k:Int)-1) v):=by decide+kernel
theorem satM{m:Nat}{g:Sg}{k v:Int}(hm:m<16)(hk:k8 k):hasM (m&&&lm g k) v=true↔hasM m v=true/\g.sat k v=true:=by
 refine oea (k8_ex hk) λj hj z_=>?_;subst z_;have key:∀n:Nat,n<4->hasM (m&&&lm g ((j:Int)-1)) n=(hasM m n&&g.sat ((j:Int)-1) n):=λn hn=>by
  have:=t_sat m hm j hj n hn;cases g
  ·exact this.1.1
  ·exact this.1.2
  ·exact this.2.1
  ·exact this.2.2
 constructor
 ·intro h;obtain⟨n,hn,rfl⟩:=hasM_rg h;rw[key n hn,aB]at h;exact h
 ·intro h;obtain⟨n,hn,rfl⟩:=hasM_rg h.1;rw[key n hn,aB];exact h
theorem t_wt:∀m<16,∀n<16,m&&&n≠m->(valsM (m&&&n)).length<(valsM m).length:=by decide+kernel
theorem t_lm:∀k:Nat,k<6->(lm .le ((k:Int)-1)<16/\lm .ge ((k:Int)-1)<16)/\lm .eq ((k:Int)-1)<16/\lm .ne ((k:Int)-1)<16:=by decide+kernel
theorem lm_lt{g:Sg}{k:Int}(hk:k8 k):lm g k<16:=by
 refine oea (k8_ex hk) λj hj z_=>?_;subst z_;have:=t_lm j hj;cases g
 ·exact this.1.1
 ·exact this.1.2
 ·exact this.2.1
 ·exact this.2.2
theorem at_set{D:List Nat}{x y m:Nat}(hx:x<D.length):at_ (D.set x m) y=if y=x then m else at_ D y:=by
 unfold at_;rw[a9,bK];by_cases h:y=x
 ·rw[h];simp[hx]
 ·rw[if_neg (λz=>h z.symm),if_neg h,a9]
theorem wt_set:∀{D:List Nat} {x m:Nat},x<D.length->wt (D.set x m)+(valsM (at_ D x)).length=wt D+(valsM m).length
 |[],x,m,h=>absurd h (bR _)
 |d::D,0,m,h=>by simp[wt,at_];lia
 |d::D,x+1,m,h=>by
  have:=wt_set (D:=D) (x:=x) (m:=m) (by simpa using h);simp only[wt,List.set_cons_succ,aD,eE]at *;have e:at_ (d::D) (x+1)=at_ D x:=by simp[at_]
  refine(e).symm▸?_;lia
structure Le(s s':Sto):Prop where
 ok:s'.Ok
 F:s'.F=s.F
 mks:s'.mks=s.mks
 spk:s'.spk=s.spk
 sub:∀x<5,∀v,hasM (at_ s'.D x) v=true->hasM (at_ s.D x) v=true
 len:s.tr.length<=s'.tr.length
 same:s'.tr.length=s.tr.length->s'.D=s.D
theorem Le.refl{s:Sto}(h:s.Ok):Le s s:=⟨h,rfl,rfl,rfl,λ_ _ _ h=>h,aI _,λ_=>rfl⟩
theorem Le.trans{s1 s2 s3:Sto}(h1:Le s1 s2)(h2:Le s2 s3):Le s1 s3:=
 ⟨h2.ok,h2.F.trans h1.F,h2.mks.trans h1.mks,h2.spk.trans h1.spk,λx hx v h=>h1.sub x hx v (h2.sub x hx v h),a6 h1.len h2.len,λe=>by
   have a:=h1.len;have b:=h2.len;simp only[h2.same (by lia),h1.same (by lia)]⟩
theorem put1_len(es:List (Int×V))(i:Int)(v:V):(put1 es i v).length<=es.length+1:=by
 unfold put1;split<;>simp
theorem ent_of{s:Sto}{x:Nat}{g:Sg}{k:Int}{P:Bool->Sto->Prop}(ok:s.Ok)(hx:x<5)(hk:k8 k)
 (h:∀b s',Le s s'->(b=true->s'.fl=s.fl/\∀y,at_ s'.D y=if y=x then at_ s.D x&&&lm g k else at_ s.D y)->(b=false->s'.fl=true/\s'.D=s.D/\at_ s.D x&&&lm g k=0)->P b s'):EntD s x g k P:=by
 refine oa (ok.atD hx) λr1 r2=>?_;have hL:x<s.D.length:=by rw[ok.len];exact hx
 unfold EntD;split
 ·rename_i h0;intro w;refine h _ _ ?_ (λe=>nomatch e) λ_=>iaa rfl rfl h0;exact⟨⟨ok.len,ok.lenF,ok.rg,ok.rgF,ok.tr,ok.nw,ok.ent,ok.und⟩,rfl,rfl,rfl,λ_ _ _ h=>h,aI _,λ_=>rfl⟩
 ·rename_i h0;split
  ·rename_i h1;refine h _ _ (.refl ok) (λ_=>⟨rfl,λy=>?_⟩) λe=>nomatch e;split
   ·rename_i e;simp only[e,h1]
   ·rfl
  ·rename_i h1;intro rest;have hs:∀y,at_ (s.D.set x (at_ s.D x&&&lm g k)) y=if y=x then at_ s.D x&&&lm g k else at_ s.D y:=λy=>at_set hL
   refine h _ _ ?_ (λ_=>⟨rfl,hs⟩) λe=>nomatch e;have hw:=wt_set (m:=at_ s.D x&&&lm g k) hL;have hlt:=t_wt _ r2 _ (lm_lt hk) h1;clear h;clear r1;refine⟨⟨by simpa using ok.len,ok.lenF,λm hm=>?_,ok.rgF,?_,?_,λe he=>?_,?_⟩,rfl,rfl,rfl,λy hy v hv=>?_,by simp,λe=>?_⟩
   ·rcases List.mem_or_eq_of_mem_set hm with hm|rfl
    ·exact ok.rg m hm
    ·exact⟨Nat.pos_of_ne_zero ‹_›,t_and r2 _⟩
   ·have:=ok.tr;simp only[aa,am,bo];lia
   ·have:=ok.nw;have:=put1_len s.nw x (.bool true);dsimp only;lia
   ·rcases aO.mp he with he|he
    ·exact ok.ent e he
    ·cases af.mp he;exact hx
   ·show undo (s.tr++[_]) (s.D.set x _)=s.F;simp only[undo_snoc];have:(s.D.set x (at_ s.D x&&&lm g k)).set x (at_ s.D x)=s.D:=by
     rw[List.set_set];have:at_ s.D x=s.D[x]:=by simp[at_,hL]
     rw[this];exact List.set_getElem_self hL
    rw[this];exact ok.und
   ·have hv:hasM (at_ (s.D.set x (at_ s.D x&&&lm g k)) y) v=true:=hv;clear hw;clear hlt;rw[hs]at hv;clear hs;split at hv
    ·rename_i e;refine e▸?_;exact((satM r2 hk).1 hv).1
    ·exact hv
   ·simp at e
structure Out(K:(Nat->Int)->Prop)(s:Sto)(b:Bool)(s':Sto):Prop where
 le:Le s s'
 fl:s'.fl= !b
 kept:∀p,InD s.D p->K p->InD s'.D p
 none:b=false->∀p,InD s.D p->¬K p
theorem Out.refl{K:(Nat->Int)->Prop}{s:Sto}(h:s.Ok)(hf:s.fl=false):Out K s true s:=⟨.refl h,hf,λ_ h _=>h,λe=>nomatch e⟩
theorem Out.trans{K:(Nat->Int)->Prop}{s1 s2 s3:Sto}{b:Bool}(h1:Out K s1 true s2)(h2:Out K s2 b s3):Out K s1 b s3:=
 ⟨h1.le.trans h2.le,h2.fl,λp hp hk=>h2.kept p (h1.kept p hp hk) hk,λe p hp hk=>h2.none e p (h1.kept p hp hk) hk⟩
theorem out_ent{K:(Nat->Int)->Prop}{s:Sto}{x:Nat}{g:Sg}{k:Int}{P:Bool->Sto->Prop}(ok:s.Ok)(hf:s.fl=false)(hx:x<5)(hk:k8 k)(sound:∀p,InD s.D p->K p->g.sat k (p x)=true)
 (h:∀b s',Out K s b s'->(b=true->∀y,at_ s'.D y=if y=x then at_ s.D x&&&lm g k else at_ s.D y)->P b s'):EntD s x g k P:=by
 refine ent_of ok hx hk λb s' le h1 h2=>h b s' ?_ λe=>(h1 e).2;clear h;cases b with
 |true=>
  obtain⟨e1,e2⟩:=h1 rfl;clear h1;refine⟨le,by simp only[e1,hf];rfl,λp hp hK y hy=>?_,λe=>nomatch e⟩;rw[e2];split
  ·rename_i e;subst e;exact(satM (ok.atD hx).2 hk).2 ⟨hp y hy,sound p hp hK⟩
  ·exact hp y hy
 |false=>
  refine oaa (h2 rfl) λe1 e2 e3=>?_;refine⟨le,e1,λp hp hK=>by rw[e2];exact hp,λ_ p hp hK=>?_⟩;have:=(satM (g:=g) (ok.atD hx).2 hk).2 ⟨hp x hx,sound p hp hK⟩;rw[e3]at this
  revert this;simp[hasM,valsM]
theorem strike_{c:Cx}{kk:Nat}(H:KF c){K:(Nat->Int)->Prop}{s:Sto}{x:Nat}{g:Sg}{k:Int}{R:MW}{rs:List V}{Q:Rz->List MW->Prop}(ok:s.Ok)(hf:s.fl=false)(hx:x<5)(hk:k8 k)(hR:IsRs R rs)(hl:rs.length<=4000)
 (sound:∀p,InD s.D p->K p->g.sat k (p x)=true) (h:∀b s',Out K s b s'->(b=true->∀y,at_ s'.D y=if y=x then at_ s.D x&&&lm g k else at_ s.D y)->Q (.v (.bool b)) [s'.w,.v (lit x g k),R]) (hkk:5<=kk:=by decide):
 CallF ⟨c,kk⟩ 232 [s.w,.v (lit x g k),R] Q:=
 call1_ (c_strike H s x g k R rs ok hx hk hR hl) (out_ent ok hf hx hk sound h) hkk
theorem fail_{c:Cx}{kk:Nat}(H:KF c){K:(Nat->Int)->Prop}{s:Sto}{R:MW}{rs:List V}{Q:Rz->List MW->Prop}(ok:s.Ok)(hR:IsRs R rs)(hl:rs.length<=4000)(none:∀p,InD s.D p->¬K p)
 (h:∀s',Out K s false s'->Q (.v (.bool false)) [s'.w,R]) (hkk:1<=kk:=by decide):CallF ⟨c,kk⟩ 246 [s.w,R] Q:=
 call1_ (c_fail H s R rs hR (a6 (by assumption) (a5 rfl))) (h _ ⟨⟨⟨ok.len,ok.lenF,ok.rg,ok.rgF,ok.tr,ok.nw,ok.ent,ok.und⟩,rfl,rfl,rfl,λ_ _ _ h=>h,aI _,λ_=>rfl⟩,rfl,λp hp _=>hp,λ_ p hp=>none p hp⟩) hkk
noncomputable def mask2(a b:Nat):Nat:=2^a|||2^b
theorem t_from:∀a:Nat,a<4->∀b:Nat,b<4->(sortI [(a:Int),(b:Int)]).foldl (λd v=>putBehind d v v) []=dm (mask2 a b)/\1<=mask2 a b/\mask2 a b<16:=by decide+kernel
theorem fold_pb(ns:List Int)(d:Dom):(ns.foldl (λd v=>putBehind d v v) d).length<=d.length+ns.length:=by
 induction ns generalizing d with
 |nil=>simp
 |cons n ns ih=>
  have:=ih (putBehind d n n);have:=putBehind_len d n n;simp only[cq,am];lia
noncomputable def toL(p:Int×Int):List Int:=[p.1,p.2]
noncomputable def unL(l:List Int):Int×Int:=(l.headD 0,l.tail.headD 0)
noncomputable def joinOf(m n:Nat):List (List Int):=(sortP ((dm m++dm n).map toL)).getD []
theorem t_join':∀m<16,∀n<15,sortP ((dm m++dm (n+1)).map toL)=some ((joinOf m (n+1)).map λl=>toL (unL l))/\((joinOf m (n+1)).map unL).foldl (λd p=>putBehind d p.1 p.2) []=dm (m|||(n+1))/\(joinOf m (n+1)).length<=4:=by decide+kernel
theorem t_join{m n:Nat}(hm:m<16)(hn:n<16)(h0:1<=n):sortP ((dm m++dm n).map toL)=some ((joinOf m n).map λl=>toL (unL l))/\((joinOf m n).map unL).foldl (λd p=>putBehind d p.1 p.2) []=dm (m|||n)/\(joinOf m n).length<=4:=by
 obtain⟨n,rfl⟩:∃j,n=j+1:=⟨n-1,by lia⟩;exact t_join' m hm n (bE ‹_›)
theorem t_std:∀m<16,1<=m->∀p∈dm m,-1<=p.1/\p.1<=3/\-1<=p.2/\p.2<=3:=by decide+kernel
section
variable{c:Cx}
theorem c_from_values(H:KF c):∀a b:Nat,(a<4)->(b<4)->FS1 c 2 35 [.v (.lst [.int a,.int b])] (λQ=>Q (.v (wD (mask2 a b))) [.v (.lst [.int a,.int b])]):=
 λa b ha hb=>.ofChk1 H (H.f 1 35 (stAt top 3) [97] rfl) [46,4,0,97,141,0,1,46,141,141,6,0,46] (w:=by
  intro Q q;obtain⟨e,-⟩:=t_from a ha b hb;have q:Q (.v (vD (dm (mask2 a b)))) [.v (.lst [.int a,.int b])]:=q;have hlen:(sortI [(a:Int),(b:Int)]).length=2:=(sortI_perm [(a:Int),(b:Int)]).length_eq;rw[←e]at q;walk_at"g";refine pr_ (by simp) ?_;walk_at"g";refine loop_ V.int (λd:Dom=>[(97,.v (.lst [.int a,.int b])),(46,.list (d.map vI))]) (λns d=>d.length+ns.length<=2/\ns.foldl (λd v=>putBehind d v v) d=(sortI [(a:Int),(b:Int)]).foldl (λd v=>putBehind d v v) []) (λv vs d Q' hI hn hr=>?_) (λd hI=>?_) (sortI [(a:Int),(b:Int)]) [] ⟨by simp[hlen],rfl⟩
  ·obtain⟨h1,h2⟩:=hI;simp only[am]at h1;walk_at"g";refine call1_ (c_put_behind H d v v (a6 (an _ _) (a6 ‹_› (a5 rfl)))) ?_;have:=putBehind_len d v v;walk_at"g";exact hn (putBehind d v v) _ ⟨by lia,h2⟩ rfl
  ·have h2:=hI.2;have h1:=hI.1;simp only[gy]at h2;rw[←h2]at q;simp only[bo]at h1;walk_at"g";exact q)
theorem c_join(H:KF c):∀m n:Nat,(m<16)->(1<=n)->(n<16)->FS1 c 2 106 [.v (wD m),.v (wD n)] (λQ=>Q (.v (wD (m|||n))) [.v (wD m),.v (wD n)]):=
 λm n hm hn0 hn=>.ofChk1 H (H.f 12 106 (stAt top 16) [27,32] rfl) [46,8,0,27,32,78,57,0,1,46,78,57,6,0,46] (w:=by
  intro Q q;obtain⟨e1,e2,e3⟩:=t_join hm hn hn0;have h1:=(t_dm m hm).1.2;have h2:=(t_dm n hn).1.2;have q:Q (.v (vD (dm (m|||n)))) [.v (wD m),.v (wD n)]:=q;rw[←e2]at q;walk_at"g";refine ieeaaa ((dm m++dm n).map toL) _ (by simp[toL,tupI,Function.comp_def]) (by intro t ht;obtain⟨p,_,rfl⟩:=au.mp ht;simp[toL]) e1 ?_;walk_at"g";refine loop_ vI (λd:Dom=>[(27,.v (wD m)),(32,.v (wD n)),(46,.list (d.map vI))]) (λps d=>d.length+ps.length<=4/\ps.foldl (λd p=>putBehind d p.1 p.2) d=((joinOf m n).map unL).foldl (λd p=>putBehind d p.1 p.2) []) (λp ps d Q' hI hn hr=>?_) (λd hI=>?_) ((joinOf m n).map unL) [] ⟨by simpa using e3,rfl⟩ (by simp[toL,tupI,Function.comp_def])
  ·obtain⟨h1,h2⟩:=hI;simp only[am]at h1;walk_at"g";refine call1_ (c_put_behind H d p.1 p.2 (a6 (an _ _) (a6 ‹_› (a5 rfl)))) ?_;have:=putBehind_len d p.1 p.2;walk_at"g";exact hn (putBehind d p.1 p.2) _ ⟨by lia,h2⟩ rfl
  ·have h2:=hI.2;have h1:=hI.1;simp only[gy]at h2;rw[←h2]at q;simp only[bo]at h1;walk_at"g";exact q)
theorem c_standing(H:KF c):∀x m:Nat,(1<=m)->(m<16)->FS1 c 2 465 [.v (.int x),.v (wD m)] (λQ=>∀rs:List V,rs.length<=20->Q (.v (.lst rs)) [.v (.int x),.v (wD m)]):=
 λx m h1 h2=>.ofChk1 H (H.f 45 465 (stAt top 28) [151,30] rfl) [151,2,3,30,151,3,4,30,2,3,30,46,72,30,78,57,5,0,72,78,141,5,0,46,151,141,57,72,46] (w:=by
  intro Q q;obtain⟨⟨e1,e2⟩,⟨e3,e4⟩,-⟩:=t_dm2 _ h2 h1;have hl:=(t_dm m h2).1.2;walk_at"g";refine call1_ (c_least H _ _ _ e1) ?_;walk_at"g";refine call1_ (c_greatest H _ _ _ e3 (dm_len h2)) ?_;walk_at"g";refine call1_ (c_least H _ _ _ e1) ?_;walk_at"g";have hb:=t_std m h2 h1;have hm0:firstP (dm m)∈dm m:=by have:=List.mem_cons_self (a:=firstP (dm m)) (l:=(dm m).tail);rwa[←e1]at this
  have hb0:=hb _ hm0;refine loop2_ vI (λ(last:Int) (f:List V)=>[(151,.v (.int x)),(30,.v (wD m)),(72,.v (.int last)),(46,.list f)]) (λps last f G=>(∀p∈ps,-1<=p.1/\p.1<=3/\-1<=p.2/\p.2<=3)->-2<=last->last<=3->f.length+6*ps.length<=16->G) (λp ps last f0 Q' g1 g2 g3 g4 hn hr=>?_) (λlast f _ _ _ h4=>?_) (dm m) ((firstP (dm m)).1-1) [.tup [.int x,.str (Str.ofString ">="),.int (firstP (dm m)).1],.tup [.int x,.str (Str.ofString "<="),.int ((dm m).getLastD (0,0)).2]]
   (λR k=>k hb (fu hb0.1 1:(-1:Int)-1<=_) (aG (cY _ (by decide)) hb0.2.1) (a6 (ay (aU 6 hl) 2) (a5 rfl)))
  ·obtain⟨p1,p2,p3,p4⟩:=g1 p (.head _);rw[am,d0]at g4;have f16:f0.length<=16:=a6 (an _ _) g4;have hr5:(rangeI (last+1) p.1).length<=6:=by rw[rangeI_len];exact eS.mpr (aG (Int.sub_le_sub p2 (cU g2 1)) (by decide))
   walk_at"g";refine loop1_ V.int (λf:List V=>[(151,.v (.int x)),(30,.v (wD m)),(72,.v (.int last)),(46,.list f),(78,.v (.int p.1)),(57,.v (.int p.2))]) (λvs f G=>f.length+vs.length<=f0.length+6->G) (λv vs f Q'' hI hn' hr'=>?_) (λf hI=>?_) (rangeI (last+1) p.1) f0 (λR k=>k (ay hr5 _))
   ·have fl:f.length<=22:=a6 (a6 (an _ _) hI) (ai f16 6);walk_at"g";exact hn' (f++[_]) _ (λR k=>k (by rw[aa,bn,bh,cB 1];exact hI)) rfl
   ·walk_at"g";exact hn p.2 f _ (λR k=>k (λp hp=>g1 p (.tail _ hp)) (aG (by decide) p3) p4 (a6 (ai hI _) (by rw[bh,cB 6];exact g4))) rfl
  ·walk_at"g";exact q f (a6 h4 (a5 rfl)))
end
noncomputable abbrev vN(xs:List Nat):List V:=xs.map λx:Nat=>V.int x
noncomputable abbrev iN(xs:List Nat):List Int:=xs.map λx:Nat=>(x:Int)
theorem vN_i(xs:List Nat):vN xs=(iN xs).map V.int:=by simp[vN,iN,Function.comp_def]
noncomputable def cntO(tk:List Nat)(v n:Nat):MW:=.obj 510 [96,118,132,136,142,91] [.v (.int (-1)),.v (.tup (vN (tk++[n]))),.v (.str (Str.ofString "values")),.v (.tup (vN tk)),.v (.int v),.v (.int n)]
def KCnt(tk:List Nat)(v n:Nat)(p:Nat->Int):Prop:=((tk.countP λx=>decide (p x=v):Nat):Int)=p n
def Fin_(K:(Nat->Int)->Prop)(s:Sto):Prop:=∀p:Nat->Int,(∀x<5,valsM (at_ s.D x)=[p x])->K p
theorem t_fix:∀m<16,∀v:Nat,v<4->(fixM m&&decide (lowM m=v))=true->∀w:Nat,w<4->hasM m w=true->w=v:=by decide+kernel
theorem t_k8:∀m<16,1<=m->(-1<=lowM m/\lowM m<=4)/\-1<=highM m/\highM m<=4:=by decide+kernel
theorem t_lh:∀m<16,∀w:Nat,w<4->hasM m w=true->lowM m<=w/\(w:Int)<=highM m:=by decide+kernel
theorem fixV{m:Nat}{v:Nat}(hm:m<16)(hv:v<4)(h:(fixM m&&decide (lowM m=v))=true){w:Int}(hw:hasM m w=true):w=v:=by
 refine oea (hasM_rg hw) λj hj z_=>?_;subst z_;exact congrArg _ (t_fix m hm v hv h j hj hw)
theorem lowHigh{m:Nat}{w:Int}(hm:m<16)(hw:hasM m w=true):lowM m<=w/\w<=highM m:=by
 refine oea (hasM_rg hw) λj hj z_=>?_;subst z_;exact t_lh m hm j hj hw
theorem lowK8{m:Nat}(h1:1<=m)(hm:m<16):k8 (lowM m)/\k8 (highM m):=t_k8 m hm h1
theorem okNs(xs:List Nat):okVs (xs.map λx:Nat=>V.int x)=true:=by
 have:=okIs (iN xs);rwa[←vN_i]at this
theorem inN_{x:Nat}{xs:List Nat}{q:Bool->Prop}(h:q (xs.contains x)):InV (.int x) (xs.map λx:Nat=>V.int x) q:=
 inv_ _ (okI x) (okNs xs) (by
  rw[ax,au];refine⟨λh=>iea x h rfl,?_⟩;rintro⟨y,hy,e⟩;have e:y=x:=Int.ofNat_inj.mp (V.int.inj ‹_›);exact e▸hy) h
theorem hasM_iff0{m:Nat}{v:Int}(h:v∈valsM m):hasM m v=true:=by unfold hasM;exact ax.mpr h
theorem count_le{α:Type}{P R:α->Bool}:∀{l:List α},(∀x∈l,P x=true->R x=true)->l.countP P<=l.countP R:=λh=>List.countP_mono_left h
theorem count_eq{α:Type}{P R:α->Bool}:∀{l:List α},(∀x∈l,P x=true->R x=true)->l.countP R<=l.countP P->∀x∈l,R x=true->P x=true:=by
 intro l
 induction l with
 |nil=>intro _ _ x hx;exact(aN hx).elim
 |cons a l ih=>
  intro h hc x hx hr;have h':∀x∈l,P x=true->R x=true:=λx hx=>h x (.tail _ hx);simp only[fS,fS]at hc;by_cases pa:P a=true
  ·rw[if_pos pa,if_pos (h a (.head _) pa)]at hc;rcases aj.mp hx with e|hx
   ·rw[e];exact pa
   ·exact ih h' (dy hc) x hx hr
  ·rw[if_neg pa]at hc;rcases aj.mp hx with e|hx
   ·rw[←e,if_pos hr]at hc;exact(bF _ (a6 hc (count_le h'))).elim
   ·exact ih h' (a6 (an _ _) hc) x hx hr
section
variable{s:Sto}{tk held bar op:List Nat}{v n:Nat}{p:Nat->Int}(ok:s.Ok)(hx:∀x∈tk,x<5)(hv:v<4)(hheld:tk.filter (λx=>fixM (at_ s.D x)&&decide (lowM (at_ s.D x)=v))=held)(hbar:tk.filter (λx=>!hasM (at_ s.D x) v)=bar)
include ok hx hv hheld hbar
theorem cnt_sub(hp:InD s.D p):(∀x∈tk,(fixM (at_ s.D x)&&decide (lowM (at_ s.D x)=v))=true->decide (p x=v)=true)/\∀x∈tk,(!hasM (at_ s.D x) v)=true->(!decide (p x=v))=true:=
 ⟨λx hxm h=>decide_eq_true (fixV (ok.atD (hx x hxm)).2 hv h (hp x (hx x hxm))),λx hxm h=>by
   have:=hp x (hx x hxm);by_cases e:p x=v
   ·replace this:=(e)▸this;replace h:=(this)▸h;exact ff h
   ·simp[e]⟩
omit ok hx hv hheld hbar
theorem ar1{h b t c d d':Nat}{P:Int}(k:(c:Int)=P)(h1:h<=c)(h2:b<=d')(h3:t=c+d)(h4:d'=d):(h:Int)<=P/\P<=t-b:=by lia
theorem ar2{b t c d d':Nat}{P:Int}(k:(c:Int)=P)(h:(t:Int)-b<=P)(h3:t=c+d)(h4:d'=d):d'<=b:=by lia
theorem ar3{h b t c d d':Nat}{P:Int}(h1:(h:Int)<=P)(h2:P<=t-b)(k:c=h)(k2:d'=b)(h3:t=c+d)(h4:d'=d):(c:Int)=P:=by lia
include ok hx hv hheld hbar
theorem cnt_bd(hp:InD s.D p)(hK:KCnt tk v n p):(held.length:Int)<=p n/\p n<=tk.length-bar.length:=by
 refine oa (cnt_sub ok hx hv hheld hbar hp) λh1 h2=>?_;have a:=count_le h1;have b:=count_le h2;rw[aV,hheld]at a;rw[aV,hbar]at b;have:=bS (λx=>decide (p x=v)) (l:=tk);have e:tk.countP (λx=>!decide (p x=v))=tk.countP λx=>decide ¬decide (p x=v)=true:=cK λx _=>by simp
 unfold KCnt at hK;exact ar1 hK a b this e
theorem cnt_ne(hop:tk.filter (λx=>!held.contains x&&!bar.contains x)=op)(hp:InD s.D p)(hK:KCnt tk v n p):(p n<=held.length->∀x∈op,p x≠v)/\((tk.length:Int)-bar.length<=p n->∀x∈op,p x=v):=by
 refine oa (cnt_sub ok hx hv hheld hbar hp) λh1 h2=>?_;unfold KCnt at hK;have mem:∀x∈op,x∈tk/\x∉held/\x∉bar:=λx hxo=>by
  rw[←hop]at hxo;simpa using hxo
 refine⟨λhle x hxo e=>?_,λhle x hxo=>Classical.byContradiction λe=>?_⟩
 ·obtain⟨m1,m2,m3⟩:=mem x hxo;refine m2 ?_;rw[←hheld];refine aq.mpr ⟨m1,count_eq h1 ?_ x m1 (decide_eq_true e)⟩;rw[aV (p:=λx=>fixM (at_ s.D x)&&decide (lowM (at_ s.D x)=v)),hheld];exact bv.mp (hK▸hle)
 ·obtain⟨m1,m2,m3⟩:=mem x hxo;refine m3 ?_;rw[←hbar];refine aq.mpr ⟨m1,count_eq h2 ?_ x m1 (by simp[e])⟩;rw[aV (p:=λx=>!hasM (at_ s.D x) v),hbar];have:=bS (λx=>decide (p x=v)) (l:=tk);have e:tk.countP (λx=>!decide (p x=v))=tk.countP λx=>decide ¬decide (p x=v)=true:=cK λx _=>by simp
  exact ar2 hK hle this e
theorem cnt_fin(h0:∀x<5,valsM (at_ s.D x)=[p x])(h1:(held.length:Int)<=p n)(h2:p n<=tk.length-bar.length):KCnt tk v n p:=by
 have f:∀x∈tk,(fixM (at_ s.D x)&&decide (lowM (at_ s.D x)=v))=decide (p x=v)/\(!hasM (at_ s.D x) v)= !decide (p x=v):=λx hxm=>by
  have:=h0 x (hx x hxm);delta fixM lowM hasM;refine(this).symm▸?_;refine⟨rfl,?_⟩;by_cases e:p x=v
  ·simp[e]
  ·have:¬(v:Int)=p x:=λz=>e z.symm;simp[e,this]
 have e1:tk.filter (λx=>decide (p x=v))=held:=by simp only[←hheld];exact cJ λx hxm=>(f x hxm).1.symm
 have e2:tk.filter (λx=>!decide (p x=v))=bar:=by simp only[←hbar];exact cJ λx hxm=>(f x hxm).2.symm
 have a:tk.countP (λx=>decide (p x=v))=held.length:=by rw[aV,e1]
 have b:tk.countP (λx=>!decide (p x=v))=bar.length:=by rw[aV,e2]
 have:=bS (λx=>decide (p x=v)) (l:=tk);have e:tk.countP (λx=>!decide (p x=v))=tk.countP λx=>decide ¬decide (p x=v)=true:=cK λx _=>by simp
 unfold KCnt;exact ar3 h1 h2 a b this e
end
section
variable{c:Cx}
theorem c_cnt_told(H:KF c):∀tk v n,FS1 c 1 507 [cntO tk v n] (λQ=>Q (.v (.tup [.str (Str.ofString "count"),.tup (vN tk),.int v,.int n])) [cntO tk v n]):=
 λtk v n=>.ofChk1 H (H.f 49 507 (stAt (bodyOf (stAt top 29)) 4) [122] rfl) [136,122,142,122,91,122] (w:=by
  intro Q q;walk_at"g";exact q)
theorem c_cnt_once(H:KF c):∀(s:Sto) (tk:List Nat) (v n:Nat),(s.Ok)->(s.fl=false)->(tk.length<=3)->(∀x∈tk,x<5)->(v<4)->(n<5)->FS1 c 6 493 [cntO tk v n,s.w] (λQ=>∀b s',Out (KCnt tk v n) s b s'->(b=true->s'.tr.length=s.tr.length->Fin_ (KCnt tk v n) s')->Q (.v (.bool b)) [cntO tk v n,s'.w]):=
 λs tk v n ok hf hl hx hv hn=>.ofChk1 H (H.f 47 493 (stAt (bodyOf (stAt top 29)) 2) [122,131] rfl) [136,122,2,122,131,151,64,5,131,151,142,5,131,151,142,122,151,55,136,122,2,122,131,151,51,5,131,151,142,122,151,12,136,122,2,12,55,151,151,55,151,12,151,100,55,1,122,151,151,142,122,15,12,1,122,151,151,142,122,2,0,0,136,122,0,0,12,88,133,5,131,91,122,0,0,55,15,133,5,131,91,122,88,2,57,5,131,91,122,0,0,55,15,91,122,0,0,55,124,114,78,5,131,91,122,88,2,91,122,88,124,114,100,151,133,5,131,151,124,142,122,114] (w:=by
  intro Q q;have kv:=k8_nat hv;walk_at"g";refine accF tk (λx:Nat=>V.int x) (λx=>fixM (at_ s.D x)&&decide (lowM (at_ s.D x)=v)) (λx:Nat=>V.int x) rfl (λx hxm acc Q' ha hq hr=>?_) (a6 hl (a5 rfl)) ?_
  ·walk_at"g";refine call1_ (c_is_fixed H s x ok (hx x hxm)) ?_;walk_at"g"
   ·rename_i e1;refine call1_ (c_value H s x ok (hx x hxm)) ?_;walk_at"g"
    ·rename_i e2;exact hq (by rw[e1,decide_eq_true e2];rfl) _ rfl
    ·rename_i e2;exact hr (by rw[e1,decide_eq_false e2];rfl) _ rfl
   ·rename_i e1;exact hr (by rw[e1];rfl) _ rfl
  generalize hheld:tk.filter (λx=>fixM (at_ s.D x)&&decide (lowM (at_ s.D x)=v))=held;walk_at"g";refine accF tk (λx:Nat=>V.int x) (λx=>!hasM (at_ s.D x) v) (λx:Nat=>V.int x) rfl (λx hxm acc Q' ha hq hr=>?_) (a6 hl (a5 rfl)) ?_
  ·walk_at"g";refine call1_ (c_Shas H s x v ok (hx x hxm) kv) ?_;refine br_ (λe1=>?_) (λe1=>?_)
   ·walk_at"g";exact hq e1 _ rfl
   ·walk_at"g";exact hr e1 _ rfl
  generalize hbar:tk.filter (λx=>!hasM (at_ s.D x) v)=bar;walk_at"g";refine accF tk (λx:Nat=>V.int x) (λx=>!held.contains x&&!bar.contains x) (λx:Nat=>V.int x) rfl (λx hxm acc Q' ha hq hr=>?_) (a6 hl (a5 rfl)) ?_
  ·walk_at"g";refine inN_ (br_ (λe1=>?_) (λe1=>?_))
   ·walk_at"g";refine inN_ (br_ (λe2=>?_) (λe2=>?_))
    ·walk_at"g";exact hq (by rw[e1,e2];rfl) _ rfl
    ·walk_at"g";exact hr (by rw[e1,e2];rfl) _ rfl
   ·walk_at"g";exact hr (by rw[e1];rfl) _ rfl
  generalize hop:tk.filter (λx=>!held.contains x&&!bar.contains x)=op;have hh:held.length<=3:=by rw[←hheld];exact a6 (ak _ _) hl
  have hb:bar.length<=3:=by rw[←hbar];exact a6 (ak _ _) hl
  walk_at"g";refine acc1 held (λx:Nat=>V.int x) (λx:Nat=>.tup [.int x,.str (Str.ofString "="),.int v]) rfl (λx hxm acc Q' ha hq=>?_) (a6 hh (a5 rfl)) ?_
  ·walk_at"g";exact hq _ rfl
  walk_at"g";refine acc1 bar (λx:Nat=>V.int x) (λx:Nat=>.tup [.int x,.str (Str.ofString "!="),.int v]) rfl (λx hxm acc Q' ha hq=>?_) (a6 hb (a5 rfl)) ?_
  ·walk_at"g";exact hq _ rfl
  walk_at"g";have bl:bar.length<=tk.length:=by rw[←hbar];exact ak _ _
  have kh:k8 ((held.map λx:Nat=>V.int x).length:Int):=by rw[a7];exact k8_nat (dP hh)
  have kb:k8 (((vN tk).length:Int)-((bar.map λx:Nat=>V.int x).length:Int)):=by rw[a7,a7];exact k8_4 (bZ (bv.mpr bl)) (aG (cY _ (aX _)) (bv.mpr hl))
  refine strike_ H (K:=KCnt tk v n) (g:=.ge) (k:=((held.map λx:Nat=>V.int x).length:Int)) (rs:=held.map λx:Nat=>V.tup [.int x,.str (Str.ofString "="),.int v]) ok hf hn kh (.inr rfl) (szMap (a6 hh (a5 rfl))) (λp hp hK=>decide_eq_true (by rw[a7];exact(cnt_bd ok hx hv hheld hbar hp hK).1)) (λb s1 o1 e1=>?_);cases b
  ·walk_at"g";exact q false s1 o1 (λe=>ff e)
  have e1:=e1 rfl;walk_at"g";refine strike_ H (K:=KCnt tk v n) (g:=.le) (k:=((vN tk).length:Int)-((bar.map λx:Nat=>V.int x).length:Int)) (rs:=bar.map λx:Nat=>V.tup [.int x,.str (Str.ofString "!="),.int v]) o1.le.ok o1.fl hn kb (.inr rfl) (szMap (a6 hb (a5 rfl))) (λp hp hK=>decide_eq_true (by rw[a7,a7];exact(cnt_bd ok hx hv hheld hbar (λx hx=>o1.le.sub x hx _ (hp x hx)) hK).2)) (λb s2 o2 e2=>?_);cases b
  ·walk_at"g";exact q false s2 (o1.trans o2) (λe=>ff e)
  have e2:=e2 rfl;have o12:=o1.trans o2;have fin:∀s',Out (KCnt tk v n) s2 true s'->s'.tr.length=s.tr.length->Fin_ (KCnt tk v n) s':=λs' o' el p hp=>by
   have g1:=o1.le.len;have g2:=o2.le.len;have g3:=o'.le.len;have d1:s1.D=s.D:=o1.le.same (bC (a6 g2 (a6 g3 (aJ el))) g1);have d2:s2.D=s1.D:=o2.le.same (bC (a6 g3 (a6 (aJ el) g1)) g2);have d3:s'.D=s2.D:=o'.le.same (bC (a6 (aJ el) (a6 g1 g2)) g3);have hp':∀x<5,valsM (at_ s.D x)=[p x]:=λx hx=>by rw[←d1,←d2,←d3];exact hp x hx
   have hn':hasM (at_ s.D n) (p n)=true:=hasM_iff0 (by rw[hp' n hn];exact .head _);have a1:=e1 n;rw[if_pos rfl,d1]at a1;have a2:=e2 n;rw[if_pos rfl,d2,d1]at a2;have b1:=of_decide_eq_true (((satM (g:=.ge) (ok.atD hn).2 kh).1 (a1▸hn')).2);have b2:=of_decide_eq_true (((satM (g:=.le) (ok.atD hn).2 kb).1 (a2▸hn')).2);rw[a7]at b1;rw[a7,a7]at b2;exact cnt_fin ok hx hv hheld hbar hp' b1 b2
  have opx:∀x∈op,x<5:=λx hxo=>by
   rw[←hop]at hxo;exact hx x (aq.mp hxo).1
  walk_at"g";refine call1_ (c_high H s2 n o2.le.ok hn) ?_;walk_at"g"
  ·rename_i hhi;refine loop1_ (λx:Nat=>V.int x) (λs3:Sto=>[(122,_),(131,s3.w),(55,_),(12,_),(100,_),(15,_),(2,_),(88,_),(114,_),(124,_)])
    (λus s3 G=>(∀x∈us,x∈op)->Out (KCnt tk v n) s2 true s3->G) (λx us s3 Q' i1 i2 hn' hr'=>?_) (λs3 _ hI=>?_) op s2 λR k=>k (λ_ h=>h) (.refl o2.le.ok o2.fl)
   ·walk_at"g";refine strike_ H (K:=KCnt tk v n) (g:=.ne) (k:=v) i2.le.ok i2.fl (opx x (i1 x (.head _))) kv (.inr rfl) (by rw[aa,a7];exact a6 (ai hh 1) (a5 rfl)) (λp hp hK=>?_) (λb s4 o4 e4=>?_)
    ·have hp0:InD s.D p:=λx hx=>o12.le.sub x hx _ (i2.le.sub x hx _ (hp x hx));have h1:=(lowHigh (o2.le.ok.atD hn).2 (i2.le.sub n hn _ (hp n hn))).2;have h2:=(cnt_ne ok hx hv hheld hbar hop hp0 hK).1 (by rw[hhi,a7]at h1;exact h1) x (i1 x (.head _));exact decide_eq_true h2
    cases b
    ·walk_at"g";apply hr';walk_at"g";exact q false s4 (o12.trans (i2.trans o4)) (λe=>ff e)
    ·walk_at"g";exact hn' s4 _ (λR k=>k (λy hy=>i1 y (.tail _ hy)) (i2.trans o4)) rfl
   ·walk_at"g";exact q true s3 (o12.trans hI) (λ_=>fin s3 hI)
  ·refine call1_ (c_low H s2 n o2.le.ok hn) ?_;walk_at"g"
   ·rename_i hlo;refine loop1_ (λx:Nat=>V.int x) (λs3:Sto=>[(122,_),(131,s3.w),(55,_),(12,_),(100,_),(15,_),(2,_),(88,_),(114,_),(124,_)])
     (λus s3 G=>(∀x∈us,x∈op)->Out (KCnt tk v n) s2 true s3->G) (λx us s3 Q' i1 i2 hn' hr'=>?_) (λs3 _ hI=>?_) op s2 λR k=>k (λ_ h=>h) (.refl o2.le.ok o2.fl)
    ·walk_at"g";refine strike_ H (K:=KCnt tk v n) (g:=.eq) (k:=v) i2.le.ok i2.fl (opx x (i1 x (.head _))) kv (.inr rfl) (by rw[aa,a7];exact a6 (ai hb 1) (a5 rfl)) (λp hp hK=>?_) (λb s4 o4 e4=>?_)
     ·have hp0:InD s.D p:=λx hx=>o12.le.sub x hx _ (i2.le.sub x hx _ (hp x hx));have h1:=(lowHigh (o2.le.ok.atD hn).2 (i2.le.sub n hn _ (hp n hn))).1;have h2:=(cnt_ne ok hx hv hheld hbar hop hp0 hK).2 (by rw[hlo,a7,a7]at h1;exact h1) x (i1 x (.head _));exact decide_eq_true h2
     cases b
     ·walk_at"g";apply hr';walk_at"g";exact q false s4 (o12.trans (i2.trans o4)) (λe=>ff e)
     ·walk_at"g";exact hn' s4 _ (λR k=>k (λy hy=>i1 y (.tail _ hy)) (i2.trans o4)) rfl
    ·walk_at"g";exact q true s3 (o12.trans hI) (λ_=>fin s3 hI)
   ·exact q true s2 o12 (λ_=>fin s2 (.refl o2.le.ok o2.fl)))
end
noncomputable def PropF(O:MW)(K:(Nat->Int)->Prop):FF:=λws Q=>∃s:Sto,ws=[O,s.w]/\s.Ok/\s.fl=false/\∀b s',Out K s b s'->(b=true->Fin_ K s')->Q (.v (.bool b)) [O,s'.w]
theorem mark_no{n:Nat}(e:(-1:Int)=n):False:=absurd (e▸aX n:(0:Int)<=-1) (by decide)
theorem mark_step{mark:Int}{m l1 l3:Nat}(h3:22<=mark+((m+1:Nat):Int))(hlt:mark<(l1:Int))(le:l1<=l3):(l1:Int)<=l3/\22<=(l1:Int)+m:=by lia
theorem mark_end{mark:Int}{l w:Nat}(ht:l+w<=20)(h2:mark<=l)(h3:22<=mark+((0:Nat):Int)):False:=by lia
theorem mid_len{a b c:Nat}(h1:a<=b)(h2:b<=c)(e:c=a):b=a:=bC (a6 h2 (aJ e)) h1
section
variable{c:Cx}
theorem c_pinit(H:KF c):FSW c 1 (.ref 295) (λws Q=>∃(C:Nat) (xs:List V) (st:Str),ws=[.obj C [] [],.v (.tup xs),.v (.str st)]/\(okAt C 96=true/\okAt C 118=true/\okAt C 132=true)/\xs.length<=100/\Q (.v .none) [.obj C [96,118,132] [.v (.int (-1)),.v (.tup xs),.v (.str st)],.v (.tup xs),.v (.str st)]):=
 .ofChk H (H.f 31 295 (stAt (bodyOf (stAt top 22)) 0) [122,118,132] rfl) [122,96,6,0,118,122,118,132,122,132] (w:=by
  rintro ws Q ⟨C,xs,st,rfl,⟨h1,h2,h3⟩,hl,q⟩;have y:∀{b:Bool} {X:Prop},b=true->X->yes b X:=λe h=>by subst e;exact h
  walk_at"g";refine y h1 ?_;walk_at"g";refine y h2 ?_;walk_at"g";refine y h3 ?_;walk_at"g";exact q)
theorem c_cnt_init(H:KF c):∀(tk:List Nat) (v n:Nat),(tk.length<=3)->FS1 c 2 481 [.obj 510 [] [],.v (.tup (vN tk)),.v (.int v),.v (.int n)] (λQ=>Q (.v .none) [cntO tk v n,.v (.tup (vN tk)),.v (.int v),.v (.int n)]):=
 λtk v n hl=>.ofSuper1 H.gd (H.s 2 481 (stAt (bodyOf (stAt top 29)) 0) [122,136,142,91] 510 rfl) (c_pinit H) rfl (SOs.cons (λ_=>rfl) (SO.of (SE.bin (SO.of (SE.bi biTuple (CV.builtin (v:=.type "tuple") (H.b 6 "tuple" rfl) rfl (by decide) rfl rfl) (λenv pos A s Q _ h=>CallW.t (λ_=>rfl) (λ_ _=>rfl) env pos A s Q h) (SOs.cons (λ_=>rfl) (SO.of (SE.name n_taken)) SOs.nil) (λ_=>rfl))) (SO.ofV (SV.tuple (SVs.cons (λ_=>rfl) (SV.of (SE.name n_n)) SVs.nil) (by decide))))) (SOs.cons (λ_=>rfl) (SO.ofV SV.str) SOs.nil)) (λ_=>rfl) (λ_ _=>rfl) (λ_=>⟨_,rfl⟩) (λ_=>rfl) (SS.cons (SS1.asgA H.ka (SE.bi biTuple (CV.builtin (v:=.type "tuple") (H.b 6 "tuple" rfl) rfl (by decide) rfl rfl) (λenv pos A s Q _ h=>CallW.t (λ_=>rfl) (λ_ _=>rfl) env pos A s Q h) (SOs.cons (λ_=>rfl) (SO.of (SE.name n_taken)) SOs.nil) (λ_=>rfl)) (SE.name n_self) n_taken (λ_=>rfl) (λ_=>rfl)) (SS.cons (SS1.asgA H.ka (SE.name n_value) (SE.name n_self) n_value (λ_=>rfl) (λ_=>rfl)) (SS.cons (SS1.asgA H.ka (SE.name n_n) (SE.name n_self) n_n (λ_=>rfl) (λ_=>rfl)) SS.nil))) (by
  intro Q q;unfold cntO at *;walk_at"g";refine⟨510,vN tk++[.int n],_,rfl,⟨by decide,by decide,by decide⟩,by simp;lia,?_⟩;walk_at"g";simp only[ah,aD,ca]at q;exact q)
theorem c_Count(H:KF c):∀(tk:List Nat) (v n:Nat),(tk.length<=3)->FS1 c 3 510 [.v (.tup (vN tk)),.v (.int v),.v (.int n)] (λQ=>Q (.fresh (cntO tk v n)) [.v (.tup (vN tk)),.v (.int v),.v (.int n)]):=
 λtk v n h0=>.cls (H.cl 3 510 481 rfl) (c_cnt_init H tk v n h0)
theorem c_cnt_check(H:KF c):∀(tk:List Nat) (v n:Nat) (ns:List Int) (m:Int),(ns.length<=3)->FS1 c 1 500 [cntO tk v n,.v (.tup ((ns++[m]).map .int))] (λQ=>Q (.v (.bool (decide ((ns.count (v:Int):Int)=m)))) [cntO tk v n,.v (.tup ((ns++[m]).map .int))]):=
 λtk v n ns m hl=>.ofChk1 H (H.f 48 500 (stAt (bodyOf (stAt top 29)) 3) [122,97] rfl) [25,4,7,0,97,142,122,97] (w:=by
  intro Q q;unfold cntO at *;simp only[ah,aD,ca]at q⊢;walk_at"g";refine pr_ ⟨by decide,by simp⟩ ?_;walk_at"g";have e:(ns.map V.int++[V.int m]).take (cut (-1) (ns.map V.int++[V.int m]).length)=ns.map V.int:=by simp[cut]
  rw[e];walk_at"g";exact q)
theorem c_cnt_prop(H:KF c):FSW c 7 (.ref 488) (λws Q=>∃(tk:List Nat) (v n:Nat),(tk.length<=3/\(∀x∈tk,x<5)/\v<4/\n<5)/\PropF (cntO tk v n) (KCnt tk v n) ws Q):=
 .ofChk H (H.f 46 488 (stAt (bodyOf (stAt top 29)) 1) [122,131] rfl) [82,82,0,0,138,131,0,0,138,131,82,134,5,122,131] (w:=by
  rintro ws Q ⟨tk,v,n,⟨hl,hx,hv,hn⟩,s,rfl,ok,hf,q⟩;unfold cntO at *;walk_at"g";refine while2_ 23 (-1) s (λ(mark:Int) (s1:Sto)=>[(122,_),(131,s1.w),(82,.v (.int mark))])
   (λm mark s1 G=>Out (KCnt tk v n) s true s1->mark<=s1.tr.length->22<=mark+m->(mark=s1.tr.length->Fin_ (KCnt tk v n) s1)->G) rfl (λR k=>k (.refl ok hf) (aG (by decide) (aX _)) (by decide) λe=>(mark_no e).elim)
   (λm mark s1 Q' h1 h2 h3 h4 hn' hr'=>?_) λmark s1 h1 h2 h3 _=>mark_end h1.le.ok.tr h2 h3
  have ht:=a6 (an _ _) h1.le.ok.tr;walk_at"g"
  ·refine call1_ (c_cnt_once H s1 tk v n h1.le.ok h1.fl hl hx hv hn) (λb s2 o2 hfin=>?_);unfold cntO at *;cases b
   ·walk_at"g";apply hr';walk_at"g";exact q false s2 (h1.trans o2) (λe=>ff e)
   ·walk_at"g";rename_i hlt;rw[a7]at hlt;have mk:=mark_step h3 hlt o2.le.len;refine hn' (((s1.tr.map Ent.v).length:Int)) s2 _ (λR k=>k (h1.trans o2) (by rw[a7];exact mk.1) (by rw[a7];exact mk.2) λe=>?_) rfl;rw[a7]at e;exact hfin rfl (bp.inj e).symm
  ·rename_i hge;rw[a7]at hge;exact q true s1 h1 (λ_=>h4 (cr h2 (bD.mp hge))))
end
noncomputable def adO(C:Nat)(row:List Nat)(w:String):MW:=.obj C [96,118,132] [.v (.int (-1)),.v (.tup (vN row)),.v (.str (Str.ofString w))]
def KAd(row:List Nat)(p:Nat->Int):Prop:=(row.map p).Nodup
theorem nodup_map{α β:Type}{f:α->β}{l:List α}(h:(l.map f).Nodup):l.Nodup/\∀x∈l,∀y∈l,f x=f y->x=y:=by
 induction l with
 |nil=>exact⟨.nil,λx hx=>nomatch hx⟩
 |cons a l ih=>
  rw[aD,aE]at h;obtain⟨h1,h2⟩:=ih h.2;have na:∀y∈l,f a≠f y:=λy hy e=>h.1 (e▸c7 hy);refine⟨aE.mpr ⟨λz=>na a z rfl,h1⟩,λx hx y hy e=>?_⟩;rcases aj.mp hx with ex|hx'<;>rcases aj.mp hy with ey|hy'
  ·simp only[ex,ey]
  ·exact absurd (ex▸e) (na y hy')
  ·exact absurd (ey▸e).symm (na x hx')
  ·exact h2 x hx' y hy' e
theorem nodup_inj{α β:Type}{f:α->β}{l:List α}(h:l.Nodup)(i:∀x∈l,∀y∈l,f x=f y->x=y):(l.map f).Nodup:=by
 induction l with
 |nil=>exact .nil
 |cons a l ih=>
  rw[aE]at h;rw[aD,aE];refine⟨λz=>?_,ih h.2 λx hx y hy=>i x (.tail _ hx) y (.tail _ hy)⟩;refine oea (au.mp z) λy hy e=>?_;exact h.1 (i y (.tail _ hy) a (.head _) e▸hy)
theorem len_sub{α:Type}[DecidableEq α]:∀{l m:List α},l.Nodup->(∀x∈l,x∈m)->l.length<=m.length:=by
 intro l
 induction l with
 |nil=>intro m _ _;exact aZ _
 |cons a l ih=>
  intro m h s;rw[aE]at h;have h1:=ih (m:=m.erase a) h.2 λx hx=>(dE (λe:x=a=>h.1 (e▸hx))).mpr (s x (.tail _ hx));simp only[dg (s a (.head _))]at h1;exact a6 (bj h1) (aJ (eI (du (s a (.head _)))))
theorem rangeI_mem{a b v:Int}:v∈rangeI a b↔a<=v/\v<b:=by
 unfold rangeI;rw[au];constructor
 ·rintro⟨i,hi,rfl⟩;exact⟨eC (aX i),Int.add_lt_of_lt_sub_left (eT.mp (aC.mp hi))⟩
 ·rintro⟨h1,h2⟩;have e:=bJ (bZ h1);exact iea ((v-a).toNat) (aC.mpr (eT.mpr (by rw[e];exact Int.sub_lt_sub_right h2 a))) (by rw[e,dB,db])
theorem pigeon{l:List Int}{a b:Int}(h:l.Nodup)(s:∀v∈l,a<=v/\v<=b):l.length<=(b+1-a).toNat:=by
 have:=len_sub h (m:=rangeI a (b+1)) λv hv=>rangeI_mem.mpr ⟨(s v hv).1,Int.lt_add_one_of_le (s v hv).2⟩
 rwa[rangeI_len]at this
theorem asc_nodup{l:List Int}(h:l.Pairwise (·<=·)):(rangeI 1 l.length).filter (λk=>decide (l.getD k.toNat 0=l.getD (k-1).toNat 0))=[]↔l.Nodup:=by
 rw[cI];rw[c9]at h;constructor
 ·intro e;unfold dL;rw[c9];intro i j hi hj hij z;have hi1:i+1<l.length:=aL hij hj;have:=e ((i:Int)+1) (rangeI_mem.mpr ⟨Int.le_add_of_nonneg_left (aX i),bq.mpr hi1⟩);have e1:((i:Int)+1).toNat=i+1:=rfl;have e2:((i:Int)+1-1).toNat=i:=by rw[dM];rfl
  simp only[e1,e2,getD_lt hi1,getD_lt hi,decide_eq_true_eq]at this;have a2:l[i+1]<=l[j]:=by
   rcases cG hij with q|q
   ·exact h (i+1) j hi1 hj q
   ·clear hij;subst q;exact Int.le_refl _
  exact this (cr (aG a2 (eV z.symm)) (h i (i+1) hi hi1 (br i)))
 ·intro nd k hk;obtain⟨k1,k2⟩:=rangeI_mem.mp hk;unfold dL at nd;clear hk;rw[c9]at nd;obtain⟨m,hm⟩:=c6 (bZ k1);have hm:k=(m:Int)+1:=by simp only[←hm,db]
  subst hm;have m1:m+1<l.length:=bq.mp k2;have m0:=Nat.lt_of_succ_lt m1;have e1:((m:Int)+1).toNat=m+1:=rfl;have e2:((m:Int)+1-1).toNat=m:=by rw[dM];rfl
  simp only[e1,e2,getD_lt m1,getD_lt m0,decide_eq_true_eq];exact λz=>nd m (m+1) m0 m1 (br m) z.symm
theorem okL{ns:List Int}:okV (.lst (ns.map .int))=true:=by
 show(vDats (ns.map .int)).all (kqdOk 7)=true
 induction ns with
 |nil=>rfl
 |cons n ns ih=>simp only[aD,vDats,bM,ih];rfl
theorem eqNil_{ns:List Int}{P:Bool->Prop}(h:P (decide (ns=[]))):EqV (.lst (ns.map .int)) (.lst []) P:=
 eqv_ _ okL rfl (by rw[decide_eq_true_eq];cases ns<;>simp) h
theorem itemI{l:List Int}{k:Int}(hl:l.length<=1000)(h0:0<=k)(h:k<l.length):itemAt (l.map V.int) k=some (.int (l.getD k.toNat 0)):=by
 refine itemAt_int (szMap (a6 hl (a5 rfl))) h0 ?_;simp only[ae,a9,a8 ((cC h0).mpr h)];rfl
theorem t_lh3:∀m<16,1<=m->(0<=lowM m/\lowM m<=highM m)/\highM m<=3/\hasM m (lowM m)=true:=by decide+kernel
section
variable{c:Cx}
theorem c_adb_told(H:KF c):∀row w,FS1 c 1 346 [adO 369 row w] (λQ=>Q (.v (.tup [.str (Str.ofString "all_different"),.tup (vN row),.str (Str.ofString w)])) [adO 369 row w]):=
 λrow w=>.ofChk1 H (H.f 32 346 (stAt (bodyOf (stAt top 24)) 1) [122] rfl) [118,122,132,122] (w:=by
  intro Q q;walk_at"g";exact q)
theorem c_adb_init(H:KF c):∀(row:List Nat),(row.length<=3)->FS1 c 2 339 [.obj 369 [] [],.v (.tup (vN row))] (λQ=>Q (.v .none) [adO 369 row "bounds",.v (.tup (vN row))]):=
 λrow hl=>.ofSuper1 H.gd (H.s 0 339 (stAt (bodyOf (stAt top 24)) 0) [122,116] 369 rfl) (c_pinit H) rfl (SOs.cons (λ_=>rfl) (SO.of (SE.name n_row)) (SOs.cons (λ_=>rfl) (SO.ofV SV.str) SOs.nil)) (λ_=>rfl) (λ_ _=>rfl) (λ_=>⟨_,rfl⟩) (λ_=>rfl) SS.nil (by
  intro Q q;walk_at"g";refine⟨369,vN row,_,rfl,⟨rfl,rfl,rfl⟩,by simp;exact a6 ‹_› (a5 rfl),?_⟩;walk_at"g";exact q)
theorem c_AdB(H:KF c):∀(row:List Nat),(row.length<=3)->FS1 c 3 369 [.v (.tup (vN row))] (λQ=>Q (.fresh (adO 369 row "bounds")) [.v (.tup (vN row))]):=
 λrow h0=>.cls (H.cl 1 369 339 rfl) (c_adb_init H row h0)
theorem c_adb_check(H:KF c):∀(row:List Nat) (w:String) (ns:List Int),(1<=ns.length)->(ns.length<=3)->FS1 c 1 351 [adO 369 row w,.v (.tup (ns.map .int))] (λQ=>Q (.v (.bool (decide ns.Nodup))) [adO 369 row w,.v (.tup (ns.map .int))]):=
 λrow w ns h0 hl=>.ofChk1 H (H.f 33 351 (stAt (bodyOf (stAt top 24)) 2) [122,46] rfl) [4,0,46,7,5,0,0,0,7,1,7,66,7,66,7,66,66] (w:=by
  intro Q q;have hlen:(sortI ns).length=ns.length:=(sortI_perm ns).length_eq;have hn:decide ns.Nodup=decide ((rangeI 1 (sortI ns).length).filter (λk=>decide ((sortI ns).getD k.toNat 0=(sortI ns).getD (k-1).toNat 0))=[]):=by
   rw[decide_eq_decide,asc_nodup (sortI_asc ns),(sortI_perm ns).nodup_iff]
  rw[hn]at q;walk_at"g";have h1000:(sortI ns).length<=1000:=hlen▸a6 hl (a5 rfl);refine pr_ ⟨λe=>by rw[e]at h0;exact cS 0 h0,aL hl (a5 rfl)⟩ ?_;walk_at"g";refine accF (rangeI 1 (sortI ns).length) V.int (λk=>decide ((sortI ns).getD k.toNat 0=(sortI ns).getD (k-1).toNat 0)) V.int (by simp) (λk hk acc Q' ha hq hr=>?_) (by rw[rangeI_len];exact eS.mpr (aG (cY _ (by decide)) (bv.mpr (a6 h1000 (a5 rfl))))) ?_
  ·obtain⟨k1,k2⟩:=rangeI_mem.mp hk;have i1:=itemI (l:=sortI ns) (k:=k) h1000 (aG (by decide) k1) k2;have i2:=itemI (l:=sortI ns) (k:=k-1) h1000 (bZ k1) (bY (cY _ (by decide)) k2);walk_at"g"
   ·rename_i e;exact hq (decide_eq_true e) _ rfl
   ·rename_i e;exact hr (decide_eq_false e) _ rfl
  walk_at"g";refine eqNil_ ?_;walk_at"g";exact q)
theorem c_adb_walls(H:KF c):∀(row:List Nat) (w:String) (vs:List V) (a b:Int),(vs.length<=5)->FS1 c 1 366 [adO 369 row w,.v (.lst vs),.v (.int a),.v (.int b)] (λQ=>∀rs:List V,rs.length<=10->Q (.v (.tup rs)) [adO 369 row w,.v (.lst vs),.v (.int a),.v (.int b)]):=
 λrow w vs a b hl=>.ofChk1 H (H.f 36 366 (stAt (bodyOf (stAt top 24)) 5) [122,126,0,9] rfl) [6,0,126,1,0,151,151,0,126,1,9,151,151,9] (w:=by
  intro Q q;walk_at"g";refine acc1 vs (λx:V=>x) (λx=>.tup [x,.str (Str.ofString ">="),.int a]) (List.map_id' vs).symm (λx hxm acc Q' ha hq=>?_) (a6 hl (a5 rfl)) ?_
  ·walk_at"g";exact hq _ rfl
  walk_at"g";refine acc1 vs (λx:V=>x) (λx=>.tup [x,.str (Str.ofString "<="),.int b]) (List.map_id' vs).symm (λx hxm acc Q' ha hq=>?_) (a6 hl (a5 rfl)) ?_
  ·walk_at"g";exact hq _ rfl
  walk_at"g";refine q _ ?_;simp only[aa,a7,a7];exact bL hl hl)
noncomputable def insB(D row:List Nat)(a b:Int):List Nat:=row.filter λx=>decide (a<=lowM (at_ D x))&&decide (highM (at_ D x)<=b)
theorem adb_pig{row ys:List Nat}{p:Nat->Int}{a b:Int}(hK:KAd row p)(hy:ys.Nodup)(hs:∀y∈ys,y∈row)(hb:∀y∈ys,a<=p y/\p y<=b)(hab:a<=b):(ys.length:Int)<=b-a+1:=by
 have:=pigeon (l:=ys.map p) (a:=a) (b:=b) (nodup_inj hy λx hx y hy=>(nodup_map hK).2 x (hs x hx) y (hs y hy)) λv hv=>by
  refine oea (au.mp hv) λy hy z_=>?_;refine z_▸?_;exact hb y hy
 rw[a7]at this;lia
theorem ins_bd{s:Sto}{row:List Nat}{a b:Int}{p:Nat->Int}(ok:s.Ok)(hx:∀x∈row,x<5)(hp:InD s.D p):∀y∈insB s.D row a b,y∈row/\a<=p y/\p y<=b:=λy hy=>by
 refine oa (aq.mp hy) λh1 h2=>?_;simp only[aB,decide_eq_true_eq]at h2;have:=lowHigh (ok.atD (hx y h1)).2 (hp y (hx y h1));exact⟨h1,by lia,by lia⟩
theorem adb_out{s:Sto}{row:List Nat}{a b:Int}{p:Nat->Int}(ok:s.Ok)(hx:∀x∈row,x<5)(hp:InD s.D p)(hK:KAd row p)(hab:a<=b)(hr:b-a+1<=(insB s.D row a b).length){y:Nat}(hy:y∈row)(hn:y∉insB s.D row a b):¬(a<=p y/\p y<=b):=λz=>by
 have nd:(insB s.D row a b).Nodup:=dL.sublist fm (nodup_map hK).1;have:=adb_pig (ys:=y::insB s.D row a b) hK (aE.mpr ⟨hn,nd⟩) (λw hw=>by
  rcases aj.mp hw with e|h
  ·rw[e];exact hy
  ·exact(ins_bd ok hx hp w h).1) (λw hw=>by
  rcases aj.mp hw with e|h
  ·rw[e];exact z
  ·exact(ins_bd ok hx hp w h).2) hab
 simp only[am]at this;lia
theorem k8_up{b:Int}(h0:0<=b)(h:b<=3):k8 (b+1):=⟨aG (by decide) (aG h0 (eC (by decide))),cU h 1⟩
theorem k8_dn{a:Int}(h0:0<=a)(h:a<=3):k8 (a-1):=⟨fu h0 1,aG (cY _ (by decide)) (aG h (by decide))⟩
theorem c_adb_look(H:KF c):∀(s:Sto) (row:List Nat) (a b:Int),(s.Ok)->(s.fl=false)->(row.length<=3)->(∀x∈row,x<5)->(0<=a/\a<=b/\b<=3)->FS1 c 6 361 [adO 369 row "bounds",s.w,.v (.int a),.v (.int b)] (λQ=>∀t s',Out (KAd row) s t s'->(t=true->s'.tr.length=s.tr.length->((insB s.D row a b).length:Int)<=b-a+1)->Q (.v (.bool t)) [adO 369 row "bounds",s'.w,.v (.int a),.v (.int b)]):=
 λs row a b ok hf hl hx hz4=>.ofChk1 H (H.f 35 361 (stAt (bodyOf (stAt top 24)) 4) [122,131,0,9] rfl) [118,122,3,0,9,131,151,0,78,5,131,151,57,5,131,151,9,151,62,9,0,115,0,0,62,115,38,5,131,145,5,122,62,115,0,9,0,0,62,115,145,5,122,62,0,9,114,118,122,152,152,62,0,78,5,131,152,9,133,5,131,152,9,114,152,0,0,57,5,131,152,9,133,5,131,152,0,114,152,9] (w:=by
  intro Q q;refine oaa hz4 λha hab hb=>?_;walk_at"g";refine accF row (λx:Nat=>V.int x) (λx=>decide (a<=lowM (at_ s.D x))&&decide (highM (at_ s.D x)<=b)) (λx:Nat=>V.int x) rfl (λx hxm acc Q' ha hq hr=>?_) (a6 hl (a5 rfl)) ?_
  ·walk_at"g";refine call1_ (c_low H s x ok (hx x hxm)) ?_;walk_at"g"
   ·rename_i e1;refine call1_ (c_high H s x ok (hx x hxm)) ?_;walk_at"g"
    ·rename_i e2;exact hq (by simp only[decide_eq_true e1,decide_eq_true e2];rfl) _ rfl
    ·rename_i e2;exact hr (by simp only[decide_eq_false e2,d8]) _ rfl
   ·rename_i e1;exact hr (by rw[decide_eq_false e1];rfl) _ rfl
  have hin:(insB s.D row a b).length<=3:=a6 (ak _ _) hl;have sub:=λ{p:Nat->Int} (hp:InD s.D p)=>ins_bd (a:=a) (b:=b) ok hx hp;have out:=λ{p:Nat->Int} (hp:InD s.D p) (hK:KAd row p)=>adb_out (a:=a) (b:=b) ok hx hp hK hab;have hsub:∀y∈insB s.D row a b,y∈row:=λy hy=>(aq.mp hy).1;have hnd:row.Nodup->(insB s.D row a b).Nodup:=λh=>dL.sublist fm h
  change∀t s',Out (KAd row) s t s'->(t=true->s'.tr.length=s.tr.length->((insB s.D row a b).length:Int)<=b-a+1)->_ at q
  unfold insB at *;generalize row.filter (λx=>decide (a<=lowM (at_ s.D x))&&decide (highM (at_ s.D x)<=b))=ins at *;walk_at"g"
  ·rename_i hgt;rw[a7]at hgt;refine call1_ (c_adb_walls H row ("bounds") _ a b (a6 (eY _ _) (szMap (a6 hin (a5 rfl))))) (λrs hrs=>?_);walk_at"g";refine fail_ H (K:=KAd row) ok (.inl rfl) (a6 hrs (a5 rfl)) (λp hp hK=>bD.mpr (adb_pig hK (hnd (nodup_map hK).1) hsub (λy hy=>(sub hp y hy).2) hab) hgt) (λs' o'=>?_);walk_at"g";exact q false s' o' (λe=>nomatch e)
  ·rename_i h1 h2;rw[a7]at h1;exact q true s (.refl ok hf) (λ_ _=>bD.mp h1)
  ·rename_i h1 h2;rw[a7]at h1 h2;have a4:a<=3:=aG hab hb;refine call1_ (c_adb_walls H row ("bounds") _ a b (szMap (a6 hin (a5 rfl)))) (λrs hrs=>?_);walk_at"g";refine loop1_ (λx:Nat=>V.int x) (λs3:Sto=>[(122,_),(131,s3.w),(0,.v (.int a)),(9,.v (.int b)),(62,_),(115,_),(114,.v (.tup rs))])
    (λus s3 G=>(∀x∈us,x∈row)->Out (KAd row) s true s3->G) (λy us s3 Q' i1 i2 hn' hr'=>?_) (λs3 _ hI=>?_) row s λR k=>k (λ_ h=>h) (.refl ok hf)
   ·have hy:=i1 y (.head _);have hy5:=hx y hy;have i1:=λy hy=>i1 y (.tail _ hy);walk_at"g";refine inN_ (br_ (λe1=>?_) (λe1=>?_))
    ·have hyn:y∉ins:=λz=>by rw[ax.mpr z]at e1;exact ff e1
     walk_at"g";refine call1_ (c_low H s3 y i2.le.ok hy5) ?_;walk_at"g"
     ·rename_i l1 l2;refine strike_ H (K:=KAd row) (g:=.ge) (k:=b+1) (rs:=rs++[_]) i2.le.ok i2.fl hy5 (k8_up (aG ha hab) hb) (.inl rfl) (by rw[aa];exact a6 (ai hrs 1) (a5 rfl)) (λp hp hK=>decide_eq_true (dc.mp λz=>out (λx hx=>i2.le.sub x hx _ (hp x hx)) hK (bD.mp h2) hy hyn ⟨aG l1 (lowHigh (i2.le.ok.atD hy5).2 (hp y hy5)).1,z⟩)) (λt s3 o4 e4=>?_);cases t
      ·walk_at"g";apply hr';walk_at"g";exact q false s3 (i2.trans o4) (λe=>ff e)
      ·have i2:=i2.trans o4;walk_at"g";refine call1_ (c_high H s3 y i2.le.ok hy5) ?_;walk_at"g"
       ·rename_i m1 m2;refine strike_ H (K:=KAd row) (g:=.le) (k:=a-1) (rs:=rs++[_]) i2.le.ok i2.fl hy5 (k8_dn ha a4) (.inl rfl) (by rw[aa];exact a6 (ai hrs 1) (a5 rfl)) (λp hp hK=>decide_eq_true (dG (dc.mp λz=>out (λx hx=>i2.le.sub x hx _ (hp x hx)) hK (bD.mp h2) hy hyn ⟨z,aG (lowHigh (i2.le.ok.atD hy5).2 (hp y hy5)).2 m2⟩))) (λt s5 o5 e5=>?_);cases t
        ·walk_at"g";apply hr';walk_at"g";exact q false s5 (i2.trans o5) (λe=>ff e)
        ·walk_at"g";exact hn' s5 _ (λR k=>k i1 (i2.trans o5)) rfl
       all_goals exact hn' s3 _ (λR k=>k i1 i2) rfl
     ·walk_at"g";refine call1_ (c_high H s3 y i2.le.ok hy5) ?_;walk_at"g"
      ·rename_i m1 m2;refine strike_ H (K:=KAd row) (g:=.le) (k:=a-1) (rs:=rs++[_]) i2.le.ok i2.fl hy5 (k8_dn ha a4) (.inl rfl) (by rw[aa];exact a6 (ai hrs 1) (a5 rfl)) (λp hp hK=>decide_eq_true (dG (dc.mp λz=>out (λx hx=>i2.le.sub x hx _ (hp x hx)) hK (bD.mp h2) hy hyn ⟨z,aG (lowHigh (i2.le.ok.atD hy5).2 (hp y hy5)).2 m2⟩))) (λt s5 o5 e5=>?_);cases t
       ·walk_at"g";apply hr';walk_at"g";exact q false s5 (i2.trans o5) (λe=>ff e)
       ·walk_at"g";exact hn' s5 _ (λR k=>k i1 (i2.trans o5)) rfl
      all_goals exact hn' s3 _ (λR k=>k i1 i2) rfl
     ·walk_at"g";refine call1_ (c_high H s3 y i2.le.ok hy5) ?_;walk_at"g"
      ·rename_i m1 m2;refine strike_ H (K:=KAd row) (g:=.le) (k:=a-1) (rs:=rs++[_]) i2.le.ok i2.fl hy5 (k8_dn ha a4) (.inl rfl) (by rw[aa];exact a6 (ai hrs 1) (a5 rfl)) (λp hp hK=>decide_eq_true (dG (dc.mp λz=>out (λx hx=>i2.le.sub x hx _ (hp x hx)) hK (bD.mp h2) hy hyn ⟨z,aG (lowHigh (i2.le.ok.atD hy5).2 (hp y hy5)).2 m2⟩))) (λt s5 o5 e5=>?_);cases t
       ·walk_at"g";apply hr';walk_at"g";exact q false s5 (i2.trans o5) (λe=>ff e)
       ·walk_at"g";exact hn' s5 _ (λR k=>k i1 (i2.trans o5)) rfl
      all_goals exact hn' s3 _ (λR k=>k i1 i2) rfl
    ·walk_at"g";exact hn' s3 _ (λR k=>k i1 i2) rfl
   ·walk_at"g";exact q true s3 hI (λ_ _=>bD.mp h1))
def Walls(row:List Nat)(D:List Nat):Prop:=∀x∈row,∀y∈row,lowM (at_ D x)<=highM (at_ D y)->((insB D row (lowM (at_ D x)) (highM (at_ D y))).length:Int)<=highM (at_ D y)-lowM (at_ D x)+1
def WallX(row D:List Nat)(x:Nat):Prop:=∀y∈row,lowM (at_ D x)<=highM (at_ D y)->((insB D row (lowM (at_ D x)) (highM (at_ D y))).length:Int)<=highM (at_ D y)-lowM (at_ D x)+1
def WallA(row D:List Nat)(a:Int)(y:Nat):Prop:=a<=highM (at_ D y)->((insB D row a (highM (at_ D y))).length:Int)<=highM (at_ D y)-a+1
theorem wallA_step{row D:List Nat}{a b:Int}{vs:List Int}(j:∀y∈row,highM (at_ D y)∈b::vs∨WallA row D a y)(f:a<=b->((insB D row a b).length:Int)<=b-a+1):∀y∈row,highM (at_ D y)∈vs∨WallA row D a y:=λy hy=>by
 rcases j y hy with r|r
 ·rcases aj.mp r with e|r
  ·exact .inr (by unfold WallA;refine(e).symm▸?_;exact f)
  ·exact .inl r
 ·exact .inr r
theorem wallX_step{row D:List Nat}{a:Int}{us:List Int}(i:∀x∈row,lowM (at_ D x)∈a::us∨WallX row D x)(j:∀y∈row,highM (at_ D y)∈([]:List Int)∨WallA row D a y):∀x∈row,lowM (at_ D x)∈us∨WallX row D x:=λx hx=>by
 rcases i x hx with r|r
 ·rcases aj.mp r with e|r
  ·refine .inr ?_;unfold WallX;refine(e).symm▸?_;exact λy hy=>(j y hy).resolve_left λz=>nomatch z
  ·exact .inl r
 ·exact .inr r
theorem walls_fin{s:Sto}{row:List Nat}(hx:∀x∈row,x<5)(nd:row.Nodup)(h:Walls row s.D):Fin_ (KAd row) s:=λp hp=>by
 refine nodup_inj nd λx hxm y hym e=>Classical.byContradiction λne=>?_;have lo:∀z∈row,lowM (at_ s.D z)=p z/\highM (at_ s.D z)=p z:=λz hz=>by
  delta lowM highM;refine(hp z (hx z hz)).symm▸?_;exact⟨rfl,rfl⟩
 have:=h x hxm y hym;rw[(lo x hxm).1,(lo y hym).2,e]at this;have mem:∀z∈row,p z=p y->z∈insB s.D row (p y) (p y):=λz hz ez=>aq.mpr ⟨hz,by simp[(lo z hz).1,(lo z hz).2,ez]⟩;have:=len_sub (l:=[x,y]) (m:=insB s.D row (p y) (p y)) (by simp[ne]) λz hz=>by
  simp only[aj,aN,or_false]at hz;clear ne;rcases hz with rfl|rfl
  ·exact mem _ hxm e
  ·exact mem _ hym rfl
 simp only[am,bo]at this;lia
theorem iN_nodup{row:List Nat}:(iN row).Nodup↔row.Nodup:=⟨λh=>(nodup_map h).1,λh=>nodup_inj h λx _ y _ e=>(bp.inj ‹_›)⟩
theorem c_adb_prop(H:KF c):FSW c 7 (.ref 356) (λws Q=>∃(row:List Nat),(1<=row.length/\row.length<=3/\∀x∈row,x<5)/\PropF (adO 369 row "bounds") (KAd row) ws Q):=
 .ofChk H (H.f 34 356 (stAt (bodyOf (stAt top 24)) 3) [122,131] rfl) [63,131,20,5,122,118,122,38,5,131,13,13,0,0,138,131,0,0,138,131,13,4,0,118,122,1,131,151,57,5,131,151,33,4,0,118,122,1,131,151,78,5,131,151,0,33,9,0,9,77,5,122,131,0,9] (w:=by
  rintro ws Q ⟨row,⟨hl0,hl,hx⟩,s,rfl,ok,hf,q⟩;have ef:s.fl=false:=hf;walk_at"g"
  ·rename_i z;rw[ef]at z;exact ff z
  refine call1e_ (c_adb_check H row ("bounds") (iN row) (by simpa using hl0) (by simpa using hl)) (by unfold adO;rw[←vN_i]) ?_;walk_at"g"
  ·rename_i z;refine fail_ H (K:=KAd row) ok (.inl rfl) (aZ _) (λp hp hK=>of_decide_eq_false (nt_ z) (iN_nodup.mpr (nodup_map hK).1)) (λs' o'=>?_);walk_at"g";exact q false s' o' (λe=>ff e)
  rename_i z;have nd:row.Nodup:=iN_nodup.mp (of_decide_eq_true (nf_ z));clear z;have bd:∀(s1:Sto),s1.Ok->∀x∈row,0<=lowM (at_ s1.D x)/\highM (at_ s1.D x)<=3:=λs1 ok1 x hxm=>by
   refine oa (ok1.atD (hx x hxm)) λr1 r2=>?_;have:=t_lh3 _ r2 r1;exact⟨this.1.1,this.2.1⟩
  have l4:row.length<=4096:=a6 hl (a5 rfl);refine while2_ 23 (-1) s (λ(mark:Int) (s1:Sto)=>[(122,_),(131,s1.w),(13,.v (.int mark))])
   (λm mark s1 G=>Out (KAd row) s true s1->mark<=s1.tr.length->22<=mark+m->(mark=s1.tr.length->Walls row s1.D)->G) rfl (λR k=>k (.refl ok hf) (aG (by decide) (aX _)) (by decide) λe=>(mark_no e).elim)
   (λm mark s1 Q' h1 h2 h3 h4 hn' hr'=>?_) λmark s1 h1 h2 h3 _=>mark_end h1.le.ok.tr h2 h3
  have bd1:=bd s1 h1.le.ok;have ht:=a6 (an _ _) h1.le.ok.tr;walk_at"g"
  ·rename_i hlt;rw[a7]at hlt;refine acc1 row (λx:Nat=>V.int x) (λx=>V.int (highM (at_ s1.D x))) rfl (λx hxm acc Q'' ha hq=>?_) l4 ?_
   ·walk_at"g";refine call1_ (c_high H s1 x h1.le.ok (hx x hxm)) ?_;walk_at"g";exact hq _ rfl
   refine(show row.map (λx=>V.int (highM (at_ s1.D x)))=(row.map λx=>highM (at_ s1.D x)).map V.int by rw[av];rfl).symm▸?_;have eh:∀b,b∈sortI (row.map λx=>highM (at_ s1.D x))↔∃y∈row,highM (at_ s1.D y)=b:=λb=>by rw[(sortI_perm _).mem_iff,au]
   have lh:(row.map λx=>highM (at_ s1.D x)).length=row.length:=a7 _;generalize row.map (λx=>highM (at_ s1.D x))=hs at *;have lh2:(sortI hs).length<=3:=by rw[(sortI_perm hs).length_eq,lh];exact hl
   walk_at"g";refine pr_ ⟨λe=>by rw[e]at lh;rw[←lh]at hl0;exact cS 0 hl0,lh▸aL hl (a5 rfl)⟩ ?_;walk_at"g";refine acc1 row (λx:Nat=>V.int x) (λx=>V.int (lowM (at_ s1.D x))) rfl (λx hxm acc Q'' ha hq=>?_) l4 ?_
   ·walk_at"g";refine call1_ (c_low H s1 x h1.le.ok (hx x hxm)) ?_;walk_at"g";exact hq _ rfl
   rw[show row.map (λx=>V.int (lowM (at_ s1.D x)))=(row.map λx=>lowM (at_ s1.D x)).map V.int by rw[av];rfl];have el:∀b,b∈sortI (row.map λx=>lowM (at_ s1.D x))↔∃y∈row,lowM (at_ s1.D y)=b:=λb=>by rw[(sortI_perm _).mem_iff,au]
   have ll:(row.map λx=>lowM (at_ s1.D x)).length=row.length:=a7 _;generalize row.map (λx=>lowM (at_ s1.D x))=ls at *;walk_at"g";refine pr_ ⟨λe=>by rw[e]at ll;rw[←ll]at hl0;exact cS 0 hl0,ll▸aL hl (a5 rfl)⟩ ?_;walk_at"g";refine loop1_ V.int (λs3:Sto=>[(122,_),(131,s3.w),(13,_),(33,_)])
    (λus s3 G=>Out (KAd row) s1 true s3->(∀a∈us,a∈sortI ls)->(s3.tr.length=s1.tr.length->∀x∈row,lowM (at_ s1.D x)∈us∨WallX row s1.D x)->G)
    (λa us s3 Q'' i1 i2 i3 hn2 hr2=>?_) (λs3 i1 _ i3=>?_) (sortI ls) s1 λR k=>k (.refl h1.le.ok h1.fl) (λ_ h=>h) λ_ x hxm=>.inl ((el _).mpr (iea x hxm rfl))
   ·obtain⟨xa,hxa,ea⟩:=(el a).mp (i2 a (.head _));have ba:0<=a:=ea▸(bd1 xa hxa).1;walk_at"g";refine loop1_ V.int (λs4:Sto=>[(122,_),(131,s4.w),(13,_),(33,_),(0,.v (.int a))])
     (λvs s4 G=>Out (KAd row) s3 true s4->(∀b∈vs,b∈sortI hs)->(s4.tr.length=s1.tr.length->∀y∈row,highM (at_ s1.D y)∈vs∨WallA row s1.D a y)->G)
     (λb vs s4 Q3 j1 j2 j3 hn3 hr3=>?_) (λs4 j1 _ j3=>?_) (sortI hs) s3 λR k=>k (.refl i1.le.ok i1.fl) (λ_ h=>h) λ_ y hym=>.inl ((eh _).mpr (iea y hym rfl))
    ·obtain⟨xb,hxb,eb⟩:=(eh b).mp (j2 b (.head _));have bb:b<=3:=eb▸(bd1 xb hxb).2;have j2:=λb' hb'=>j2 b' (.tail _ hb');have o14:=i1.trans j1;walk_at"g"
     ·rename_i hab;refine call1_ (c_adb_look H s4 row a b j1.le.ok j1.fl hl hx (iaa ba hab bb)) (λt s5 o5 f5=>?_);cases t
      ·walk_at"g";apply hr3;apply hr2;apply hr';walk_at"g";exact q false s5 (h1.trans (o14.trans o5)) (λe=>ff e)
      ·walk_at"g";refine hn3 s5 _ (λR k=>k (j1.trans o5) j2 λe=>?_) rfl;have e4:=mid_len o14.le.len o5.le.len e;have f5:=f5 rfl (e.trans e4.symm);rw[o14.le.same e4]at f5;exact wallA_step (j3 e4) λ_=>f5
     ·rename_i hab;exact hn3 s4 _ (λR k=>k j1 j2 λe=>wallA_step (j3 e) λz=>absurd z hab) rfl
    ·walk_at"g";exact hn2 s4 _ (λR k=>k (i1.trans j1) (λa' ha'=>i2 a' (.tail _ ha')) λe=>wallX_step (i3 (mid_len i1.le.len j1.le.len e)) (j3 e)) rfl
   ·have mk:=mark_step h3 hlt i1.le.len;walk_at"g";refine hn' (((s1.tr.map Ent.v).length:Int)) s3 _ (λR k=>k (h1.trans i1) (by rw[a7];exact mk.1) (by rw[a7];exact mk.2) λe=>?_) rfl;rw[a7]at e;have e:=(bp.inj e).symm;rw[i1.le.same e];exact λx hxm=>(i3 e x hxm).resolve_left λz=>nomatch z
  ·rename_i hge;rw[a7]at hge;exact q true s1 h1 (λ_=>walls_fin hx nd (h4 (cr h2 (bD.mp hge)))))
end
noncomputable def oM:Option Int->V
 |none=>.none
 |some v=>.int v
noncomputable def vL(m:Nat):V:=.lst ((valsM m).map .int)
noncomputable def mgO(ch:List Nat)(mt:List (Option Int))(es:List (Int×V)):MW:=.obj 407 [21,85,104] [.v (.lst (ch.map vL)),.list (mt.map oM),.dict es]
theorem lookup_put1(es:List (Int×V))(i j:Int)(x:V):(put1 es i x).lookup j=if j=i then some x else es.lookup j:=by
 have hc:∀es:List (Int×V),(es.map λe=>if e.1=i then(e.1,x)else e).lookup j=if j=i then(es.lookup i).map (λ_=>x)else es.lookup j:=by
  intro es
  induction es with
  |nil=>split<;>rfl
  |cons e es ih=>
   obtain⟨a,b⟩:=e;simp only[aD];by_cases h:a=i
   ·subst h;rw[if_pos rfl,aR,aR,aR,ih];by_cases hj:j=a
    ·refine hj▸?_;simp
    ·have:(j==a)=false:=by simpa using hj
     simp[this,hj]
   ·simp only[if_neg h,aR,aR,aR,ih];by_cases hj:j=i
    ·subst hj;have:(j==a)=false:=by simpa using λz=>h z.symm
     simp[this]
    ·simp[hj]
 have hn:∀es:List (Int×V),i∉es.map (·.1)->es.lookup i=none:=by
  intro es
  induction es with
  |nil=>intro _;rfl
  |cons e es ih=>
   intro h;rw[aD,aj,not_or]at h;rw[aR,ih h.2];have:(i==e.1)=false:=by simpa using h.1
   rw[this]
 have hy:∀es:List (Int×V),i∈es.map (·.1)->∃y,es.lookup i=some y:=by
  intro es
  induction es with
  |nil=>intro h;cases h
  |cons e es ih=>
   intro h;rw[aR];by_cases q:i=e.1
   ·exact⟨e.2,by simp[q]⟩
   ·have:(i==e.1)=false:=by simpa using q
    refine(this).symm▸?_;rw[aD,aj]at h;exact ih (h.resolve_left q)
 unfold put1;split
 ·rename_i h;rw[hc];refine oe (hy es (by simpa using h)) λy e=>?_;rw[e];rfl
 ·rename_i h;clear hc;simp only[dJ,aR];clear hy;by_cases q:j=i
  ·refine q.symm▸?_;rw[hn es (by simpa using h)];simp
  ·have:(j==i)=false:=by simpa using q
   refine(this)▸?_;rw[if_neg q];simp
theorem has_lookup(es:List (Int×V))(i:Int):(es.map (·.1)).contains i=(es.lookup i).isSome:=by
 induction es with
 |nil=>rfl
 |cons e es ih=>
  rw[aD,d6,aR];refine(ih).symm▸?_;cases i==e.1<;>rfl
theorem look_none{es:List (Int×V)}{i:Int}(h:(es.map (·.1)).contains i=false):es.lookup i=none:=by
 rw[has_lookup]at h;cases e:es.lookup i with
 |none=>rfl
 |some x=>rw[e]at h;exact ff h.symm
theorem look_some{es:List (Int×V)}{i:Int}(h:(es.map (·.1)).contains i=true){G:Prop}(k:∀x,es.lookup i=some x->G):G:=by
 rw[has_lookup]at h;cases e:es.lookup i with
 |none=>rw[e]at h;exact ff h
 |some x=>exact k x e
def Owns(mt:List (Option Int))(es:List (Int×V))(skip:Option Int):Prop:=∀v:Int,some v≠skip->∀x,es.lookup v=some x↔∃q:Nat,x=.int q/\mt[q]?=some (some v)
def Sat(mt:List (Option Int))(q:Nat):Prop:=∃u,mt[q]?=some (some u)
def Alw(ch:List Nat)(mt:List (Option Int)):Prop:=∀q u,mt[q]?=some (some u)->u∈valsM (ch.getD q 0)
noncomputable def cV(e:Int×Nat):Int×V:=(e.1,.int e.2)
theorem lookup_cV{cs:List (Int×Nat)}(nd:(cs.map (·.1)).Nodup){i:Nat}{v:Int}{p:Nat}(h:cs[i]?=some (v,p)):(cs.map cV).lookup v=some (.int p):=by
 induction cs generalizing i with
 |nil=>exact nos h
 |cons e cs ih=>
  rw[aD,aE]at nd;rw[aD,aR];cases i with
  |zero=>injection h with h;rw[h];simp[cV]
  |succ i=>
   have hm:(v,p)∈cs:=aF h;have:(v==(cV e).1)=false:=by
    rw[cV,beq_eq_false_iff_ne];intro z;exact nd.1 (au.mpr (iea _ hm z))
   refine(this).symm▸?_;exact ih nd.2 h
theorem keys_cV(cs:List (Int×Nat)):(cs.map cV).map (·.1)=cs.map (·.1):=by rw[av];rfl
theorem Owns.inj{mt:List (Option Int)}{es:List (Int×V)}{sk:Option Int}(h:Owns mt es sk){v:Int}(hv:some v≠sk){p q:Nat}(hp:mt[p]?=some (some v))(hq:mt[q]?=some (some v)):p=q:=by
 have a:=(h v hv _).mpr (iea p rfl hp);have b:=(h v hv _).mpr (iea q rfl hq);replace b:=(a)▸b;lia
def Chain(cs:List (Int×Nat))(mt:List (Option Int))(i:Nat):Prop:=∀j≤i,∀(u:Int) (p:Nat),cs[j]?=some (u,p)->mt[p]?=some none∨∃l<j,∃w p',cs[l]?=some (w,p')/\mt[p]?=some (some w)
theorem own_step{mt:List (Option Int)}{es:List (Int×V)}{v:Int}{p:Nat}{o:Option Int}(h:Owns mt es (some v))(hv:∀q:Nat,mt[q]?≠some (some v))(hp:mt[p]?=some o):Owns (mt.set p (some v)) (put1 es v (.int p)) o/\∀w,o=some w->∀q:Nat,(mt.set p (some v))[q]?≠some (some w):=by
 have pl:p<mt.length:=(ac.mp hp).1;constructor
 ·intro u hu x;rw[lookup_put1];by_cases e:u=v
  ·refine e.symm▸?_;rw[if_pos rfl];constructor
   ·intro hx;refine(ab.inj hx)▸?_;exact iea p rfl (by rw[dv pl])
   ·rintro⟨q,rfl,hq⟩;clear pl;rw[bK]at hq;split at hq
    ·rename_i e;rw[e]
    ·exact absurd hq (hv q)
  ·rw[if_neg e,h u (λz=>e (ab.inj z))];constructor
   ·rintro⟨q,rfl,hq⟩;refine iea q rfl ?_;rw[bK];split
    ·rename_i e;subst e;rw[hp]at hq;exact absurd (ab.inj hq).symm hu
    ·exact hq
   ·rintro⟨q,rfl,hq⟩;clear hu;refine iea q rfl ?_;rw[bK]at hq;split at hq
    ·injection hq with hq;injection hq with hq;subst hq;exact absurd rfl e
    ·exact hq
 ·rintro w rfl q hq;replace hq:=(bK)▸hq;have wv:w≠v:=λz=>hv p (z▸hp);split at hq
  ·injection hq with hq;injection hq with hq;subst hq;exact wv rfl
  ·rename_i ne;exact ne (h.inj (λz=>wv (ab.inj z)) hp hq)
theorem chain_step{cs:List (Int×Nat)}{mt:List (Option Int)}{i l:Nat}{v w:Int}{p p':Nat}(nd:(cs.map (·.1)).Nodup)(h:Chain cs mt i)(hi:cs[i]?=some (v,p))(hl:l<i)(hw:cs[l]?=some (w,p'))(hp:mt[p]?=some (some w)):Chain cs (mt.set p (some v)) l:=by
 intro j hj u q hq;have key:q≠p:=by
  rintro rfl;rcases h j (by lia) u q hq with e|⟨l',h1,w',p'',h2,h3⟩
  ·replace e:=(hp)▸e;cases e
  ·replace h3:=(hp)▸h3;injection h3 with h3;injection h3 with h3;subst h3
   have a:(cs.map (·.1))[l']?=some w:=by rw[ae,h2];rfl
   have b:(cs.map (·.1))[l]?=some w:=by rw[ae,hw];rfl
   have:=(dN (ac.mp a).1 nd).mp (a.trans b.symm);lia
 rw[bK,if_neg (λz=>key z.symm)];exact h j (by lia) u q hq
structure Bfs(ch:List Nat)(mt:List (Option Int))(place:Nat)(cs:List (Int×Nat))(ps:List Nat):Prop where
 len:ps.length=cs.length+1
 nd:(cs.map (·.1)).Nodup
 pnd:ps.Nodup
 rg:∀e∈cs,e.1∈valsM (ch.getD e.2 0)
 own:∀(j:Nat) (u:Int) (p:Nat),cs[j]?=some (u,p)->∃q:Nat,ps[j+1]?=some q/\mt[q]?=some (some u)
 head:ps[0]?=some place
 mem:∀q∈ps,q<mt.length/\(q=place∨∃u∈cs.map (·.1),mt[q]?=some (some u))
 src:∀(j:Nat) (u:Int) (p:Nat),cs[j]?=some (u,p)->∃t:Nat,t<=j/\ps[t]?=some p
variable{ch:List Nat}{mt:List (Option Int)}{place:Nat}{cs:List (Int×Nat)}{ps:List Nat}
theorem Bfs.start(h:place<mt.length):Bfs ch mt place [] [place]:=⟨rfl,.nil,by simp,by simp,by simp,rfl,by simp[h],by simp⟩
theorem Bfs.chain(B:Bfs ch mt place cs ps)(hp:mt[place]?=some none){k:Nat}{u:Int}{p:Nat}(hk:k<=cs.length)(e:ps[k]?=some p):Chain (cs++[(u,p)]) mt cs.length:=by
 intro j hj u' p' hq;obtain⟨t,ht,et⟩:∃t:Nat,t<=j/\ps[t]?=some p':=by
  rw[bu]at hq;split at hq
  ·exact B.src j u' p' hq
  ·have:j=cs.length:=bC ‹_› (aW.mp ‹_›);clear hj;subst this;simp at hq;exact iea k hk (hq.2▸e)
 clear hq;cases t with
 |zero=>
  replace et:=(B.head)▸et;refine(ab.inj et)▸?_;exact .inl hp
 |succ t=>
  have tl:t<cs.length:=bH (by assumption) (by assumption);obtain⟨⟨u2,p2⟩,h2⟩:∃x,cs[t]?=some x:=⟨cs[t],a8 tl⟩;refine oea (B.own t u2 p2 h2) λq h3 h4=>?_;replace h3:=(et)▸h3;refine(ab.inj h3)▸?_;exact .inr ⟨t,by assumption,u2,p2,by rw[bu,if_pos tl];exact h2,h4⟩
theorem Bfs.add(B:Bfs ch mt place cs ps)(hp:mt[place]?=some none){k:Nat}{u:Int}{p q:Nat}(hk:k<=cs.length)(e:ps[k]?=some p)(hu:u∉cs.map (·.1))(hv:u∈valsM (ch.getD p 0))(hq:mt[q]?=some (some u)):Bfs ch mt place (cs++[(u,p)]) (ps++[q]):=by
 refine⟨by simp[B.len],?_,?_,?_,?_,?_,?_,?_⟩
 ·rw[ah,bN];refine⟨B.nd,by simp,?_⟩;rintro a ha b hb rfl;simp at hb;subst hb;exact hu ha
 ·rw[bN];refine⟨B.pnd,by simp,?_⟩;rintro a ha b hb rfl;simp at hb;subst hb;rcases(B.mem a ha).2 with z|⟨u',h1,h2⟩
  ·subst z;replace hq:=(hp)▸hq;cases hq
  ·replace h2:=(hq)▸h2;injection h2 with h2;injection h2 with h2;subst h2;exact hu h1
 ·intro x hx;rcases aO.mp hx with h|h
  ·exact B.rg x h
  ·cases af.mp h;exact hv
 ·intro j u' p' h;rw[bu]at h;split at h
  ·refine oea (B.own j u' p' h) λq' h1 h2=>?_;refine iea q' ?_ h2;rw[bu,if_pos (ac.mp h1).1];exact h1
  ·have hj:=(ac.mp h).1;have:j=cs.length:=by simp at hj;lia
   subst this;simp at h;refine iea q ?_ (h.1▸hq);rw[bu,if_neg (by refine(B.len)▸?_;exact bQ _),B.len];simp
 ·rw[bu,if_pos (by rw[B.len];exact a5 rfl)];exact B.head
 ·intro x hx;rcases aO.mp hx with h|h
  ·refine oa (B.mem x h) λh1 h2=>?_;refine⟨h1,h2.imp id λ⟨u',a,b⟩=>iea u' (by rw[ah];exact aK _ a) b⟩
  ·clear hx;cases af.mp h;exact⟨(ac.mp hq).1,.inr ⟨u,by simp,hq⟩⟩
 ·intro j u' p' h;rw[bu]at h;split at h
  ·refine oea (B.src j u' p' h) λt h1 h2=>?_;refine iea t h1 ?_;rw[bu,if_pos (ac.mp h2).1];exact h2
  ·have hj:=(ac.mp h).1;have:j=cs.length:=by simp at hj;lia
   subst this;simp at h;refine iea k hk ?_;rw[bu,if_pos (ac.mp e).1,e,h.2]
theorem valsM_rg{m:Nat}{u:Int}(h:u∈valsM m):u∈[(0:Int),1,2,3]:=(aq.mp h).1
theorem Bfs.cl(B:Bfs ch mt place cs ps):cs.length<=4:=by
 have:=len_sub B.nd (m:=[0,1,2,3]) λu hu=>by
  refine oea (au.mp hu) λe he z_=>?_;refine z_▸?_;exact valsM_rg (B.rg e he)
 simpa using this
theorem Bfs.stuck(B:Bfs ch mt place cs ps)(cl:∀t<ps.length,∀p:Nat,ps[t]?=some p->∀u∈valsM (ch.getD p 0),u∈cs.map (·.1))(f:Nat->Int)(h1:∀q<mt.length,f q∈valsM (ch.getD q 0))(h2:∀q<mt.length,∀q'<mt.length,f q=f q'->q=q'):False:=by
 have:=len_sub (nodup_inj (f:=f) B.pnd λx hx y hy=>h2 x (B.mem x hx).1 y (B.mem y hy).1) (m:=cs.map (·.1)) λu hu=>by
  refine oea (au.mp hu) λq hq z_=>?_;refine z_▸?_;obtain⟨t,ht,e⟩:=cf hq;exact cl t ht q (by rw[a8 ht,e]) _ (h1 q (B.mem q hq).1)
 simp only[a7,a7,B.len]at this;exact absurd ‹_› (bQ _)
theorem put1_new{es:List (Int×V)}{i:Int}{x:V}(h:(es.map (·.1)).contains i=false):put1 es i x=es++[(i,x)]:=by unfold put1;rw[if_neg (by rw[h];simp)]
theorem t_vals:∀m<16,1<=m->valsM m≠[]:=by decide+kernel
theorem Bfs.last(B:Bfs ch mt place cs ps){q u:_}(h:(u,q)∈cs)(hq:mt[q]?=some none):q=place:=by
 obtain⟨j,hj,e⟩:=cf h;refine oea (B.src j u q (by rw[a8 hj,e])) λt h1 h2=>?_;rcases(B.mem q (aF h2)).2 with z|⟨u',_,z⟩
 ·exact z
 ·replace z:=(hq)▸z;cases z
structure Cls(ch:List Nat)(mt:List (Option Int))(v:Int)(dn:List Int)(ps:List Nat)(sk st us:List Int)(q0:Nat):Prop where
 nd:sk.Nodup
 pnd:ps.Nodup
 rg:∀u∈sk,u∈[(0:Int),1,2,3]
 perm:(dn++st).Perm sk
 len:ps.length=dn.length
 own:∀q∈ps,∃u∈dn,mt[q]?=some (some u)
 has:∀u∈dn,∃q∈ps,mt[q]?=some (some u)
 vm:v∈sk
 cl:∀q∈ps,∀u∈valsM (ch.getD q 0),u∈sk∨(q=q0/\u∈us)
variable{v w u:Int}{dn sk st us:List Int}{q0 q:Nat}
theorem Cls.start(h:v∈[(0:Int),1,2,3]):Cls ch mt v [] [] [v] [v] [] 0:=⟨by simp,.nil,by simpa using h,.refl _,rfl,by simp,by simp,by simp,by simp⟩
theorem Cls.sl(B:Cls ch mt v dn ps sk st us q0):sk.length<=4/\dn.length+st.length=sk.length:=by
 have:=len_sub B.nd (m:=[0,1,2,3]) B.rg;refine⟨by exact this,?_⟩;have:=B.perm.length_eq;simpa using this
theorem Cls.take(B:Cls ch mt v dn ps sk (st++[w]) [] 0)(hq:mt[q]?=some (some w)):Cls ch mt v (dn++[w]) (ps++[q]) sk st (valsM (ch.getD q 0)) q:=by
 have wd:w∉dn:=λz=>by
  have:=B.perm.nodup_iff.mpr B.nd;rw[bN]at this;exact this.2.2 w z w (by simp) rfl
 refine⟨B.nd,?_,B.rg,?_,by simp[B.len],?_,?_,B.vm,?_⟩
 ·rw[bN];refine⟨B.pnd,by simp,?_⟩;rintro a ha b hb rfl;simp at hb;subst hb;refine oea (B.own a ha) λu h1 h2=>?_;replace h2:=(hq)▸h2;injection h2 with h2;injection h2 with h2;subst h2;exact wd h1
 ·have:=B.perm;rw[bg];exact((List.Perm.refl dn).append (List.perm_append_comm (l₁:=[w]) (l₂:=st))).trans this
 ·intro x hx;rcases aO.mp hx with h|h
  ·refine oea (B.own x h) λu h1 h2=>?_;exact iea u (aK _ h1) h2
  ·cases af.mp h;exact iea w (by simp) hq
 ·intro u hu;rcases aO.mp hu with h|h
  ·refine oea (B.has u h) λx h1 h2=>?_;exact iea x (aK _ h1) h2
  ·cases af.mp h;exact iea q (by simp) hq
 ·intro x hx u hu;rcases aO.mp hx with h|h
  ·rcases B.cl x h u hu with z|⟨_,z⟩
   ·exact .inl z
   ·cases z
  ·cases af.mp h;exact .inr ⟨rfl,hu⟩
theorem Cls.skip(B:Cls ch mt v dn ps sk st (u::us) q0)(h:u∈sk):Cls ch mt v dn ps sk st us q0:=
 ⟨B.nd,B.pnd,B.rg,B.perm,B.len,B.own,B.has,B.vm,λx hx w hw=>by
   rcases B.cl x hx w hw with z|⟨z1,z2⟩
   ·exact .inl z
   ·clear B;rcases aj.mp z2 with rfl|z2
    ·exact .inl h
    ·exact .inr ⟨z1,z2⟩⟩
theorem Cls.put(B:Cls ch mt v dn ps sk st (u::us) q0)(h:u∉sk)(hr:u∈[(0:Int),1,2,3]):Cls ch mt v dn ps (sk++[u]) (st++[u]) us q0:=by
 refine⟨?_,B.pnd,?_,?_,B.len,B.own,B.has,aK _ B.vm,λx hx w hw=>?_⟩
 ·rw[bN];refine⟨B.nd,by simp,?_⟩;rintro a ha b hb rfl;simp at hb;subst hb;exact h ha
 ·intro x hx;rcases aO.mp hx with z|z
  ·exact B.rg x z
  ·cases af.mp z;exact hr
 ·rw[←bg];exact B.perm.append_right _
 ·clear h;rcases B.cl x hx w hw with z|⟨z1,z2⟩
  ·exact .inl (aK _ z)
  ·rcases aj.mp z2 with rfl|z2
   ·exact .inl (by simp)
   ·exact .inr ⟨z1,z2⟩
theorem Cls.done(B:Cls ch mt v dn ps sk [] [] q0)(f:Nat->Int)(h1:∀q<mt.length,f q∈valsM (ch.getD q 0))(h2:∀q<mt.length,∀q'<mt.length,f q=f q'->q=q')(q:Nat)(hq:q<mt.length)(hn:q∉ps):f q≠v:=λe=>by
 have pl:∀x∈ps,x<mt.length:=λx hx=>by
  refine oea (B.own x hx) λu _ h=>?_;exact(ac.mp h).1
 have:=len_sub (nodup_inj (f:=f) (aE.mpr ⟨hn,B.pnd⟩) λx hx y hy=>h2 x (by
  rcases aj.mp hx with z|z
  ·rw[z];exact hq
  ·exact pl x z) y (by
  rcases aj.mp hy with z|z
  ·rw[z];exact hq
  ·exact pl y z)) (m:=sk) λu hu=>by
  refine oea (au.mp hu) λx hx z_=>?_;refine z_▸?_;rcases aj.mp hx with z|z
  ·simp only[z,e];exact B.vm
  ·rcases B.cl x z _ (h1 x (pl x z))with z|⟨_,z⟩
   ·exact z
   ·cases z
 have hl:=B.sl.2;simp only[a7,am,B.len,bo]at this hl;lia
theorem Cls.hold(B:Cls ch mt v dn ps sk [] [] q0)(hO:∀p q:Nat,mt[p]?=some (some v)->mt[q]?=some (some v)->p=q){q:Nat}(h:mt[q]?=some (some v)):q∈ps:=by
 have:=B.perm.mem_iff.mpr B.vm;rw[aM]at this;refine oea (B.has v this) λx h1 h2=>?_;exact hO q x h h2▸h1
noncomputable def cT(u:Int):Int×V:=(u,.bool true)
theorem keys_cT(sk:List Int):(sk.map cT).map (·.1)=sk:=by rw[av];exact List.map_id sk
theorem vN_snoc{ps:List Nat}{q:Nat}:vN ps++[V.int q]=vN (ps++[q]):=by simp
def HNext(cs:List (Int×Nat))(mt mt1:List (Option Int))(m:Nat)(o:Option Int):Prop:=match o with
 |none=>∃q:Nat,(∃u,(u,q)∈cs)/\mt[q]?=some none/\Sat mt1 q
 |some w=>∃j p',j+2<=m/\cs[j]?=some (w,p')/\Chain cs mt1 j/\(∀q:Nat,mt1[q]?≠some (some w))/\∀q:Nat,mt1[q]?=some none->mt[q]?=some none
theorem chain_at{cs:List (Int×Nat)}{mt1:List (Option Int)}{j:Nat}{w:Int}{p':Nat}(g3:Chain cs mt1 j)(g2:cs[j]?=some (w,p')):∃o',mt1[p']?=some o'/\∀w',o'=some w'->∃l,l<j/\∃p'',cs[l]?=some (w',p''):=by
 rcases g3 j (aI _) w p' g2 with e|⟨l,hl,w',p'',e1,e2⟩
 ·exact iea none e (λw' z=>nos z)
 ·exact iea (some w') e2 (λw2 z=>⟨l,hl,p'',ab.inj z▸e1⟩)
theorem hand_step{ch:List Nat}{cs:List (Int×Nat)}{mt mt1:List (Option Int)}{es1:List (Int×V)}{m j p':Nat}{w:Int}{o':Option Int}(nd:(cs.map (·.1)).Nodup)(hB:∀e∈cs,e.1∈valsM (ch.getD e.2 0))(h0:1<=m+1)(g1:j+2<=m+1)(g2:cs[j]?=some (w,p'))(g3:Chain cs mt1 j)(g4:∀q:Nat,mt1[q]?≠some (some w))(g5:∀q:Nat,mt1[q]?=some none->mt[q]?=some none)
 (ho:mt1[p']?=some o') (hno:∀w',o'=some w'->∃l,l<j/\∃p'',cs[l]?=some (w',p'')) (h2:Owns mt1 es1 (some w)) (h3:Alw ch mt1) (h4:∀q,Sat mt q->Sat mt1 q) (h7:∀q,Sat mt1 q->Sat mt q∨∃u,(u,q)∈cs):
 1<=m/\Owns (mt1.set p' (some w)) (put1 es1 w (.int p')) o'/\Alw ch (mt1.set p' (some w))/\(∀q,Sat mt q->Sat (mt1.set p' (some w)) q)/\(∀q,Sat (mt1.set p' (some w)) q->Sat mt q∨∃u,(u,q)∈cs)/\HNext cs mt (mt1.set p' (some w)) m o':=by
 have pl:p'<mt1.length:=(ac.mp ho).1;refine oa (own_step h2 g4 ho) λn1 n2=>?_;refine iaaaaa (a6 (bV _ _) (dy g1)) n1 (λq u hu=>?_) (λq hq=>?_) (λq ⟨u,hu⟩=>?_) ?_
 ·replace hu:=(bK)▸hu;split at hu
  ·subst p';injection hu with hu;injection hu with hu;subst hu
   exact hB (w,q) (aF g2)
  ·exact h3 q u hu
 ·obtain⟨u,hu⟩:=h4 q hq;by_cases e:p'=q
  ·refine e▸?_;exact⟨w,dv pl⟩
  ·exact⟨u,by rw[bK,if_neg e];exact hu⟩
 ·rw[bK]at hu;split at hu
  ·subst p';exact .inr ⟨w,aF g2⟩
  ·exact h7 q ⟨u,hu⟩
 ·clear n1;cases o' with
  |none=>exact⟨p',⟨w,aF g2⟩,g5 p' ho,w,dv pl⟩
  |some w'=>
   obtain⟨l,hl,p'',e1⟩:=hno w' rfl;refine⟨l,p'',dy (a6 (ai hl 2) g1),e1,chain_step nd g3 g2 hl e1 ho,n2 w' rfl,λq hq=>?_⟩;replace hq:=(bK)▸hq;clear n2;split at hq
   ·clear pl;subst p';cases hq
   ·exact g5 q hq
theorem Bfs.arcs{ch:List Nat}{mt:List (Option Int)}{place:Nat}{cs:List (Int×Nat)}{ps:List Nat}(B:Bfs ch mt place cs ps){v:Int}{p:Nat}(nv:v∉cs.map (·.1))(hv:v∈valsM (ch.getD p 0)):((cs++[(v,p)]).map (·.1)).Nodup/\∀e∈cs++[(v,p)],e.1∈valsM (ch.getD e.2 0):=by
 refine⟨?_,λe he=>?_⟩
 ·rw[ah,bN];exact⟨B.nd,aE.mpr ⟨aN,.nil⟩,λa ha b hb e=>nv ((show a=v from e.trans (af.mp hb))▸ha)⟩
 ·rcases aO.mp he with h|h
  ·exact B.rg e h
  ·refine(af.mp h)▸?_;exact hv
theorem Bfs.isp{ch:List Nat}{mt:List (Option Int)}{place:Nat}{cs:List (Int×Nat)}{ps:List Nat}(B:Bfs ch mt place cs ps){v u:Int}{k p q:Nat}(hp:ps[k]?=some p)(h:(u,q)∈cs++[(v,p)])(hq:mt[q]?=some none):q=place:=by
 rcases aO.mp h with h|h
 ·exact B.last h hq
 ·rcases(B.mem p (aF hp)).2 with z|⟨u',_,z⟩
  ·exact(Prod.mk.inj (af.mp h)).2.trans z
  ·rw[(Prod.mk.inj (af.mp h)).2,z]at hq;exact nos (ab.inj hq).symm
theorem Bfs.sat{ch:List Nat}{mt:List (Option Int)}{place:Nat}{cs:List (Int×Nat)}{ps:List Nat}(B:Bfs ch mt place cs ps){v y:Int}{k p x:Nat}(hp:ps[k]?=some p)(h:(y,x)∈cs++[(v,p)]):Sat mt x∨x=place:=by
 have mem:x∈ps:=by
  rcases aO.mp h with h|h
  ·obtain⟨j,hj,e⟩:=cf h;refine oea (B.src j y x (by rw[a8 hj,e])) λt _ h2=>?_;exact aF h2
  ·rw[(Prod.mk.inj (af.mp h)).2];exact aF hp
 rcases(B.mem x mem).2 with z|⟨u',_,z⟩
 ·exact .inr z
 ·exact .inl ⟨u',z⟩
def Shut(ch:List Nat)(k:Nat)(cs:List (Int×Nat))(ps:List Nat):Prop:=∀t<k,∀p:Nat,ps[t]?=some p->∀u∈valsM (ch.getD p 0),u∈cs.map (·.1)
theorem Shut.put{ch:List Nat}{k:Nat}{cs:List (Int×Nat)}{ps:List Nat}(h:Shut ch k cs ps)(hk:k<ps.length)(e:Int×Nat)(q:Nat):Shut ch k (cs++[e]) (ps++[q]):=λt ht p' hp' u hu=>by
 rw[bu,if_pos (eP ht hk)]at hp';rw[ah];exact aK _ (h t ht p' hp' u hu)
theorem Shut.more{ch:List Nat}{k p:Nat}{cs:List (Int×Nat)}{ps:List Nat}(h:Shut ch k cs ps)(hp:ps[k]?=some p)(i4:∀u∈valsM (ch.getD p 0),u∈([]:List Int)∨u∈cs.map (·.1)):Shut ch (k+1) cs ps:=λt ht p' hp' u hu=>by
 rcases Nat.lt_succ_iff_lt_or_eq.mp ht with z|z
 ·exact h t z p' hp' u hu
 ·rw[z,hp]at hp';exact(i4 u (ab.inj hp'▸hu)).resolve_left (λz=>nomatch z)
theorem left_put{l:List Int}{v:Int}{us:List Int}{cs:List (Int×Nat)}{p:Nat}(i4:∀u∈l,u∈v::us∨u∈cs.map (·.1)):∀u∈l,u∈us∨u∈(cs++[(v,p)]).map (·.1):=λu hu=>by
 rw[ah];rcases i4 u hu with h|h
 ·rcases aj.mp h with h|h
  ·exact .inr (bm _ (h▸.head _))
  ·exact .inl h
 ·exact .inr (aK _ h)
theorem left_skip{l:List Int}{v:Int}{us:List Int}{cs:List (Int×Nat)}(nv:v∈cs.map (·.1))(i4:∀u∈l,u∈v::us∨u∈cs.map (·.1)):∀u∈l,u∈us∨u∈cs.map (·.1):=λu hu=>by
 rcases i4 u hu with h|h
 ·exact(aj.mp h).elim (λh=>.inr (h▸nv)) .inl
 ·exact .inr h
section
variable{c:Cx}
theorem c_m_init(H:KF c):∀(s:Sto) (row:List Nat),(s.Ok)->(row.length<=3)->(∀x∈row,x<5)->FS1 c 2 383 [.obj 407 [] [],s.w,.v (.tup (vN row))] (λQ=>Q (.v .none) [mgO (row.map λx=>at_ s.D x) (aQ row.length none) [],s.w,.v (.tup (vN row))]):=
 λs row ok hl hx=>.ofChk1 H (H.f 37 383 (stAt (bodyOf (stAt top 25)) 0) [122,131,118] rfl) [118,1,131,151,9,8,29,5,131,151,122,21,0,0,118,122,85,122,104] (w:=by
  intro Q q;walk_at"g";refine acc1 row (λx:Nat=>V.int x) (λx=>vL (at_ s.D x)) rfl (λx hxm acc Q' ha hq=>?_) (a6 (by assumption) (a5 rfl)) ?_
  ·refine oa (ok.atD (hx x hxm)) λr1 r2=>?_;refine oaa (t_dm _ r2) λz_ g3 z6_=>?_;obtain⟨g1,g2⟩:=z_;obtain -:=z6_;walk_at"g";refine call1_ (c_dom H s x ok (hx x hxm)) ?_;walk_at"g";refine call1_ (c_values H (dm (at_ s.D x)) g1 (by rw[g3];exact a6 (ak _ _) (by decide))) ?_;simp only[g3];walk_at"g";exact hq _ rfl
  walk_at"g";unfold mgO at q;simp only[av,dI]at q;have e:((vN row).length:Int).toNat=row.length:=by simp
  refine(e).symm▸?_;exact q)
theorem c_m_hand(H:KF c):∀(ch:List Nat) (mt:List (Option Int)) (es:List (Int×V)) (cs:List (Int×Nat)) (v:Int) (p i:Nat),(mt.length<=5/\es.length+cs.length<=200/\cs.length<=20)->((cs.map (·.1)).Nodup)->(cs[i]?=some (v,p))->(Chain cs mt i)->(Owns mt es none)->(es.lookup v=none)->(Alw ch mt)->(∀e∈cs,e.1∈valsM (ch.getD e.2 0))->FS1 c 1 397 [mgO ch mt es,.v (.int v),.dict (cs.map cV)] (λQ=>∀mt' es',mt'.length=mt.length->es'.length<=es.length+cs.length+2->Owns mt' es' none->Alw ch mt'->(∀q,Sat mt q->Sat mt' q)->(∃q:Nat,(∃u,(u,q)∈cs)/\mt[q]?=some none/\Sat mt' q)->(∀q,Sat mt' q->Sat mt q∨∃u,(u,q)∈cs)->Q (.v .none) [mgO ch mt' es',.v (.int v),.dict (cs.map cV)]):=
 λch mt es cs v p i hz0 nd hi hC hO hE hA hB=>.ofChk1 H (H.f 39 397 (stAt (bodyOf (stAt top 25)) 2) [122,141,18] rfl) [141,18,141,105,85,122,105,74,141,85,122,105,105,104,122,141,74,141] (w:=by
  intro Q q;obtain⟨z1,z2,z3⟩:=hz0;have il:=(ac.mp hi).1;walk_at"g";refine while3_ (cs.length+2) (some v) mt es (λ(o:Option Int) (mt:List (Option Int)) (es:List (Int×V))=>[(122,.obj 407 [21,85,104] [.v (.lst (ch.map vL)),.list (mt.map oM),.dict es]),(141,.v (oM o)),(18,.dict (cs.map cV))])
   (λm o mt1 es1 G=>1<=m->mt1.length=mt.length->Owns mt1 es1 o->Alw ch mt1->(∀q,Sat mt q->Sat mt1 q)->(∀q,Sat mt1 q->Sat mt q∨∃u,(u,q)∈cs)->es1.length+m<=es.length+cs.length+2->HNext cs mt mt1 m o->G) rfl
   (λR k=>k (bV _ _) rfl (λu hu=>hO u (λz=>nomatch z)) hA (λ_ h=>h) (λ_ h=>.inl h) (aI _) ⟨i,p,ai (bf il) 2,hi,hC,λq hq=>nos (hE.symm.trans ((hO v (λz=>nomatch z) _).mpr ⟨q,rfl,hq⟩)),λ_ h=>h⟩)
   (λm o mt1 es1 Q' h0 h1 h2 h3 h4 h7 h5 h6 hn' hr'=>?_) λo mt1 es1 h0 _ _ _ _ _ _ _=>bF 0 h0
  cases o with
  |none=>
   walk_at"g";exact q mt1 es1 h1 (a6 (an _ _) h5) h2 h3 h4 h6 h7
  |some w=>
   obtain⟨j,p',g1,g2,g3,g4,g5⟩:=h6;have k1:=lookup_cV nd g2;refine oea (chain_at g3 g2) λo' ho hno=>?_;have pl:p'<mt1.length:=(ac.mp ho).1;have k2:itemAt (mt1.map oM) (p':Int)=some (oM o'):=itemAt_nat (szMap (h1▸a6 z1 (a5 rfl))) (by simp only[ae,ho];rfl);have k3:idx? (p':Int) (mt1.map oM).length=some p':=idx_nat (by rw[a7];exact pl);have k5:=put1_len es1 w (.int p');have z5:es1.length<=202:=a6 (a6 (an _ _) h5) (ai z2 2);walk_at"g";rw[show(mt1.map oM).set p' (oM (some w))=(mt1.set p' (some w)).map oM from dt.symm];have st:=hand_step nd hB h0 g1 g2 g3 g4 g5 ho hno h2 h3 h4 h7;exact hn' o' (mt1.set p' (some w)) (put1 es1 w (.int p')) _ (λR k=>k st.1 (by rw[cW];exact h1) st.2.1 st.2.2.1 st.2.2.2.1 st.2.2.2.2.1 (a6 (ai k5 m) (by rw[aH];exact h5)) st.2.2.2.2.2) rfl)
theorem c_m_seat(H:KF c):∀(ch:List Nat) (mt:List (Option Int)) (es:List (Int×V)) (place:Nat),(ch.length=mt.length/\mt.length<=3/\es.length<=100/\∀m∈ch,1<=m/\m<16)->(Owns mt es none)->(Alw ch mt)->(mt[place]?=some none)->FS1 c 2 390 [mgO ch mt es,.v (.int place)] (λQ=>(∀mt' es',mt'.length=mt.length->es'.length<=es.length+10->Owns mt' es' none->Alw ch mt'->(∀q,Sat mt q->Sat mt' q)->Sat mt' place->(∀q,Sat mt' q->Sat mt q∨q=place)->Q (.v .none) [mgO ch mt' es',.v (.int place)])/\∀(ps:List Nat) (few:List Int),few≠[]->few.length<=4->ps.length<=5->(∀q∈ps,q<mt.length)->(∀f:Nat->Int,(∀q<mt.length,f q∈valsM (ch.getD q 0))->(∀q<mt.length,∀q'<mt.length,f q=f q'->q=q')->False)->Q (.v (.tup [.lst (vN ps),.lst (few.map .int)])) [mgO ch mt es,.v (.int place)]):=
 λch mt es place hz0 hO hA hP=>.ofChk1 H (H.f 38 390 (stAt (bodyOf (stAt top 25)) 1) [122,106] rfl) [106,18,107,66,66,0,0,107,21,122,107,66,141,141,18,107,66,18,141,141,104,122,50,5,122,141,18,5,0,107,104,122,141,66,66,107,4,0,18] (w:=by
  rintro Q ⟨q1,q2⟩;refine oaaa hz0 λz1 z2 z3 z4=>?_;have hpl:=(ac.mp hP).1;walk_at"g";refine while3_ 6 0 [] [place] (λ(k:Nat) (cs:List (Int×Nat)) (ps:List Nat)=>[(122,_),(106,_),(66,.v (.int k)),(107,.list (vN ps)),(18,.dict (cs.map cV))])
   (λm k cs ps G=>Bfs ch mt place cs ps->k<=ps.length->6<=k+m->Shut ch k cs ps->G) rfl (λR k=>k (.start hpl) (aZ _) (aI 6) λt ht=>absurd ht (bR _))
   (λm k cs ps Q' B h1 h2 h3 hn' hr'=>?_) λk cs ps B h1 h2 h3=>bF 5 (a6 (a6 h2 h1) (a6 (aJ B.len) (bj B.cl)))
  have pl5:ps.length<=5:=B.len▸bj B.cl;have bc:=B.cl;walk_at"g"
  ·rename_i hlt;rw[a7]at hlt;have hk:k<ps.length:=bq.mp hlt;have hp:ps[k]?=some ps[k]:=a8 hk;generalize ps[k]=p at *;have hpm:=(B.mem p (aF hp)).1;have f1:itemAt (vN ps) (k:Int)=some (.int p):=itemAt_nat (szMap (a6 pl5 (a5 rfl))) (by simp only[ae,hp];rfl);have f2:itemAt (ch.map vL) (p:Int)=some (vL (ch.getD p 0)):=itemAt_nat (szMap (z1▸a6 z2 (a5 rfl))) (by simp only[ae,a9,a8 (z1▸hpm)];rfl);walk_at"g";refine loop2_ V.int (λ(cs:List (Int×Nat)) (ps:List Nat)=>[(122,_),(106,_),(66,_),(107,.list (vN ps)),(18,.dict (cs.map cV))])
    (λus cs1 ps1 G=>Bfs ch mt place cs1 ps1->ps1[k]?=some p->Shut ch k cs1 ps1->(∀u∈valsM (ch.getD p 0),u∈us∨u∈cs1.map (·.1))->(∀u∈us,u∈valsM (ch.getD p 0))->G)
    (λv us cs1 ps1 Q3 B1 hp1 i3 i4 i5 hn3 hr3=>?_) (λcs1 ps1 B1 hp1 i3 i4 _=>?_) (valsM (ch.getD p 0)) cs ps λR k=>k B hp h3 (λu hu=>.inl hu) λu hu=>hu
   ·have bc1:=B1.cl;have pl1:ps1.length<=5:=B1.len▸bj bc1;have hk1:k<ps1.length:=(ac.mp hp1).1;have f3:itemAt (vN ps1) (k:Int)=some (.int p):=itemAt_nat (szMap (a6 pl1 (a5 rfl))) (by simp only[ae,hp1];rfl);have hv:=i5 v (.head _);have i5:=λu hu=>i5 u (.tail _ hu);have kc:k<=cs1.length:=bE (d9 hk1 B1.len);walk_at"g"
    ·rename_i nv no;have nv:=nt_ nv;have pn:=put1_new (x:=.int p) nv;rw[keys_cV]at nv;have arc:=B1.arcs (not_has nv) hv;rw[pn,show cs1.map cV++[(v,.int p)]=(cs1++[(v,p)]).map cV by rw[ah];rfl];have cl:(cs1++[(v,p)]).length<=5:=by rw[aa];exact bj bc1
     refine call1_ (c_m_hand H ch mt es (cs1++[(v,p)]) v p cs1.length ⟨a6 z2 (a5 rfl),a6 (bL z3 cl) (a5 rfl),a6 cl (a5 rfl)⟩ arc.1 (List.getElem?_concat_length ..) (B1.chain hP kc hp1) hO (look_none (nt_ no)) hA arc.2) (λmt' es' g1 g2 g3 g4 g5 ⟨q,⟨u,g6⟩,g7,g8⟩ g9=>?_);have qp:=B1.isp hp1 g6 g7;rw[qp]at g8;walk_at"g";apply hr3;apply hr';walk_at"g";exact q1 mt' es' g1 (a6 g2 (by rw[bh];exact ay (a6 (ai cl 2) (a5 rfl)) _)) g3 g4 g5 g8 λx hx=>(g9 x hx).elim .inl λ⟨y,hy⟩=>B1.sat hp1 hy
    ·rename_i nv no;have nv:=nt_ nv;have pn:=put1_new (x:=.int p) nv;rw[keys_cV]at nv;refine look_some (nf_ no) λx hx=>?_;obtain⟨q,rfl,hq⟩:=(hO v (λz=>nomatch z) x).mp hx;walk_at"g";rw[pn,show cs1.map cV++[(v,.int p)]=(cs1++[(v,p)]).map cV by rw[ah];rfl,vN_snoc];exact hn3 (cs1++[(v,p)]) (ps1++[q]) _ (λR k=>k (B1.add hP kc hp1 (not_has nv) hv hq) (by rw[bu,if_pos hk1];exact hp1) (i3.put hk1 _ _) (left_put i4) i5) rfl
    ·rename_i nv;rw[keys_cV]at nv;exact hn3 cs1 ps1 _ (λR k=>k B1 hp1 i3 (left_skip (ax.mp (nf_ nv)) i4) i5) rfl
   ·have hk1:k<ps1.length:=(ac.mp hp1).1;walk_at"g";exact hn' (k+1) cs1 ps1 _ (λR k=>k B1 hk1 (by rw[aH];exact h2) (i3.more hp1 i4)) rfl
  ·rename_i hge;rw[a7]at hge;have kp:ps.length<=k:=aW.mp λz=>hge (bq.mpr z);have hpc:place<ch.length:=z1▸hpl;have zz:=z4 (ch.getD place 0) (by rw[a9,a8 hpc];exact aP _);obtain⟨u,hu⟩:=List.exists_mem_of_ne_nil _ (t_vals (ch.getD place 0) zz.2 zz.1);have hu':=h3 0 (bH (cX.mpr λz=>by have:=B.head;rw[z]at this;exact nos this) kp) place B.head u hu;have hne:cs≠[]:=λz=>by rw[z]at hu';cases hu'
   have kl:((cs.map cV).map (·.1)).length=cs.length:=by rw[a7,a7]
   refine pr_ ⟨λz=>hne (cH.mp (by rw[←kl,z];rfl)),by rw[a7];exact aL bc (a5 rfl)⟩ ?_;walk_at"g";have sl:=(sortI_perm _).length_eq.trans kl;exact q2 ps (sortI ((cs.map cV).map (·.1))) (λz=>hne (cH.mp (by rw[←sl,z];rfl))) (sl▸bc) pl5 (λq hq=>(B.mem q hq).1) (λf a b=>B.stuck (λt ht=>h3 t (bH ht kp)) f a b))
theorem c_m_closed(H:KF c):∀(ch:List Nat) (mt:List (Option Int)) (es:List (Int×V)) (v:Int),(ch.length=mt.length/\mt.length<=3/\∀m∈ch,1<=m/\m<16)->(Owns mt es none)->(v∈[(0:Int),1,2,3])->FS1 c 1 404 [mgO ch mt es,.v (.int v)] (λQ=>Q (.v .none) [mgO ch mt es,.v (.int v)]/\∀(ps:List Nat) (few:List Int),few≠[]->few.length<=4->ps.length<=5->(∀q∈ps,q<mt.length)->(∀f:Nat->Int,(∀q<mt.length,f q∈valsM (ch.getD q 0))->(∀q<mt.length,∀q'<mt.length,f q=f q'->q=q')->∀q<mt.length,q∉ps->f q≠v)->(∀q:Nat,mt[q]?=some (some v)->q∈ps)->Q (.v (.tup [.lst (vN ps),.lst (few.map .int)])) [mgO ch mt es,.v (.int v)]):=
 λch mt es v hz0 hO hv=>.ofChk1 H (H.f 40 404 (stAt (bodyOf (stAt top 25)) 3) [122,141] rfl) [141,141,107,121,129,129,110,1,129,144,144,104,122,5,0,107,104,122,144,21,122,104,122,144,140,140,121,121,140,5,0,129,140,107,4,0,121] (w:=by
  rintro Q ⟨q1,q2⟩;refine oaa hz0 λz1 z2 z4=>?_;walk_at"g";refine while3_ 6 [] [v] [v] (λ(ps:List Nat) (sk st:List Int)=>[(122,_),(141,_),(129,.list (st.map .int)),(121,.dict (sk.map cT)),(107,.list (vN ps))])
   (λm ps sk st G=>∀dn,Cls ch mt v dn ps sk st [] 0->6<=dn.length+m->G) rfl (λR k=>k [] (.start hv) (aI 6))
   (λm ps sk st Q' dn B h1 hn' hr'=>?_) λps sk st dn B h1=>bF 5 (a6 h1 (bP (a6 (a6 (an _ _) (aJ B.sl.2)) B.sl.1)))
  have bl:=B.len;have bs:=B.sl;have dl:dn.length<=4:=a6 (a6 (an _ _) (aJ bs.2)) bs.1;have pl:ps.length<=4:=bl▸dl;walk_at"g";refine eqNil_ ?_;refine Or.elim (snoc_cases st) (λz_=>?_) λz_=>?_
  ·subst z_;have hne:sk≠[]:=λz=>by have:=B.vm;rw[z]at this;cases this
   have kl:((sk.map cT).map (·.1)).length=sk.length:=by rw[a7,a7]
   walk_at"g";refine pr_ ⟨λz=>hne (cH.mp (by rw[←kl,z];rfl)),by rw[a7];exact aL bs.1 (a5 rfl)⟩ ?_;walk_at"g";have sl:=(sortI_perm _).length_eq.trans kl;exact q2 ps (sortI ((sk.map cT).map (·.1))) (λz=>hne (cH.mp (by rw[←sl,z];rfl))) (sl▸bs.1) (bP pl) (λq hq=>by
    obtain⟨u,_,h⟩:=B.own q hq;exact(ac.mp h).1) (λf a b=>B.done f a b) (λq h=>B.hold (λp q hp hq=>hO.inj (λz=>nomatch z) hp hq) h)
  ·obtain⟨st,w,rfl⟩:=z_;refine(show decide (st++[w]=[])=false from decide_eq_false λz=>nomatch(List.append_eq_nil_iff.mp z).2).symm▸?_;have f0:(gu V.int (st++[w])).getLast?=some (.int w):=by rw[ah];exact cR
   have f1:(gu V.int (st++[w])).dropLast=st.map .int:=by rw[ah];exact dF
   have hst:(st++[w]).length<=4:=a6 (a6 (bV _ _) (aJ bs.2)) bs.1;walk_at"g"
   ·exact hr' _ _ q1
   ·rename_i no;refine look_some (nf_ no) λx hx=>?_;refine oea ((hO w (λz=>nomatch z) x).mp hx) λq z_ hq=>?_;subst z_;have hql:=(ac.mp hq).1;have f2:itemAt (ch.map vL) (q:Int)=some (vL (ch.getD q 0)):=itemAt_nat (szMap (z1▸a6 z2 (a5 rfl))) (by simp only[ae,a9,a8 (z1▸hql)];rfl);rw[f1];walk_at"g";rw[vN_snoc];refine loop2_ V.int (λsk st:List Int=>[(122,_),(141,_),(129,.list (st.map .int)),(121,.dict (sk.map cT)),(107,_),(144,.v (.int w))])
     (λus sk1 st1 G=>Cls ch mt v (dn++[w]) (ps++[q]) sk1 st1 us q->(∀u∈us,u∈valsM (ch.getD q 0))->G)
     (λu us sk1 st1 Q3 B1 i2 hn3 hr3=>?_) (λsk1 st1 B1 _=>?_) (valsM (ch.getD q 0)) sk st λR k=>k (B.take hq) λ_ h=>h
    ·have bs1:=B1.sl;have st4:st1.length<=4:=a6 (a6 (bV _ _) (aJ bs1.2)) bs1.1;have hu:=valsM_rg (i2 u (.head _));have i2:=λx hx=>i2 x (.tail _ hx);walk_at"g"
     ·rename_i nv;have nv:=nt_ nv;rw[put1_new nv,show sk1.map cT++[(u,.bool true)]=(sk1++[u]).map cT by rw[ah];rfl,show st1.map V.int++[.int u]=(st1++[u]).map .int by rw[ah];rfl];rw[keys_cT]at nv;exact hn3 (sk1++[u]) (st1++[u]) _ (λR k=>k (B1.put (not_has nv) hu) i2) rfl
     ·rename_i nv;rw[keys_cT]at nv;exact hn3 sk1 st1 _ (λR k=>k (B1.skip (ax.mp (nf_ nv))) i2) rfl
    ·have B2:Cls ch mt v (dn++[w]) (ps++[q]) sk1 st1 [] 0:=⟨B1.nd,B1.pnd,B1.rg,B1.perm,B1.len,B1.own,B1.has,B1.vm,λx hx u hu=>.inl ((B1.cl x hx u hu).resolve_right (λz=>nomatch z.2))⟩;walk_at"g";exact hn' (ps++[q]) sk1 st1 _ (λR k=>k (dn++[w]) B2 (by rw[aa];show 6<=dn.length+1+m;rw[aH];exact h1)) rfl)
end
theorem kinds_acc:∀(ns acc:List Int),(ns.foldl step_dedup acc).length<=acc.length+ns.length/\((ns.foldl step_dedup acc).length=acc.length+ns.length↔ns.Nodup/\∀x∈ns,x∉acc):=by
 intro ns
 induction ns with
 |nil=>intro acc;exact⟨aI _,⟨λ_=>⟨.nil,λx hx=>(aN hx).elim⟩,λ_=>rfl⟩⟩
 |cons i ns ih=>
  intro acc;simp only[cq,am];by_cases h:i∈acc
  ·rw[show step_dedup acc i=acc by unfold step_dedup;rw[if_pos (by simpa using h)]];exact⟨bP (ih acc).1,⟨λe=>absurd (ih acc).1 (by rw[e];exact bF _),λz=>absurd h (z.2 i (.head _))⟩⟩
  ·rw[show step_dedup acc i=acc++[i] by unfold step_dedup;rw[if_neg (by simpa using h)]];have:=ih (acc++[i]);simp only[aa,bn,bh,cB 1]at this;exact⟨this.1,this.2.trans ⟨λz=>⟨aE.mpr ⟨λq=>z.2 i q (bm _ (.head _)),z.1⟩,λx hx=>(aj.mp hx).elim (λe=>e▸h) λhx q=>z.2 x hx (aK _ q)⟩,
    λz=>⟨(aE.mp z.1).2,λx hx q=>(aO.mp q).elim (z.2 x (.tail _ hx)) λq=>(aE.mp z.1).1 (af.mp q▸hx)⟩⟩⟩
theorem kinds_nodup(ns:List Int):(kinds ns).length<=ns.length/\((kinds ns).length=ns.length↔ns.Nodup):=by
 have:=kinds_acc ns [];simpa[kinds]using this
theorem sol_of{s:Sto}{row:List Nat}{p:Nat->Int}(hx:∀x∈row,x<5)(hp:InD s.D p):∀q<row.length,p (row.getD q 0)∈valsM ((row.map λx=>at_ s.D x).getD q 0):=λq hq=>by
 simp only[a9,a9,ae,a8 hq];have:=hp _ (hx _ (aP hq));unfold hasM at this;simpa using this
theorem sol_inj{row:List Nat}{p:Nat->Int}(hK:KAd row p):∀q<row.length,∀q'<row.length,p (row.getD q 0)=p (row.getD q' 0)->q=q':=λq hq q' hq' e=>by
 simp only[a9,a9,a8 hq,a8 hq']at e;refine(dN (l:=row.map p) (by simpa using hq) hK).mp ?_;simp only[ae,ae,a8 hq,a8 hq'];exact congrArg some e
def Ned(n:Nat)(ch:List Nat)(mt:List (Option Int))(v:Int)(x:V):Prop:=x=.none∨∃(ps:List Nat) (few:List Int),x=.tup [.lst (vN ps),.lst (few.map .int)]/\few≠[]/\few.length<=4/\ps.length<=5/\(∀q∈ps,q<n)/\
 (∀f:Nat->Int,(∀q<n,f q∈valsM (ch.getD q 0))->(∀q<n,∀q'<n,f q=f q'->q=q')->∀q<n,q∉ps->f q≠v)/\∀q:Nat,mt[q]?=some (some v)->q∈ps
def Mates(D row:List Nat)(mt:List (Option Int)):Prop:=∀(q:Nat) (u:Int),mt[q]?=some (some u)->hasM (at_ D (row.getD q 0)) u=true
theorem rangeI_nodup(a b:Int):(rangeI a b).Nodup:=nodup_inj dT λx _ y _ e=>by lia
theorem rep_none{n q:Nat}{u:Int}:(aQ n (none:Option Int))[q]?≠some (some u):=λe=>by
 have:=aF e;rw[List.mem_replicate]at this;cases this.2
theorem not_sat{mt:List (Option Int)}{q:Nat}(h:q<mt.length)(hs:¬Sat mt q):mt[q]?=some none:=by
 rw[a8 h];cases e:mt[q]with
 |none=>rfl
 |some u=>exact absurd ⟨u,by rw[a8 h,e]⟩ hs
section
variable{c:Cx}
theorem c_adv_told(H:KF c):∀row w,FS1 c 1 434 [adO 456 row w] (λQ=>Q (.v (.tup [.str (Str.ofString "all_different"),.tup (vN row),.str (Str.ofString w)])) [adO 456 row w]):=
 λrow w=>.ofChk1 H (H.f 41 434 (stAt (bodyOf (stAt top 26)) 1) [122] rfl) [118,122,132,122] (w:=by
  intro Q q;walk_at"g";exact q)
theorem c_adv_init(H:KF c):∀(row:List Nat),(row.length<=3)->FS1 c 2 427 [.obj 456 [] [],.v (.tup (vN row))] (λQ=>Q (.v .none) [adO 456 row "values",.v (.tup (vN row))]):=
 λrow hl=>.ofSuper1 H.gd (H.s 1 427 (stAt (bodyOf (stAt top 26)) 0) [122,116] 456 rfl) (c_pinit H) rfl (SOs.cons (λ_=>rfl) (SO.of (SE.name n_row)) (SOs.cons (λ_=>rfl) (SO.ofV SV.str) SOs.nil)) (λ_=>rfl) (λ_ _=>rfl) (λ_=>⟨_,rfl⟩) (λ_=>rfl) SS.nil (by
  intro Q q;walk_at"g";refine⟨456,vN row,_,rfl,⟨rfl,rfl,rfl⟩,by simp;exact a6 ‹_› (a5 rfl),?_⟩;walk_at"g";exact q)
theorem c_AdV(H:KF c):∀(row:List Nat),(row.length<=3)->FS1 c 3 456 [.v (.tup (vN row))] (λQ=>Q (.fresh (adO 456 row "values")) [.v (.tup (vN row))]):=
 λrow h0=>.cls (H.cl 2 456 427 rfl) (c_adv_init H row h0)
theorem c_Mg(H:KF c):∀(s:Sto) (row:List Nat),(s.Ok)->(row.length<=3)->(∀x∈row,x<5)->FS1 c 3 407 [s.w,.v (.tup (vN row))] (λQ=>Q (.fresh (mgO (row.map λx=>at_ s.D x) (aQ row.length none) [])) [s.w,.v (.tup (vN row))]):=
 λs row h0 h1 h2=>.cls (H.cl 6 407 383 rfl) (c_m_init H s row h0 h1 h2)
theorem c_adv_check(H:KF c):∀(row:List Nat) (w:String) (ns:List Int),(ns.length<=3)->FS1 c 1 439 [adO 456 row w,.v (.tup (ns.map .int))] (λQ=>Q (.v (.bool (decide ns.Nodup))) [adO 456 row w,.v (.tup (ns.map .int))]):=
 λrow w ns hl=>.ofBody1 H.gd (H.f 42 439 (stAt (bodyOf (stAt top 26)) 2) [122,46] rfl) (SS.cons (SS1.ret (SE.of (SV.cmp (SO.ofV (SV.lenN (CV.builtin (v:=.builtin "len") (H.b 0 "len" rfl) rfl (by decide) rfl rfl) (SN.comp H.gd (⟨rfl,rfl,by decide,by decide,by decide,by decide⟩:CompS _ _ []) (SO.of (SE.name n_found)) (by decide) rfl rfl (λ_ _=>rfl) (by decide)) (λ_=>rfl) (λ_ _=>rfl) (λ_=>rfl))) (SO.of (SE.bi biLen (CV.builtin (v:=.builtin "len") (H.b 0 "len" rfl) rfl (by decide) rfl rfl) (λenv pos A s Q X h=>CallW.b (λ_=>rfl) (λ_ _=>rfl) env pos A s [] Q X h) (SOs.cons (λ_=>rfl) (SO.of (SE.name n_found)) SOs.nil) (λ_=>rfl))) rfl))) SS.nil) (by
  intro Q q;have hk:=kinds_nodup ns;have e:decide ns.Nodup=decide (((kinds ns).length:Int)=(ns.map V.int).length):=by
   rw[decide_eq_decide,←hk.2,a7];lia
  rw[e]at q;walk_at"g";exact q)
theorem c_adv_walls(H:KF c):∀(row:List Nat) (w:String) (s:Sto) (ps:List Nat) (few:List Int),(s.Ok)->(row.length<=3/\∀x∈row,x<5)->(ps.length<=5)->(∀q∈ps,q<row.length)->(few≠[])->(few.length<=4)->FS1 c 2 453 [adO 456 row w,s.w,.v (.lst (vN ps)),.v (.lst (few.map .int))] (λQ=>∀rs:List V,rs.length<=30->Q (.v (.tup rs)) [adO 456 row w,s.w,.v (.lst (vN ps)),.v (.lst (few.map .int))]):=
 λrow w s ps few ok hz1 hp hpr hne hfl=>.ofChk1 H (H.f 44 453 (stAt (bodyOf (stAt top 26)) 4) [122,131,107,40] rfl) [46,107,106,118,122,106,151,37,2,46,151,40,151,40,9,8,61,5,131,151,141,40,141,40,141,40,5,0,46,151,141,6,0,46] (w:=by
  intro Q q;obtain⟨hl,hx⟩:=hz1;obtain⟨a,r,ef⟩:∃a r,few=a::r:=by cases few with|nil=>exact absurd rfl hne|cons a r=>exact iee a r rfl
  obtain⟨r',b,eb⟩:∃r' b,few=r'++[b]:=(snoc_cases few).resolve_left hne|>.imp λ_ ⟨b,h⟩=>⟨b,h⟩;have f1:itemAt (few.map V.int) 0=some (.int a):=itemAt_nat (n:=0) (by simp;exact a6 (by assumption) (a5 rfl)) (by rw[ef];rfl);have f2:itemAt (few.map V.int) (-1)=some (.int b):=by rw[eb,ah];exact itemAt_last (by rw[eb]at hfl;simp at hfl⊢;exact a6 (by assumption) (a5 rfl))
  walk_at"g";refine loop_ (λx:Nat=>V.int x) (λf:List V=>[(122,_),(131,_),(107,_),(40,_),(46,.list f)]) (λus f=>(∀q∈us,q<row.length)/\f.length+6*us.length<=30) (λplace us f Q' hI hn hr=>?_) (λf hI=>?_) ps [] ⟨hpr,by simp;lia⟩
  ·clear hfl;obtain⟨i1,i2⟩:=hI;have hpl:=i1 place (by simp);rw[am]at i2;obtain⟨x,hxr⟩:∃x,row[place]?=some x:=⟨row[place],a8 hpl⟩;have hx5:=hx x (aF hxr);have f3:itemAt (vN row) (place:Int)=some (.int x):=itemAt_nat (by simp;exact a6 ‹_› (a5 rfl)) (by rw[ae,hxr];rfl);obtain⟨r1,r2⟩:=ok.atF hx5;obtain⟨⟨g1,g2⟩,g3,-⟩:=t_dm _ r2;have hvl:(valsM (at_ s.F x)).length<=4:=a6 (ak _ _) (by decide);walk_at"g";refine call1_ (c_initial H s x ok hx5) ?_;walk_at"g";refine call1_ (c_values H (dm (at_ s.F x)) g1 (by rw[g3];exact a6 ‹_› (a5 rfl))) ?_;rw[g3];walk_at"g";refine loop_ V.int (λf2:List V=>[(122,_),(131,_),(107,_),(40,_),(46,.list f2),(106,.v (.int place)),(151,.v (.int x))]) (λvs f2=>f2.length+vs.length<=f.length+6) (λv vs f2 Q'' hJ hn2 hr2=>?_) (λf2 hJ=>?_) (valsM (at_ s.F x)) (f++[.tup [.int x,.str (Str.ofString ">="),.int a],.tup [.int x,.str (Str.ofString "<="),.int b]]) (by rw[aa];exact a6 (aJ (bh _ _ _)) (ay (ay hvl 2) _))
   ·rw[am]at hJ;have fb:f2.length<=4096:=leT (a6 (a6 (an _ _) hJ) (a6 (ay (bV 6 (6*us.length)) _) i2)) rfl;walk_at"g"
    ·refine inI_ (br_ (λe1=>?_) (λe1=>?_))
     ·walk_at"g";exact hn2 (f2++[_]) _ (by rw[aa];exact a6 (aJ (aH _ 1 _)) hJ) rfl
     ·walk_at"g";exact hn2 f2 _ (bU hJ) rfl
    all_goals exact hn2 f2 _ (bU hJ) rfl
   ·rw[bo]at hJ;walk_at"g";exact hn f2 _ ⟨λq hq=>i1 q (.tail _ hq),a6 (ai hJ _) (leB2 i2 (aI 6))⟩ rfl
  ·have:=hI.2;walk_at"g";exact q f (by assumption))
theorem ned_put{n:Nat}{ch:List Nat}{mt:List (Option Int)}{es:List (Int×V)}{v:Int}{x:V}(k:∀w y,es.lookup w=some y->Ned n ch mt w y)(h:Ned n ch mt v x):∀w y,(put1 es v x).lookup w=some y->Ned n ch mt w y:=λw y e=>by
 rw[lookup_put1]at e;by_cases z:w=v
 ·rw[if_pos z]at e;simp only[z,←ab.inj e];exact h
 ·rw[if_neg z]at e;exact k w y e
theorem lookup_put1_self(es:List (Int×V))(v:Int)(x:V):(put1 es v x).lookup v=some x:=by rw[lookup_put1,if_pos rfl]
theorem k8_vals{v:Int}(h:v∈[(0:Int),1,2,3]):k8 v:=by
 simp only[aj,aN,or_false]at h;rcases h with rfl|rfl|rfl|rfl<;>exact⟨by decide,by decide⟩
theorem adv_fin{row:List Nat}{mt:List (Option Int)}{es:List (Int×V)}{D:List Nat}{p:Nat->Int}(i1:mt.length=row.length)(nd:row.Nodup)(hx:∀x∈row,x<5)(sat:∀q<row.length,Sat mt q)(i3:Owns mt es none)(j2:Mates D row mt)(hp:∀x<5,valsM (at_ D x)=[p x]):KAd row p:=by
 have key:∀q (h:q<row.length),mt[q]?=some (some (p row[q])):=λq hq=>by
  refine oe (sat q hq) λu hu=>?_;have:=j2 q u hu;unfold hasM at this;rw[a9,a8 hq]at this;have h5:=hx _ (aP hq);rw[show(some row[q]).getD 0=row[q]from rfl,hp _ h5]at this;have:u=p row[q]:=by simpa using this
  refine(this)▸?_;exact hu
 refine nodup_inj nd λx hxm y hym e=>?_;obtain⟨a,ha,rfl⟩:=cf hxm;obtain⟨b,hb,rfl⟩:=cf hym;have:=i3.inj (λz=>nomatch z) (key a ha) (by rw[e];exact key b hb);clear e;clear hym;subst this;rfl
theorem mates_ne{row:List Nat}{mt:List (Option Int)}{D D':List Nat}{place x:Nat}{v:Int}(i1:mt.length=row.length)(nd:row.Nodup)(pl:place<row.length)(hxr:row[place]?=some x)(k2:Mates D row mt)(d:at_ D x<16)(v8:k8 v)(g6:∀q:Nat,mt[q]?=some (some v)->q≠place)
 (e3:∀y,at_ D' y=if y=x then at_ D x&&&Internal.lm .ne v else at_ D y):Mates D' row mt:=λq u hu=>by
 rw[e3];split
 ·rename_i z;have hq:q<row.length:=i1▸(ac.mp hu).1;have qp:q=place:=by
   refine(dN hq nd).mp ?_;simp only[hxr,←z,a9,a8 hq];rfl
  rw[z.symm]at d⊢;exact(satM d v8).2 ⟨k2 q u hu,decide_eq_true λz=>g6 q (z▸hu) qp⟩
 ·exact k2 q u hu
theorem c_adv_prop(H:KF c):FSW c 7 (.ref 446) (λws Q=>∃(row:List Nat),(1<=row.length/\row.length<=3/\∀x∈row,x<5)/\PropF (adO 456 row "values") (KAd row) ws Q):=
 .ofChk H (H.f 43 446 (stAt (bodyOf (stAt top 26)) 3) [122,131] rfl) [63,131,20,5,122,118,122,38,5,131,20,19,131,118,122,84,5,0,0,0,118,122,106,120,5,84,106,3,3,38,5,131,145,5,122,131,3,3,93,5,0,0,0,118,122,106,21,84,106,141,141,93,23,5,84,141,93,141,93,141,106,93,141,145,5,122,131,93,141,93,141,114,133,5,131,118,122,106,141,114] (w:=by
  rintro ws Q ⟨row,⟨hl0,hl,hx⟩,s,rfl,ok,hf,q⟩;have ef:s.fl=false:=hf;walk_at"g"
  ·rename_i z;replace z:=(ef)▸z;exact ff z
  refine call1e_ (c_adv_check H row ("values") (iN row) (by simpa using hl)) (by unfold adO;rw[←vN_i]) ?_;walk_at"g"
  ·rename_i z;have nn:¬row.Nodup:=λh=>by simp[iN_nodup.mpr h]at z
   refine fail_ H (K:=KAd row) ok (.inl rfl) (by simp) (λp hp hK=>nn (nodup_map hK).1) (λs' o'=>?_);walk_at"g";exact q false s' o' (λe=>nomatch e)
  rename_i z;have nd:row.Nodup:=iN_nodup.mp (by simpa using z);clear z;refine call1_ (c_Mg H s row ok hl hx) ?_;have hch:∀m∈row.map (λx=>at_ s.D x),1<=m/\m<16:=λm hm=>by
   obtain⟨x,hxm,rfl⟩:=au.mp hm;exact ok.atD (hx x hxm)
  have hcl:(row.map λx=>at_ s.D x).length=row.length:=a7 _;have sol:=λ(p:Nat->Int) (hp:InD s.D p)=>sol_of hx hp;have mate0:∀mt:List (Option Int),Alw (row.map λx=>at_ s.D x) mt->mt.length=row.length->Mates s.D row mt:=λmt h e q u hu=>by
   have:=h q u hu;have hq:q<row.length:=e▸(ac.mp hu).1;rw[a9,ae,a8 hq]at this;rw[a9,a8 hq];unfold hasM;simpa using this
  generalize row.map (λx=>at_ s.D x)=ch at *;walk_at"g";have rl:row.length<=100:=a6 hl (a5 rfl);have hin:∀u∈rangeI 0 ((vN row).length:Int),0<=u/\u<row.length:=λu hu=>by
   have:=rangeI_mem.mp hu
   rwa[show(vN row).length=row.length from a7 _]at this
  refine loop2_ V.int (λ(mt:List (Option Int)) (es:List (Int×V))=>[(122,_),(131,_),(84,.obj 407 [21,85,104] [.v (.lst (ch.map vL)),.list (mt.map oM),.dict es])])
   (λus mt es G=>mt.length=row.length->es.length+10*us.length<=30->Owns mt es none->Alw ch mt->(∀u∈us,0<=u/\u<row.length/\¬Sat mt u.toNat)->us.Nodup->(∀q<row.length,Sat mt q∨(q:Int)∈us)->G)
   (λu us mt es Q' i1 i2 i3 i4 i5 i6 i7 hn' hr'=>?_) (λmt es i1 i2 i3 i4 _ _ i7=>?_) (rangeI 0 ((vN row).length:Int)) (aQ row.length none) [] (λR k=>k cP ?_ ?_ ?_ ?_ ?_ ?_)
  ·obtain⟨u0,u1,u2⟩:=i5 u (.head _);obtain⟨place,rfl⟩:=c6 u0;have u1:place<row.length:=bq.mp u1;have i6:=aE.mp i6;rw[am,d0,←bh]at i2;walk_at"g";refine call1_ (c_m_seat H ch mt es place (iaaa (hcl.trans i1.symm) (i1▸hl) (a6 (a6 (an _ _) (a6 (an _ _) i2)) (a5 rfl)) hch) i3 i4 (not_sat (i1▸u1) u2)) ⟨λmt' es' g1 g2 g3 g4 g5 g6 g7=>?_,λps few g1 g2 g3 g4 g5=>?_⟩
   ·unfold mgO at *;walk_at"g";refine hn' mt' es' _ (λR k=>k (g1.trans i1) (a6 (ai g2 _) (by rw[aH];exact i2)) g3 g4 (λx hx=>?_) i6.2 λx hx=>?_) rfl
    ·obtain⟨x0,x1,x2⟩:=i5 x (.tail _ hx);refine iaa x0 x1 (λz=>?_);rcases g7 _ z with z|z
     ·exact x2 z
     ·exact i6.1 (by rw[←z,bJ x0];exact hx)
    ·rcases i7 x hx with z|z
     ·exact .inl (g5 x z)
     ·rcases aj.mp z with z|z
      ·exact .inl ((bp.inj z)▸g6)
      ·exact .inr z
   ·unfold mgO at *;walk_at"g";refine call1_ (c_adv_walls H row ("values") s ps few ok ⟨hl,hx⟩ g3 (λq hq=>i1▸g4 q hq) g1 g2) (λrs hrs=>?_);walk_at"g";refine fail_ H (K:=KAd row) ok (.inl rfl) (a6 hrs (a5 rfl)) (λp hp hK=>g5 (λq=>p (row.getD q 0)) (by rw[i1];exact sol p hp) (by rw[i1];exact sol_inj hK)) (λs' o'=>?_);walk_at"g";apply hr';walk_at"g";exact q false s' o' (λe=>ff e)
  ·have sat:∀q<row.length,Sat mt q:=λq hq=>(i7 q hq).resolve_right (λz=>nomatch z);have m0:=mate0 mt i4 i1;clear i7 mate0;walk_at"g";refine loop2_ V.int (λ(s1:Sto) (es1:List (Int×V))=>[(122,_),(131,s1.w),(84,.obj 407 [21,85,104] [.v (.lst (ch.map vL)),.list (mt.map oM),.dict es]),(93,.dict es1)])
    (λus s1 es1 G=>Out (KAd row) s true s1->Mates s1.D row mt->(∀v x,es1.lookup v=some x->Ned mt.length ch mt v x)->es1.length+10*us.length<=100->(∀u∈us,0<=u/\u<row.length)->G)
    (λu us s1 es1 Q' j1 j2 j3 j4 j5 hn' hr'=>?_) (λs1 es1 j1 j2 _ _ _=>?_) (rangeI 0 ((vN row).length:Int)) s [] (λR k=>k (.refl ok hf) m0 (λv x e=>nos e) ?_ hin)
   ·obtain⟨u0,u1⟩:=j5 u (.head _);obtain⟨place,rfl⟩:=c6 u0;rw[am,d0,←bh]at j4;have pl:place<row.length:=bq.mp u1;have vl4:(valsM (ch.getD place 0)).length<=4:=a6 (ak _ _) (by decide);have e100:es1.length+10<=100:=a6 (ai (an _ _) _) j4;have f2:itemAt (ch.map vL) (place:Int)=some (vL (ch.getD place 0)):=itemAt_nat (szMap (hcl▸a6 rl (a5 rfl))) (by rw[ae,a9,a8 (hcl▸pl)];rfl);have hxr:row[place]?=some row[place]:=a8 pl;generalize row[place]=x at *;have hx5:=hx x (aF hxr);have f3:itemAt (vN row) (place:Int)=some (.int x):=itemAt_nat (szMap (a6 rl (a5 rfl))) (by rw[ae,hxr];rfl);have gx:row.getD place 0=x:=by rw[a9,hxr];rfl
    walk_at"g";refine loop2_ V.int (λ(s2:Sto) (es2:List (Int×V))=>[(122,_),(131,s2.w),(84,.obj 407 [21,85,104] [.v (.lst (ch.map vL)),.list (mt.map oM),.dict es]),(93,.dict es2),(106,.v (.int place))])
     (λvs s2 es2 G=>Out (KAd row) s true s2->Mates s2.D row mt->(∀v x,es2.lookup v=some x->Ned mt.length ch mt v x)->es2.length+vs.length<=es1.length+4->(∀v∈vs,v∈valsM (ch.getD place 0))->G)
     (λv vs s2 es2 Q3 k1 k2 k3 k4 k5 hn3 hr3=>?_) (λs2 es2 k1 k2 k3 k4 _=>?_) (valsM (ch.getD place 0)) s1 es1 (λR k=>k j1 j2 j3 (ay vl4 _) λ_ h=>h)
    ·have hv:=valsM_rg (k5 v (.head _));have v8:=k8_vals hv;have k5:=λy hy=>k5 y (.tail _ hy);have k4:es2.length+1+vs.length<=es1.length+4:=by rw[aH];exact k4
     have e2:es2.length<=100:=a6 (a6 (cb _) (a6 (an _ _) k4)) (a6 (ay (a5 rfl:4<=10) _) e100);walk_at"g"
     ·have pl1:=put1_len es2 v;refine call1_ (c_m_closed H ch mt es v ⟨hcl.trans i1.symm,i1▸hl,hch⟩ i3 hv) ⟨?_,λps few g1 g2 g3 g4 g5 g6=>?_⟩
      ·have hL:=lookup_put1_self es2 v .none;have hlen:=a6 (ai (pl1 .none) vs.length) k4;have hAll:=ned_put (v:=v) (x:=.none) k3 (.inl rfl);walk_at"g";exact hn3 s2 (put1 es2 v .none) _ (λR k=>k k1 k2 hAll hlen k5) rfl
      ·have hN:Ned mt.length ch mt v (.tup [.lst (vN ps),.lst (few.map .int)]):=.inr ⟨ps,few,rfl,g1,g2,g3,g4,g5,g6⟩;have hL:=lookup_put1_self es2 v (.tup [.lst (vN ps),.lst (few.map .int)]);have hlen:=a6 (ai (pl1 (.tup [.lst (vN ps),.lst (few.map .int)])) vs.length) k4;have hAll:=ned_put (v:=v) k3 hN;walk_at"g";generalize put1 es2 v (.tup [.lst (vN ps),.lst (few.map .int)])=es2 at *;refine inN_ (br_ (λe1=>?_) (λe1=>?_))
       ·have hp:place∉ps:=by simpa using e1
        walk_at"g";refine call1_ (c_adv_walls H row ("values") s2 ps few k1.le.ok ⟨hl,hx⟩ g3 (λq hq=>i1▸g4 q hq) g1 g2) (λrs hrs=>?_);walk_at"g";refine strike_ H (K:=KAd row) (g:=.ne) (k:=v) k1.le.ok k1.fl hx5 v8 (.inl rfl) (a6 hrs (a5 rfl)) (λp hp' hK=>?_) (λt s3 o3 e3=>?_)
        ·have:=g5 (λq=>p (row.getD q 0)) (by rw[i1];exact sol p λx hx=>k1.le.sub x hx _ (hp' x hx)) (by rw[i1];exact sol_inj hK) place (i1▸pl) hp;rw[gx]at this;exact decide_eq_true this
        cases t
        ·walk_at"g";apply hr3;apply hr';walk_at"g";exact q false s3 (k1.trans o3) (λe=>nomatch e)
        ·have m3:=mates_ne i1 nd pl hxr k2 (k1.le.ok.atD hx5).2 v8 (λq h=>λz=>hp (z▸g6 q h)) (e3 rfl);walk_at"g";exact hn3 s3 es2 _ (λR k=>k (k1.trans o3) m3 hAll hlen k5) rfl
       ·walk_at"g";exact hn3 s2 es2 _ (λR k=>k k1 k2 hAll hlen k5) rfl
     ·rename_i no;rw[has_lookup]at no;obtain⟨y,hL⟩:=bw.mp (show(es2.lookup v).isSome=true by simpa using no);have hAll:=k3;have hlen:es2.length+vs.length<=es1.length+4:=a6 (ai (cb _) _) k4;rcases k3 v y hL with ey|⟨ps,few,ey,g1,g2,g3,g4,g5,g6⟩
      ·rw[ey]at hL;walk_at"g";exact hn3 s2 es2 _ (λR k=>k k1 k2 hAll hlen k5) rfl
      ·rw[ey]at hL;walk_at"g";refine inN_ (br_ (λe1=>?_) (λe1=>?_))
       ·have hp:place∉ps:=by simpa using e1
        walk_at"g";refine call1_ (c_adv_walls H row ("values") s2 ps few k1.le.ok ⟨hl,hx⟩ g3 (λq hq=>i1▸g4 q hq) g1 g2) (λrs hrs=>?_);walk_at"g";refine strike_ H (K:=KAd row) (g:=.ne) (k:=v) k1.le.ok k1.fl hx5 v8 (.inl rfl) (a6 hrs (a5 rfl)) (λp hp' hK=>?_) (λt s3 o3 e3=>?_)
        ·have:=g5 (λq=>p (row.getD q 0)) (by rw[i1];exact sol p λx hx=>k1.le.sub x hx _ (hp' x hx)) (by rw[i1];exact sol_inj hK) place (i1▸pl) hp;rw[gx]at this;exact decide_eq_true this
        cases t
        ·walk_at"g";apply hr3;apply hr';walk_at"g";exact q false s3 (k1.trans o3) (λe=>nomatch e)
        ·have m3:=mates_ne i1 nd pl hxr k2 (k1.le.ok.atD hx5).2 v8 (λq h=>λz=>hp (z▸g6 q h)) (e3 rfl);walk_at"g";exact hn3 s3 es2 _ (λR k=>k (k1.trans o3) m3 hAll hlen k5) rfl
       ·walk_at"g";exact hn3 s2 es2 _ (λR k=>k k1 k2 hAll hlen k5) rfl
    ·walk_at"g";exact hn' s2 es2 _ (λR k=>k k1 k2 k3 (a6 (ai (a6 k4 (ay (a5 rfl:4<=10) _)) _) (by rw[aH];exact j4)) λy hy=>j5 y (.tail _ hy)) rfl
   ·walk_at"g";refine q true s1 j1 (λ_ p hp=>?_);exact adv_fin i1 nd hx sat i3 j2 hp
   ·show 0+10*(rangeI 0 ((vN row).length:Int)).length<=100;rw[rangeI_len,dQ,c4,a7,bB];exact a6 (aU 10 hl) (a5 rfl)
  ·show 0+10*(rangeI 0 ((vN row).length:Int)).length<=30;rw[rangeI_len,dQ,c4,a7,bB];exact aU 10 hl
  ·exact λv _ x=>⟨λe=>nos e,λ⟨q,_,e⟩=>absurd e rep_none⟩
  ·exact λq u e=>absurd e rep_none
  ·exact λu hu=>⟨(hin u hu).1,(hin u hu).2,λ⟨w,e⟩=>absurd e rep_none⟩
  ·exact rangeI_nodup _ _
  ·exact λq hq=>.inr (rangeI_mem.mpr ⟨aX q,by rw[a7];exact bq.mpr hq⟩))
end
theorem ansB_congr{α:Type}{n:Nat}{f g:Nat->Nat->Bool}(h:∀i<n,∀j<n,f i j=g i j):∀t:KasT α,KasT.ansB n f t=KasT.ansB n g t
 |.ret a=>rfl
 |.ask i j k=>by
  simp only[ansB_c,ansB_c];split
  ·rename_i hij;rw[h i hij.1 j hij.2];exact ansB_congr h (k (g i j))
  ·rfl
noncomputable def six(a b c d e f:Bool)(i j:Nat):Bool:=match i,j with
 |0,1=>a|1,0=>b|0,2=>c|2,0=>d|1,2=>e|2,1=>f|_,_=>false
noncomputable def okF(n:Nat)(f:Nat->Nat->Bool):Bool:=(ao n).all λi=>(ao n).all λj=>(!(f i j&&f j i))&&(ao n).all λk=>!f i j||f i k||f k j
noncomputable def okP(n:Nat)(f:Nat->Nat->Bool)(p:List Nat):Bool:=decide (p.length=n)&&(ao n).all (λi=>p.contains i)&&p.all (λi=>decide (i<n))&&(ao n).all λa=>(ao a).all λb=>!f (p.getD a 0) (p.getD b 0)
noncomputable def okA(n:Nat)(f:Nat->Nat->Bool):Bool:=match KasT.ansB n f (kas_sort n)with
 |some p=>okP n f p.toList
 |none=>false
theorem t_sort:∀a b c d e f:Bool,okF 3 (six a b c d e f)=true->okA 3 (six a b c d e f)=true:=by decide+kernel
theorem t_sort2:∀a b c d e f:Bool,okF 2 (six a b c d e f)=true->okA 2 (six a b c d e f)=true:=by decide+kernel
noncomputable def t3(x:Int×Int×Int):List Int:=[x.1,x.2.1,x.2.2]
theorem lex3(x y:Int×Int×Int):lexLt (t3 x) (t3 y)=decide (x.1<y.1∨x.1=y.1/\(x.2.1<y.2.1∨x.2.1=y.2.1/\x.2.2<y.2.2)):=by
 obtain⟨a,b,c⟩:=x;obtain⟨d,e,f⟩:=y;simp only[lexLt,t3,cD,List.zip_nil_right,lexGo_c,lexGo_n,am,bo,beq_iff_eq];by_cases h1:a=d
 ·by_cases h2:b=e
  ·by_cases h3:c=f
   ·subst h1 h2 h3;simp
   ·subst h1 h2;simp[h3]
  ·subst h1;simp[h2]
 ·simp[h1]
theorem all_range{n:Nat}{P:Nat->Bool}:(ao n).all P=true↔∀i<n,P i=true:=by simp[aA]
theorem lxA{a b:Int}{P Q:Prop}(h:P->¬Q)(h1:a<b∨a=b/\P)(h2:b<a∨b=a/\Q):False:=by
 rcases fU a b with z|z|z
 ·rcases h2 with q|q
  ·exact eU z q
  ·exact dR z q.1.symm
 ·rcases h1 with p|p
  ·exact dR p z
  ·rcases h2 with q|q
   ·exact dR q z.symm
   ·exact h p.2 q.2
 ·rcases h1 with p|p
  ·exact eU z p
  ·exact dR z p.1.symm
theorem lxT{a b c:Int}{P Q R:Prop}(h:P->Q∨R)(h1:a<b∨a=b/\P):(a<c∨a=c/\Q)∨(c<b∨c=b/\R):=by
 rcases fU a c with z|z|z
 ·exact .inl (.inl z)
 ·rcases h1 with p|p
  ·exact .inr (.inl (z▸p))
  ·rcases h p.2 with q|q
   ·exact .inl (.inr ⟨z,q⟩)
   ·exact .inr (.inr ⟨z▸p.1,q⟩)
 ·exact .inr (.inl (fN z (h1.elim cn λp=>eV p.1)))
theorem nAA{P Q:Prop}(h:P->Q->False):¬P∨¬Q:=(Classical.em P).elim (λp=>.inr (h p)) .inl
theorem nAO{P Q R:Prop}(h:P->Q∨R):(¬P∨Q)∨R:=(Classical.em P).elim (λp=>(h p).elim (λq=>.inl (.inr q)) .inr) λp=>.inl (.inl p)
theorem lxI{a b c:Int}(h:a<b):a<c∨c<b:=(Int.lt_or_le a c).imp_right λz=>bY z h
theorem lt3{i n:Nat}(h:i<n)(hn:n<=3):i=0∨i=1∨i=2:=by lia
theorem okF_of{n:Nat}{xs:List (Int×Int×Int)}(hn:xs.length=n):okF n (λi j=>lexLt ((xs.map t3).getD i []) ((xs.map t3).getD j []))=true:=by
 have g:∀i<n,∃x,(xs.map t3).getD i []=t3 x:=λi hi=>⟨xs[i],by simp only[a9,ae,a8 (hn.symm▸hi)];rfl⟩;unfold okF;rw[all_range];intro i hi;rw[all_range];intro j hj;refine oe (g i hi) λx ex=>?_;obtain⟨y,ey⟩:=g j hj;rw[aB,all_range];refine⟨?_,λk hk=>?_⟩
 ·dsimp only;simp only[ex,ey,lex3,lex3];simp only[bO,Bool.and_eq_false_iff,decide_eq_false_iff_not];exact nAA (lxA (lxA eU))
 ·refine oe (g k hk) λz ez=>?_;dsimp only;simp only[ex,ey,ez,lex3,lex3,lex3];simp only[e7,bO,decide_eq_true_eq,decide_eq_false_iff_not];exact nAO (lxT (lxT lxI))
theorem sort3{xs:List (Int×Int×Int)}(h0:1<=xs.length)(hl:xs.length<=3):∃out:List (Int×Int×Int),sortP (xs.map t3)=some (out.map t3)/\out.length=xs.length/\(∀x,x∈out↔x∈xs)/\out.Pairwise λx y=>x.1<=y.1:=by
 by_cases h1:xs.length=1
 ·refine ieaaa xs (by unfold sortP;rw[if_pos (by simpa using h1)]) rfl (λ_=>.rfl) ?_;obtain⟨a,rfl⟩:=eM.mp h1;exact eH _ _
 have hF:=okF_of (xs:=xs) rfl;generalize hf:(λi j=>lexLt ((xs.map t3).getD i []) ((xs.map t3).getD j []))=f at *;have rfl':∀i<xs.length,f i i=false:=λi hi=>by
  have:=all_range.mp (all_range.mp hF i hi) i hi;rw[aB]at this;simpa using this.1
 obtain⟨g,agree,hg⟩:∃g:Nat->Nat->Bool,(∀i<xs.length,∀j<xs.length,f i j=g i j)/\okA xs.length g=true:=by
  have agree:∀i<xs.length,∀j<xs.length,f i j=six (f 0 1) (f 1 0) (f 0 2) (f 2 0) (f 1 2) (f 2 1) i j:=λi hi j hj=>by
   by_cases e:i=j
   ·subst e;refine(rfl' i hi)▸?_;have:=lt3 hi hl;rcases this with rfl|rfl|rfl<;>rfl
   ·have hi':=lt3 hi hl;have hj':=lt3 hj hl;rcases hi' with rfl|rfl|rfl<;>rcases hj' with rfl|rfl|rfl<;>first|rfl|exact absurd rfl e
  refine iea _ agree ?_;have cF:okF xs.length (six (f 0 1) (f 1 0) (f 0 2) (f 2 0) (f 1 2) (f 2 1))=true:=by
   unfold okF at hF⊢;rw[all_range]at hF⊢;intro i hi;have h:=hF i hi;rw[all_range]at h⊢;intro j hj;have h:=h j hj;simp only[aB,all_range]at h⊢;refine⟨by simp only[←agree i hi j hj,←agree j hj i hi];exact h.1,λk hk=>by simp only[←agree i hi j hj,←agree i hi k hk,←agree k hk j hj];exact h.2 k hk⟩
  have:xs.length=2∨xs.length=3:=by lia
  rcases this with e|e
  ·rw[e]at cF⊢;exact t_sort2 _ _ _ _ _ _ cF
  ·rw[e]at cF⊢;exact t_sort _ _ _ _ _ _ cF
 unfold okA at hg;rw[←ansB_congr agree]at hg;cases ea:KasT.ansB xs.length f (kas_sort xs.length)with
 |none=>replace hg:=(ea)▸hg;exact ff hg
 |some p=>
  rw[ea]at hg;have hg:okP xs.length g p.toList=true:=hg;unfold okP at hg;simp only[aB,decide_eq_true_eq]at hg;obtain⟨⟨⟨p1,p2⟩,p3⟩,p4⟩:=hg;generalize hp:p.toList=l at *;have p2:=all_range.mp p2;simp only[aA]at p3;have lt:∀i∈l,i<xs.length:=λi hi=>by simpa using p3 i hi
  refine ieaaa (l.map (λi=>xs.getD i (0,0,0))) ?_ (by simpa using p1) (λx=>?_) ?_
  ·unfold sortP;rw[if_neg (by simpa using h1),if_pos (by simp;lia),a7,hf,ea];show(if p.toList.all (·<xs.length)=true then some (p.toList.map ((xs.map t3).getD · []))else none)=_;rw[hp,if_pos (by simp only[aA];exact p3),av];refine congrArg some (c8 λi hi=>?_);have:=lt i hi;simp only[Function.comp_apply,a9,ae,a8 this];rfl
  ·rw[au];constructor
   ·rintro⟨i,hi,rfl⟩;rw[a9,a8 (lt i hi)];exact aP _
   ·intro hx;obtain⟨i,hi,rfl⟩:=cf hx;exact iea i (ax.mp (p2 i hi)) (by rw[a9,a8 hi];rfl)
  ·rw[List.pairwise_map,c9];intro b a hb ha hba;have h:=all_range.mp (all_range.mp p4 a (d9 ‹_› ‹_›)) b hba;simp only[a9,a9,a8 ha,a8 hb]at h;simp only[cN]at h;have la:=lt _ (aP ha);have lb:=lt _ (aP hb);rw[←agree _ la _ lb,←hf]at h;simp only[a9,ae,a8 la,a8 lb,dS,cN]at h⊢;rw[lex3]at h;simp only[bO,decide_eq_false_iff_not]at h;exact bD.mp λq=>h (.inl q)
noncomputable def nvO(tk:List Nat)(n:Nat):MW:=.obj 583 [96,118,132,136,91] [.v (.int (-1)),.v (.tup (vN (tk++[n]))),.v (.str (Str.ofString "weak")),.v (.tup (vN tk)),.v (.int n)]
def KNv(tk:List Nat)(n:Nat)(p:Nat->Int):Prop:=((kinds (tk.map p)).length:Int)=p n
theorem kinds_facts:∀(ns acc:List Int),acc.Nodup->(ns.foldl step_dedup acc).Nodup/\∀v,v∈ns.foldl step_dedup acc↔v∈acc∨v∈ns:=by
 intro ns
 induction ns with
 |nil=>intro acc h;exact⟨h,λv=>⟨.inl,λz=>z.elim id λz=>(aN z).elim⟩⟩
 |cons i ns ih=>
  intro acc h;rw[cq];by_cases e:i∈acc
  ·rw[show step_dedup acc i=acc by unfold step_dedup;rw[if_pos (by simpa using e)]];exact⟨(ih acc h).1,λv=>((ih acc h).2 v).trans ⟨λz=>z.imp_right (.tail _),λz=>z.elim .inl λz=>(aj.mp z).elim (λq=>.inl (q▸e)) .inr⟩⟩
  ·rw[show step_dedup acc i=acc++[i] by unfold step_dedup;rw[if_neg (by simpa using e)]];have a:=ih (acc++[i]) (bN.mpr ⟨h,aE.mpr ⟨aN,.nil⟩,λx hx y hy q=>e ((af.mp hy▸q)▸hx)⟩);exact⟨a.1,λv=>(a.2 v).trans ⟨λz=>z.elim (λz=>(aO.mp z).imp_right λq=>(show v=i from af.mp q)▸.head _) λz=>.inr (.tail _ z),λz=>z.elim (λz=>.inl (aK _ z)) λz=>(aj.mp z).elim (λq=>.inl (bm _ ((show v=i from q)▸.head _))) .inr⟩⟩
theorem kinds_mem{ns:List Int}:(kinds ns).Nodup/\∀v,v∈kinds ns↔v∈ns:=by
 have:=kinds_facts ns [] .nil;simpa[kinds]using this
section
variable{c:Cx}
theorem c_nv_told(H:KF c):∀tk n,FS1 c 1 580 [nvO tk n] (λQ=>Q (.v (.tup [.str (Str.ofString "nvalue"),.tup (vN tk),.int n])) [nvO tk n]):=
 λtk n=>.ofChk1 H (H.f 57 580 (stAt (bodyOf (stAt top 30)) 8) [122] rfl) [136,122,91,122] (w:=by
  intro Q q;walk_at"g";exact q)
theorem c_nv_init(H:KF c):∀(tk:List Nat) (n:Nat),(tk.length<=3)->FS1 c 2 528 [.obj 583 [] [],.v (.tup (vN tk)),.v (.int n)] (λQ=>Q (.v .none) [nvO tk n,.v (.tup (vN tk)),.v (.int n)]):=
 λtk n hl=>.ofSuper1 H.gd (H.s 3 528 (stAt (bodyOf (stAt top 30)) 0) [122,136,91] 583 rfl) (c_pinit H) rfl (SOs.cons (λ_=>rfl) (SO.of (SE.bin (SO.of (SE.bi biTuple (CV.builtin (v:=.type "tuple") (H.b 6 "tuple" rfl) rfl (by decide) rfl rfl) (λenv pos A s Q _ h=>CallW.t (λ_=>rfl) (λ_ _=>rfl) env pos A s Q h) (SOs.cons (λ_=>rfl) (SO.of (SE.name n_taken)) SOs.nil) (λ_=>rfl))) (SO.ofV (SV.tuple (SVs.cons (λ_=>rfl) (SV.of (SE.name n_n)) SVs.nil) (by decide))))) (SOs.cons (λ_=>rfl) (SO.ofV SV.str) SOs.nil)) (λ_=>rfl) (λ_ _=>rfl) (λ_=>⟨_,rfl⟩) (λ_=>rfl) (SS.cons (SS1.asgA H.ka (SE.bi biTuple (CV.builtin (v:=.type "tuple") (H.b 6 "tuple" rfl) rfl (by decide) rfl rfl) (λenv pos A s Q _ h=>CallW.t (λ_=>rfl) (λ_ _=>rfl) env pos A s Q h) (SOs.cons (λ_=>rfl) (SO.of (SE.name n_taken)) SOs.nil) (λ_=>rfl)) (SE.name n_self) n_taken (λ_=>rfl) (λ_=>rfl)) (SS.cons (SS1.asgA H.ka (SE.name n_n) (SE.name n_self) n_n (λ_=>rfl) (λ_=>rfl)) SS.nil)) (by
  intro Q q;unfold nvO at *;walk_at"g";refine⟨583,vN tk++[.int n],_,rfl,⟨by decide,by decide,by decide⟩,by simp;exact a6 ‹_› (a5 rfl),?_⟩;walk_at"g";simp only[ah,aD,ca]at q;exact q)
theorem c_Nv(H:KF c):∀(tk:List Nat) (n:Nat),(tk.length<=3)->FS1 c 3 583 [.v (.tup (vN tk)),.v (.int n)] (λQ=>Q (.fresh (nvO tk n)) [.v (.tup (vN tk)),.v (.int n)]):=
 λtk n h0=>.cls (H.cl 4 583 528 rfl) (c_nv_init H tk n h0)
theorem c_nv_check(H:KF c):∀(tk:List Nat) (n:Nat) (ns:List Int) (m:Int),(ns.length<=3)->FS1 c 1 573 [nvO tk n,.v (.tup ((ns++[m]).map .int))] (λQ=>Q (.v (.bool (decide (((kinds ns).length:Int)=m)))) [nvO tk n,.v (.tup ((ns++[m]).map .int))]):=
 λtk n ns m hl=>.ofChk1 H (H.f 56 573 (stAt (bodyOf (stAt top 30)) 7) [122,97] rfl) [121,97,141,141,121,5,0,121,141,0,0,121,97] (w:=by
  intro Q q;simp only[ah,aD,ca]at q⊢;walk_at"g";refine pr_ ⟨by decide,by simp⟩ ?_;walk_at"g";have e:(ns.map V.int++[V.int m]).take (cut (-1) (ns.map V.int++[V.int m]).length)=ns.map V.int:=by simp[cut]
  rw[e];walk_at"g";refine loop_ V.int (λl:List Int=>[(122,_),(97,_),(121,.list (l.map .int))]) (λvs l=>vs.foldl step_dedup l=kinds ns/\l.length+vs.length<=3) (λv vs l Q' hI hn hr=>?_) (λl hI=>?_) ns [] ⟨rfl,by simpa using hl⟩
  ·obtain⟨i1,i2⟩:=hI;rw[am]at i2;rw[cq]at i1;walk_at"g";refine inI_ (br_ (λe1=>?_) (λe1=>?_))
   ·have h:v∉l:=by simpa using e1
    walk_at"g";refine hn (l++[v]) _ ⟨?_,by simp;lia⟩ (by rw[ah];rfl);rw[←i1];unfold step_dedup;rw[if_neg (by simpa using h)]
   ·have h:v∈l:=by simpa using e1
    walk_at"g";refine hn l _ ⟨?_,a6 (bf ‹_›) (a5 rfl)⟩ rfl;rw[←i1];unfold step_dedup;rw[if_pos (by simpa using h)]
  ·have i1:l=kinds ns:=hI.1;have i2:=hI.2;rw[bo]at i2;walk_at"g";rw[a7,i1];exact q)
noncomputable def ltV(D:List Nat)(x:Nat):V:=.tup [.int x,.str (Str.ofString "="),.int (lowM (at_ D x))]
noncomputable def fxs(D tk:List Nat):List Nat:=tk.filter λx=>fixM (at_ D x)
theorem c_nv_fixed(H:KF c):∀(s:Sto) (tk:List Nat) (n:Nat),(s.Ok)->(tk.length<=3)->(∀x∈tk,x<5)->FS1 c 2 547 [nvO tk n,s.w] (λQ=>∀fs:List Nat,(∀x∈fs,x∈tk)->(fs.map λx=>lowM (at_ s.D x))=kinds ((fxs s.D tk).map λx=>lowM (at_ s.D x))->(fxs s.D tk).length<=3->fs.length<=(fxs s.D tk).length->Q (.v (.tup [.lst ((fxs s.D tk).map (ltV s.D)),.lst (fs.map (ltV s.D)),.int ((tk.length:Int)-(fxs s.D tk).length+fs.length)])) [nvO tk n,s.w]):=
 λs tk n ok hl hx=>.ofChk1 H (H.f 52 547 (stAt (bodyOf (stAt top 30)) 3) [122,131] rfl) [44,43,121,136,122,151,64,5,131,151,5,0,44,151,142,5,131,151,142,5,131,151,121,5,0,121,142,5,131,151,5,0,43,151,142,5,131,151,44,43,0,0,136,122,0,0,44,0,0,43] (w:=by
  intro Q q;have hfl:(fxs s.D tk).length<=tk.length:=ak _ _;walk_at"g";refine loop2_ (λx:Nat=>V.int x) (λfx fs:List Nat=>[(122,_),(131,_),(121,.list ((fs.map λx=>lowM (at_ s.D x)).map .int)),(43,.list (fs.map (ltV s.D))),(44,.list (fx.map (ltV s.D)))])
   (λus fx fs G=>fx++fxs s.D us=fxs s.D tk->((fxs s.D us).map λx=>lowM (at_ s.D x)).foldl step_dedup (fs.map λx=>lowM (at_ s.D x))=kinds ((fxs s.D tk).map λx=>lowM (at_ s.D x))->(∀x∈us,x∈tk)->(∀x∈fs,x∈tk)->fs.length<=fx.length->fx.length+us.length<=3->G)
   (λx us fx fs Q' i1 i2 i3 i4 i5 i6 hn hr=>?_) (λfx fs i1 i2 _ i4 i5 i6=>?_) tk [] [] (λR k=>k rfl rfl (λ_ h=>h) (λ_ h=>(nomatch h)) (aI 0) (by rw[bo,bB];exact hl))
  ·have hxm:=i3 x (.head _);have hx5:=hx x hxm;have i3:=λy hy=>i3 y (.tail _ hy);have i6:fx.length+1+us.length<=3:=by rw[aH];exact i6
   have l3:fx.length<=3:=a6 (a6 (cb _) (an _ _)) i6;have l4:fs.length<=3:=a6 i5 l3;walk_at"g";refine call1_ (c_is_fixed H s x ok hx5) ?_;refine br_ (λe1=>?_) (λe1=>?_)
   ·have e2:fxs s.D (x::us)=x::fxs s.D us:=dk e1;rw[e2]at i1 i2;rw[aD,cq]at i2;have n1:(fx++[x])++fxs s.D us=fxs s.D tk:=by rw[bg];exact i1
    walk_at"g";refine call1_ (c_value H s x ok hx5) ?_;walk_at"g";refine call1_ (c_value H s x ok hx5) ?_;walk_at"g";refine inI_ (br_ (λe3=>?_) (λe3=>?_))
    ·walk_at"g";refine call1_ (c_value H s x ok hx5) ?_;walk_at"g";refine call1_ (c_value H s x ok hx5) ?_;walk_at"g";refine hn (fx++[x]) (fs++[x]) _ (λR k=>k n1 ?_ i3 (λy hy=>(aO.mp hy).elim (i4 y) λh=>af.mp h▸hxm) (by rw[aa,aa];exact ai i5 1) (by rw[aa];exact i6)) (by rw[ah,ah,ah,ah];rfl);rw[ah,aD,ca,←i2];congr 1;unfold step_dedup;rw[if_neg (by rw[List.any_beq'];simpa using e3)]
    ·walk_at"g";refine hn (fx++[x]) fs _ (λR k=>k n1 ?_ i3 i4 (by rw[aa];exact bP i5) (by rw[aa];exact i6)) (by rw[ah];rfl);rw[←i2];congr 1;unfold step_dedup;rw[if_pos (by rw[List.any_beq'];simpa using e3)]
   ·have e2:fxs s.D (x::us)=fxs s.D us:=dp (λz=>by rw[z]at e1;exact ff e1.symm);rw[e2]at i1 i2;walk_at"g";exact hn fx fs _ (λR k=>k i1 i2 i3 i4 i5 (a6 (ai (cb _) _) i6)) rfl
  ·have i1:fx=fxs s.D tk:=by rw[←i1];exact(aM fx).symm
   subst i1;walk_at"g";simp only[a7];exact q fs i4 i2 i6 i5)
end
theorem t_or:∀m<16,∀n<16,∀v:Nat,v<4->(hasM m v=true∨hasM n v=true↔hasM (m|||n) v=true)/\m|||n<16:=by decide+kernel
theorem hasOr{m n:Nat}{v:Int}(hm:m<16)(hn:n<16)(h:hasM m v=true∨hasM n v=true):hasM (m|||n) v=true:=by
 obtain⟨j,hj,rfl⟩:∃j:Nat,j<4/\v=j:=h.elim hasM_rg hasM_rg;exact(t_or m hm n hn j hj).1.mp h
theorem nv_most{s:Sto}{tk:List Nat}{p:Nat->Int}(ok:s.Ok)(hx:∀x∈tk,x<5)(hp:InD s.D p):(∀x∈fxs s.D tk,p x=lowM (at_ s.D x))/\((kinds (tk.map p)).length:Int)<=(tk.length:Int)-(fxs s.D tk).length+(kinds ((fxs s.D tk).map λx=>lowM (at_ s.D x))).length:=by
 have fx:∀x∈fxs s.D tk,p x=lowM (at_ s.D x):=λx hxf=>by
  obtain⟨h1,h2⟩:=aq.mp hxf;obtain⟨r1,r2⟩:=ok.atD (hx x h1);have hl:=t_lh3 _ r2 r1;refine oea (hasM_rg hl.2.2) λw hw e=>?_;have:=fixV (m:=at_ s.D x) (v:=w) r2 hw (by rw[h2];simp[e]) (hp x (hx x h1));simp only[this,e]
 refine⟨fx,?_⟩;have sub:=len_sub (kinds_mem (ns:=tk.map p)).1 (m:=(tk.filter λx=>!fixM (at_ s.D x)).map p++kinds ((fxs s.D tk).map λx=>lowM (at_ s.D x))) λv hv=>by
  refine oea (au.mp (kinds_mem.2 v|>.mp hv)) λx hxm z_=>?_;refine z_▸?_;rw[aO];cases hf:fixM (at_ s.D x)with
  |true=>
   right
   refine(kinds_mem.2 _).mpr (au.mpr ⟨x,aq.mpr ⟨hxm,hf⟩,(fx x (aq.mpr ⟨hxm,hf⟩)).symm⟩)
  |false=>exact .inl (c7 (aq.mpr ⟨hxm,by simp[hf]⟩))
 rw[aa,a7]at sub;have h1:=bS (λx=>fixM (at_ s.D x)) (l:=tk);simp only[aV,aV]at h1;have e:tk.filter (λx=>!fixM (at_ s.D x))=tk.filter (λx=>decide ¬fixM (at_ s.D x)=true):=cJ λx _=>by cases fixM (at_ s.D x)<;>rfl
 rw[e]at sub;unfold fxs at *;lia
section
variable{c:Cx}
theorem c_nv_above(H:KF c):∀(s:Sto) (tk:List Nat) (n:Nat),(s.Ok)->(s.fl=false)->(tk.length<=3)->(∀x∈tk,x<5)->(n<5)->FS1 c 6 554 [nvO tk n,s.w] (λQ=>∀t s',Out (KNv tk n) s t s'->(t=true->∀v,hasM (at_ s'.D n) v=true->v<=(tk.length:Int)-(fxs s.D tk).length+(kinds ((fxs s.D tk).map λx=>lowM (at_ s.D x))).length)->Q (.v (.bool t)) [nvO tk n,s'.w]):=
 λs tk n ok hf hl hx hn=>.ofChk1 H (H.f 53 554 (stAt (bodyOf (stAt top 30)) 4) [122,131] rfl) [45,5,122,131,44,43,88,36,114,136,122,151,14,13,36,29,5,131,151,36,37,2,114,22,21,151,29,5,131,151,133,5,131,91,122,88,44,133,5,131,91,122,5,5,36,114] (w:=by
  intro Q q;walk_at"g";refine call1_ (c_nv_fixed H s tk n ok hl hx) (λfs g1 g2 g3 g4=>?_);rw[←g2,a7]at q;walk_at"g";refine loop_ (λx:Nat=>V.int x) (λa:Nat×List V=>[(122,_),(131,_),(44,_),(43,_),(88,_),(114,.list a.2),(36,.v (wD a.1))])
   (λus a=>a.1<16/\(∀x∈us,x∈tk)/\(∀x∈tk,x∈us∨∀v,hasM (at_ s.D x) v=true->hasM a.1 v=true)/\a.2.length+20*us.length<=60)
   (λx us a Q' hI hn' hr'=>?_) (λa hI=>?_) tk (0,[]) (iaaa (by decide) (λ_ h=>h) (λx h=>.inl h) (a6 (aJ (bB _)) (aU 20 hl)))
  ·obtain⟨m,rs⟩:=a;obtain⟨i1,i2,i3,i4⟩:=hI;dsimp only at *;simp only[am]at i4;have hx5:=hx x (i2 x (by simp));obtain⟨r1,r2⟩:=ok.atD hx5;walk_at"g";refine call1_ (c_dom H s x ok hx5) ?_;walk_at"g";refine call1_ (c_join H m (at_ s.D x) i1 r1 r2) ?_;walk_at"g";refine call1_ (c_dom H s x ok hx5) ?_;walk_at"g";refine call1_ (c_standing H x (at_ s.D x) r1 r2) (λst hst=>?_);have rl:rs.length+st.length<=8192:=leB i4 hst rfl;walk_at"g";refine hn' (m|||at_ s.D x,rs++st) _ (iaaa ((t_or m i1 _ r2 0 (by decide)).2) (λy hy=>i2 y (by simp[hy])) (λy hy=>?_) (by show(rs++st).length+20*us.length<=60;rw[aa];exact leB2 i4 hst)) rfl;rcases i3 y hy with h|h
   ·rcases aj.mp h with h|h
    ·right;intro v hv;rw[h]at hv;exact hasOr i1 r2 (.inr hv)
    ·exact .inl h
   ·right;intro v hv;exact hasOr i1 r2 (.inl (h v hv))
  ·obtain⟨m,rs⟩:=a;obtain⟨i1,i2,i3,i4⟩:=hI;dsimp only at *;rw[bo]at i4;have fl:(fxs s.D tk).length<=tk.length:=ak _ _;have hm:∀p,InD s.D p->KNv tk n p->p n<=(tk.length:Int)-(fxs s.D tk).length+fs.length:=λp hp hK=>by
    have:=(nv_most ok hx hp).2;rw[←g2,a7]at this;unfold KNv at hK;lia
   have kk:k8 ((tk.length:Int)-(fxs s.D tk).length+fs.length):=⟨by lia,by lia⟩;walk_at"g";refine strike_ H (K:=KNv tk n) (g:=.le) (k:=(tk.length:Int)-(fxs s.D tk).length+fs.length) ok hf hn kk (.inr rfl) (by simp;lia) (λp hp hK=>by exact decide_eq_true<|hm p hp hK) (λt s1 o1 e1=>?_);cases t
   ·walk_at"g";exact q false s1 o1 (λe=>nomatch e)
   have e1:=e1 rfl;walk_at"g";obtain⟨⟨h1,h2⟩,-,h4⟩:=t_dm m i1;refine call1_ (c_size H _ (dm_len i1) h1) ?_;rw[h4];have v4:(valsM m).length<=4:=a6 (ak _ _) (by decide);walk_at"g";refine strike_ H (K:=KNv tk n) (g:=.le) (k:=(valsM m).length) (rs:=rs) o1.le.ok o1.fl hn ⟨aG (by decide) (aX _),bv.mpr v4⟩ (.inr rfl) (by lia) (λp hp hK=>?_) (λt s2 o2 e2=>?_)
   ·have sub:=len_sub (kinds_mem (ns:=tk.map p)).1 (m:=valsM m) λv hv=>by
     obtain⟨x,hxm,rfl⟩:=au.mp (kinds_mem.2 v|>.mp hv);have:=(i3 x hxm).resolve_left (λz=>nomatch z) _ (o1.le.sub x (hx x hxm) _ (hp x (hx x hxm)));unfold hasM at this;simpa using this
    unfold KNv at hK;refine decide_eq_true ?_;lia
   walk_at"g";refine q t s2 (o1.trans o2) (λe v hv=>?_);have:=o2.le.sub n hn v hv;rw[e1,if_pos rfl]at this;have:=((satM (ok.atD hn).2 kk).1 this).2;exact of_decide_eq_true this)
end
theorem v4_k8{v:Int}(h:v=0∨v=1∨v=2∨v=3):k8 v:=by rcases h with rfl|rfl|rfl|rfl<;>unfold k8<;>decide
section
variable{c:Cx}
theorem c_nv_barall(H:KF c):∀(K:(Nat->Int)->Prop) (s:Sto) (tk:List Nat) (n:Nat) (op:List Nat) (kn:List Int) (old:Bool) (rs:List V),(s.Ok)->(s.fl=false)->(op.length<=3)->(∀x∈op,x<5)->(rs.length<=1000)->(∀p,InD s.D p->K p->∀x∈op,kn.contains (p x)≠old)->FS1 c 6 566 [nvO tk n,s.w,.v (.lst (vN op)),.v (.lst (kn.map .int)),.v (.bool old),.v (.lst rs)] (λQ=>∀t s',Out K s t s'->Q (.v (.bool t)) [nvO tk n,s'.w,.v (.lst (vN op)),.v (.lst (kn.map .int)),.v (.bool old),.v (.lst rs)]):=
 λK s tk n op kn old rs ok hf hl hx hr sound=>.ofChk1 H (H.f 55 566 (stAt (bodyOf (stAt top 30)) 6) [122,131,100,69,6,114] rfl) [100,151,9,8,29,5,131,151,141,141,69,6,133,5,131,151,141,114] (w:=by
  intro Q q;walk_at"g";refine loop_ (λx:Nat=>V.int x) (λs1:Sto=>[(122,_),(131,s1.w),(100,_),(69,_),(6,_),(114,_)])
   (λus s1=>(∀x∈us,x∈op)/\Out K s true s1) (λx us s1 Q' hI hn' hr'=>?_) (λs1 hI=>?_) op s ⟨λ_ h=>h,.refl ok hf⟩
  ·obtain⟨i1,i2⟩:=hI;have hxm:=i1 x (by simp);have hx5:=hx x hxm;obtain⟨r1,r2⟩:=i2.le.ok.atD hx5;obtain⟨⟨g1,g2⟩,g3,-⟩:=t_dm _ r2;have hvl:(valsM (at_ s1.D x)).length<=4:=a6 (ak _ _) (by decide);walk_at"g";refine call1_ (c_dom H s1 x i2.le.ok hx5) ?_;walk_at"g";refine call1_ (c_values H (dm (at_ s1.D x)) g1 (by rw[g3];exact a6 ‹_› (a5 rfl))) ?_;rw[g3];walk_at"g";refine loop_ V.int (λs2:Sto=>[(122,_),(131,s2.w),(100,_),(69,_),(6,_),(114,_),(151,.v (.int x))])
    (λvs s2=>(∀v∈vs,v∈[(0:Int),1,2,3])/\Out K s true s2) (λv vs s2 Q3 hJ hn3 hr3=>?_) (λs2 hJ=>?_) (valsM (at_ s1.D x)) s1 ⟨λv hv=>valsM_rg hv,i2⟩
   ·obtain⟨j1,j2⟩:=hJ;have hv:=j1 v (by simp);have v8:k8 v:=v4_k8 (by simpa only[aj,aN,or_false]using hv);walk_at"g";refine inI_ ?_;walk_at"g"
    ·rename_i eo;refine strike_ H (K:=K) (g:=.ne) (k:=v) j2.le.ok j2.fl hx5 v8 (.inr rfl) (a6 ‹_› (a5 rfl)) (λp hp hK=>?_) (λt s3 o3 e3=>?_)
     ·have:=sound p (λx hx=>j2.le.sub x hx _ (hp x hx)) hK x hxm;refine decide_eq_true ?_;exact λz=>this (z▸eo)
     cases t
     ·walk_at"g";apply hr3;apply hr';walk_at"g";exact q false s3 (j2.trans o3)
     ·walk_at"g";exact hn3 s3 _ ⟨λy hy=>j1 y (by simp[hy]),j2.trans o3⟩ rfl
    ·exact hn3 s2 _ ⟨λy hy=>j1 y (by simp[hy]),j2⟩ rfl
   ·walk_at"g";exact hn' s2 _ ⟨λy hy=>i1 y (by simp[hy]),hJ.2⟩ rfl
  ·walk_at"g";exact q true s1 hI.2)
end
theorem nvA{T F K C O:Nat}(h:(T:Int)-F+K<=C)(p:0<O)(s:C<=O-1+K)(e:T=F+O):False:=by lia
section
variable{s:Sto}{tk kn0:List Nat}{p:Nat->Int}{kn:List Int}
theorem nv_known(ok:s.Ok)(hx:∀x∈tk,x<5)(hp:InD s.D p)(e:kn=kinds ((fxs s.D tk).map λx=>lowM (at_ s.D x))):kn.Nodup/\∀v∈kn,v∈kinds (tk.map p):=by
 subst e;refine⟨kinds_mem.1,λv hv=>?_⟩;refine oea (au.mp ((kinds_mem.2 v).mp hv)) λx hxm z_=>?_;refine z_▸?_;refine(kinds_mem.2 _).mpr (au.mpr ⟨x,(aq.mp hxm).1,(nv_most ok hx hp).1 x hxm⟩)
theorem nv_old(ok:s.Ok)(hx:∀x∈tk,x<5)(hp:InD s.D p)(e:kn=kinds ((fxs s.D tk).map λx=>lowM (at_ s.D x)))(h:(kinds (tk.map p)).length<=kn.length):∀x∈tk,p x∈kn:=λx hxm=>by
 obtain⟨h1,h2⟩:=nv_known ok hx hp e;refine Classical.byContradiction λz=>?_;have:=len_sub (l:=p x::kn) (m:=kinds (tk.map p)) (aE.mpr ⟨z,h1⟩) λv hv=>by
  rcases aj.mp hv with rfl|hv
  ·exact(kinds_mem.2 _).mpr (c7 hxm)
  ·exact h2 v hv
 simp only[am]at this;exact Nat.not_le_of_lt ‹_› ‹_›
theorem nv_new(ok:s.Ok)(hx:∀x∈tk,x<5)(hp:InD s.D p)(e:kn=kinds ((fxs s.D tk).map λx=>lowM (at_ s.D x)))(h:(tk.length:Int)-(fxs s.D tk).length+kn.length<=(kinds (tk.map p)).length):∀x∈tk.filter (λx=>!fixM (at_ s.D x)),p x∉kn:=λx hxm z=>by
 have sub:=len_sub (kinds_mem (ns:=tk.map p)).1 (m:=((tk.filter λx=>!fixM (at_ s.D x)).erase x).map p++kn) λv hv=>by
  refine oea (au.mp ((kinds_mem.2 v).mp hv)) λy hym z_=>?_;refine z_▸?_;rw[aO];cases hf:fixM (at_ s.D y)with
  |true=>
   right
   rw[e];exact(kinds_mem.2 _).mpr (au.mpr ⟨y,aq.mpr ⟨hym,hf⟩,((nv_most ok hx hp).1 y (aq.mpr ⟨hym,hf⟩)).symm⟩)
  |false=>
   by_cases ey:y=x
   ·refine ey.symm▸?_;exact .inr z
   ·exact .inl (c7 ((dE ey).mpr (aq.mpr ⟨hym,by simp[hf]⟩)))
 have hpos:=du hxm;simp only[aa,a7,dg hxm]at sub;have h1:=bS (λx=>fixM (at_ s.D x)) (l:=tk);simp only[aV,aV]at h1;have e:tk.filter (λx=>!fixM (at_ s.D x))=tk.filter (λx=>decide ¬fixM (at_ s.D x)=true):=cJ λx _=>by cases fixM (at_ s.D x)<;>rfl
 rw[e]at sub hpos;unfold fxs at *;exact nvA h hpos sub h1
end
section
variable{c:Cx}
theorem c_nv_bar(H:KF c):∀(s:Sto) (tk:List Nat) (n:Nat),(s.Ok)->(s.fl=false)->(tk.length<=3)->(∀x∈tk,x<5)->(n<5)->FS1 c 7 559 [nvO tk n,s.w] (λQ=>∀t s',Out (KNv tk n) s t s'->Q (.v (.bool t)) [nvO tk n,s'.w]):=
 λs tk n ok hf hl hx hn=>.ofChk1 H (H.f 54 559 (stAt (bodyOf (stAt top 30)) 5) [122,131] rfl) [45,5,122,131,44,43,88,43,0,76,76,69,136,122,1,131,151,64,5,131,151,151,100,57,5,131,91,122,0,0,69,43,91,122,0,0,69,114,10,5,122,131,100,69,114,78,5,131,91,122,88,10,5,122,131,100,69,44,91,122,88] (w:=by
  intro Q q;walk_at"g";refine call1_ (c_nv_fixed H s tk n ok hl hx) (λfs g1 g2 g3 g4=>?_);walk_at"g";refine acc1 fs (ltV s.D) (λx=>V.int (lowM (at_ s.D x))) rfl (λx hxm acc Q' ha hq=>?_) (by lia) ?_
  ·walk_at"g";exact hq _ rfl
  refine(show fs.map (λx=>V.int (lowM (at_ s.D x)))=(fs.map λx=>lowM (at_ s.D x)).map V.int by simp).symm▸?_;have hkl:(fs.map λx=>lowM (at_ s.D x)).length=fs.length:=a7 _;generalize hkn:(fs.map λx=>lowM (at_ s.D x))=kn at *;walk_at"g";refine accF tk (λx:Nat=>V.int x) (λx=>!fixM (at_ s.D x)) (λx:Nat=>V.int x) rfl (λx hxm acc Q' ha hq hr=>?_) (a6 (by assumption) (a5 rfl)) ?_
  ·walk_at"g";refine call1_ (c_is_fixed H s x ok (hx x hxm)) ?_;refine br_ (λe1=>?_) (λe1=>?_)
   ·walk_at"g";exact hq e1 _ rfl
   ·walk_at"g";exact hr e1 _ rfl
  have new:=λ(p:Nat->Int) (hp:InD s.D p)=>nv_new ok hx hp g2;have old:=λ(p:Nat->Int) (hp:InD s.D p)=>nv_old ok hx hp g2;have hop:(tk.filter λx=>!fixM (at_ s.D x)).length<=3:=a6 (ak _ _) hl;have hsub:∀x∈tk.filter (λx=>!fixM (at_ s.D x)),x∈tk:=λx h=>(aq.mp h).1;generalize tk.filter (λx=>!fixM (at_ s.D x))=op at *;walk_at"g";refine call1_ (c_high H s n ok hn) ?_;walk_at"g"
  ·rename_i hhi;clear hkl;refine call1_ (c_nv_barall H (KNv tk n) s tk n op kn false _ ok hf hop (λx h=>hx x (hsub x h)) (by simp;lia) (λp hp hK x hxo z=>?_)) (λt s' o'=>?_)
   ·have h1:=(lowHigh (ok.atD hn).2 (hp n hn)).2;have:=old p hp (by unfold KNv at hK;rw[hhi]at h1;simp at h1;lia) x (hsub x hxo);rw[ax.mpr this]at z;cases z
   ·unfold nvO at *;walk_at"g";exact q t s' o'
  ·refine call1_ (c_low H s n ok hn) ?_;walk_at"g"
   ·rename_i hlo;refine call1_ (c_nv_barall H (KNv tk n) s tk n op kn true _ ok hf hop (λx h=>hx x (hsub x h)) (by simp;lia) (λp hp hK x hxo z=>?_)) (λt s' o'=>?_)
    ·have h1:=(lowHigh (ok.atD hn).2 (hp n hn)).1;exact new p hp (by unfold KNv at hK;rw[hlo]at h1;lia) x hxo (ax.mp z)
    ·unfold nvO at *;walk_at"g";exact q t s' o'
   ·exact q true s (.refl ok hf))
end
noncomputable def trI(D:List Nat)(x:Nat):Int×Int×Int:=(highM (at_ D x),lowM (at_ D x),(x:Int))
noncomputable def oI:Option Int->V
 |none=>.none
 |some i=>.int i
def Apart(s:Sto)(tk:List Nat)(us:List (Int×Int×Int))(many:Nat)(last:Option Int)(p:Nat->Int):Prop:=∃L:List Int,L.Nodup/\L.length=many/\(∀v∈L,v∈tk.map p/\∃l,last=some l/\v<=l)/\
 ((∀x<5,valsM (at_ s.D x)=[p x])->(∀x∈tk,trI s.D x∈us∨p x∈L)/\∀l,last=some l->l∈L/\∀t∈us,l<=t.1)
theorem fix_lh{m:Nat}{v:Int}(h:valsM m=[v]):lowM m=v/\highM m=v:=by unfold lowM highM;rw[h];exact⟨rfl,rfl⟩
theorem apart_yes{s:Sto}{tk:List Nat}{us:List (Int×Int×Int)}{many x:Nat}{last:Option Int}{p:Nat->Int}(ok:s.Ok)(hp:InD s.D p)(hx:x∈tk)(hx5:x<5)(pw:(trI s.D x::us).Pairwise λx y=>x.1<=y.1)(h:Apart s tk (trI s.D x::us) many last p)(hl:∀l,last=some l->l<lowM (at_ s.D x)):Apart s tk us (many+1) (some (highM (at_ s.D x))) p:=by
 obtain⟨L,h1,h2,h3,h4⟩:=h;obtain⟨b1,b2⟩:=lowHigh (ok.atD hx5).2 (hp x hx5);refine ieaaa (p x::L) (aE.mpr ⟨λz=>?_,h1⟩) (by rw[am,h2]) (λv hv=>?_) (λhf=>?_)
 ·obtain⟨_,l,e,hle⟩:=h3 _ z;have:=hl l e;lia
 ·rcases aj.mp hv with rfl|hv
  ·exact⟨c7 hx,_,rfl,b2⟩
  ·obtain⟨a,l,e,hle⟩:=h3 v hv;have:=hl l e;exact⟨a,_,rfl,by lia⟩
 ·obtain⟨g1,g2⟩:=h4 hf;obtain⟨f1,f2⟩:=fix_lh (hf x hx5);refine⟨λy hy=>?_,λl e=>?_⟩
  ·rcases g1 y hy with h|h
   ·rcases aj.mp h with h|h
    ·right
     have:(y:Int)=x:=congrArg (λt:Int×Int×Int=>t.2.2) h;have:y=x:=by lia
     rw[this];exact .head _
    ·exact .inl h
   ·exact .inr (.tail _ h)
  ·cases e;refine⟨by rw[f2];exact .head _,λt ht=>(cj.mp pw).1 t ht⟩
theorem apart_no{s:Sto}{tk:List Nat}{us:List (Int×Int×Int)}{many x:Nat}{l:Int}{p:Nat->Int}(hx5:x<5)(h:Apart s tk (trI s.D x::us) many (some l) p)(hl:lowM (at_ s.D x)<=l):Apart s tk us many (some l) p:=by
 obtain⟨L,h1,h2,h3,h4⟩:=h;refine ieaaa L h1 h2 h3 (λhf=>?_);obtain⟨g1,g2⟩:=h4 hf;obtain⟨f1,f2⟩:=fix_lh (hf x hx5);obtain⟨g3,g4⟩:=g2 l rfl;have g5:l<=highM (at_ s.D x):=g4 _ (.head _);refine⟨λy hy=>?_,λl' e=>by cases e;exact⟨g3,λt ht=>g4 t (.tail _ ht)⟩⟩;rcases g1 y hy with h|h
 ·rcases aj.mp h with h|h
  ·right
   have:(y:Int)=x:=congrArg (λt:Int×Int×Int=>t.2.2) h;have:y=x:=by lia
   subst this;have:p y=l:=by lia
   rw[this];exact g3
  ·exact .inl h
 ·exact .inr h
theorem apart_end{s:Sto}{tk:List Nat}{many:Nat}{last:Option Int}{p:Nat->Int}(h:Apart s tk [] many last p):many<=(kinds (tk.map p)).length/\((∀x<5,valsM (at_ s.D x)=[p x])->(kinds (tk.map p)).length<=many):=by
 obtain⟨L,h1,h2,h3,h4⟩:=h;refine⟨by rw[←h2];exact len_sub h1 λv hv=>(kinds_mem.2 v).mpr (h3 v hv).1,λhf=>?_⟩;rw[←h2];refine len_sub kinds_mem.1 λv hv=>?_;obtain⟨x,hx,rfl⟩:=au.mp ((kinds_mem.2 v).mp hv);exact((h4 hf).1 x hx).resolve_left λz=>nomatch z
theorem nv_pass{s1 s2 s3 s4:Sto}{tk:List Nat}{n:Nat}{p:Nat->Int}(hx:∀x∈tk,x<5)(hn:n<5)(o2:Out (KNv tk n) s1 true s2)(o3:Out (KNv tk n) s2 true s3)(o4:Out (KNv tk n) s3 true s4)(he:s4.tr.length=s1.tr.length)
 (f2:∀p:Nat->Int,(∀x<5,valsM (at_ s1.D x)=[p x])->∀v,hasM (at_ s2.D n) v=true->((kinds (tk.map p)).length:Int)<=v) (f3:∀v,hasM (at_ s3.D n) v=true->v<=(tk.length:Int)-(fxs s2.D tk).length+(kinds ((fxs s2.D tk).map λx=>lowM (at_ s2.D x))).length) (hp:∀x<5,valsM (at_ s4.D x)=[p x]):KNv tk n p:=by
 have l2:=o2.le.len;have l3:=o3.le.len;have l4:=o4.le.len;have m3:=mid_len (a6 l2 l3) l4 he;have m2:=mid_len l2 l3 m3;have d2:s2.D=s1.D:=o2.le.same m2;have d3:s3.D=s2.D:=o3.le.same (m3.trans m2.symm);have d4:s4.D=s3.D:=o4.le.same (he.trans m3.symm);rw[d4]at hp;have hv:hasM (at_ s3.D n) (p n)=true:=hasM_iff0 (by rw[hp n hn];exact .head _);have b3:=f3 _ hv;have b2:=f2 p (by rw[←d2,←d3];exact hp) (p n) (by rw[←d3];exact hv);rw[←d3]at b3;have fx:fxs s3.D tk=tk:=fq.mpr λx hxm=>by unfold fixM;rw[hp x (hx x hxm)];rfl
 have lo:(tk.map λx=>lowM (at_ s3.D x))=tk.map p:=c8 λx hxm=>(fix_lh (hp x (hx x hxm))).1;rw[fx,lo]at b3;unfold KNv;lia
section
variable{c:Cx}
theorem c_nv_below(H:KF c):∀(s:Sto) (tk:List Nat) (n:Nat),(s.Ok)->(s.fl=false)->(1<=tk.length/\tk.length<=3)->(∀x∈tk,x<5)->(n<5)->FS1 c 6 540 [nvO tk n,s.w] (λQ=>∀t s',Out (KNv tk n) s t s'->(t=true->∀p:Nat->Int,(∀x<5,valsM (at_ s.D x)=[p x])->∀v,hasM (at_ s'.D n) v=true->((kinds (tk.map p)).length:Int)<=v)->Q (.v (.bool t)) [nvO tk n,s'.w]):=
 λs tk n ok hf hz2 hx hn=>.ofChk1 H (H.f 51 540 (stAt (bodyOf (stAt top 30)) 2) [122,131] rfl) [114,81,72,8,0,136,122,1,131,151,57,5,131,151,78,5,131,151,151,57,78,151,72,78,72,37,2,114,151,78,151,57,81,57,81,72,133,5,131,91,122,81,114] (w:=by
  intro Q q;obtain⟨hl0,hl⟩:=hz2;unfold nvO at *;walk_at"g";refine acc1 tk (λx:Nat=>V.int x) (λx=>tupI (t3 (trI s.D x))) rfl (λx hxm acc Q' ha hq=>?_) (a6 hl (a5 rfl)) ?_
  ·walk_at"g";refine call1_ (c_high H s x ok (hx x hxm)) ?_;walk_at"g";refine call1_ (c_low H s x ok (hx x hxm)) ?_;walk_at"g";exact hq _ rfl
  obtain⟨out,e1,e2,e3,e4⟩:=sort3 (xs:=tk.map (trI s.D)) (by rw[a7];exact hl0) (by rw[a7];exact hl);rw[a7]at e2;have o3:out.length<=3:=e2▸hl;walk_at"g";refine ieeaaa _ _ ((by rw[av,av];rfl)) ((λt ht=>by obtain⟨p,_,rfl⟩:=au.mp ht;simp[t3])) e1 ?_;rw[av];walk_at"g";refine loop3_ (λt=>tupI (t3 t)) (λ(rs:List V) (many:Nat) (last:Option Int)=>[(122,_),(131,_),(72,.v (oI last)),(81,.v (.int many)),(114,.list rs)])
   (λus rs many last G=>us.Pairwise (λx y=>x.1<=y.1)->(∀t∈us,∃x∈tk,t=trI s.D x)->rs.length+2*us.length<=6->many+us.length<=3->(∀p,InD s.D p->Apart s tk us many last p)->G)
   (λt us rs many last Q' i1 i2 i3 i4 i5 hn' hr'=>?_) (λrs many last _ _ i3 i4 i5=>?_) out [] 0 none (λR k=>k e4 (λt ht=>?_) (by rw[bo,bB];exact aU 2 o3) (by rw[bB];exact o3) λp hp=>ieaaa ([]) .nil rfl ((λv hv=>nomatch hv)) (λhf=>⟨λx hxm=>.inl ((e3 _).mpr (c7 hxm)),(λl e=>nomatch e)⟩)) rfl rfl
  ·obtain⟨x,hxm,rfl⟩:=i2 t (.head _);have hx5:=hx x hxm;have i2:=λt ht=>i2 t (.tail _ ht);have n1:=(cj.mp i1).2;have n3:rs.length+2+2*us.length<=6:=by rw[am,d0,←bh,aH]at i3;exact i3
   have n4:many+1+us.length<=3:=by rw[am,←bh,aH]at i4;exact i4
   have rl:rs.length<=6:=a6 (an _ _) (a6 (an _ _) n3);cases last with
   |none=>
    walk_at"g";exact hn' (rs++[_,_]) (many+1) (some (highM (at_ s.D x))) _ (λR k=>k n1 i2 (by rw[aa];exact n3) n4 λp hp=>apart_yes ok hp hxm hx5 i1 (i5 p hp) λl e=>nomatch e) rfl
   |some l=>
    walk_at"g"
    ·rename_i hlt;exact hn' (rs++[_,_]) (many+1) (some (highM (at_ s.D x))) _ (λR k=>k n1 i2 (by rw[aa];exact n3) n4 λp hp=>apart_yes ok hp hxm hx5 i1 (i5 p hp) λl' e=>ab.inj e▸hlt) rfl
    ·rename_i hlt;exact hn' rs many (some l) _ (λR k=>k n1 i2 (a6 (ai (an _ 2) _) n3) (a6 (ai (cb _) _) n4) λp hp=>apart_no hx5 (i5 p hp) (bD.mp hlt)) rfl
  ·have km:k8 (many:Int):=k8_nat (dP i4);walk_at"g";refine strike_ H (K:=KNv tk n) (g:=.ge) (k:=many) (rs:=rs) ok hf hn km (.inr rfl) (a6 i3 (a5 rfl)) (λp hp hK=>decide_eq_true (aG (bv.mpr (apart_end (i5 p hp)).1) (eV hK))) (λt s1 o1 e1=>?_);walk_at"g";refine q t s1 o1 λet p hp v hv=>?_;have e1:=e1 et n;rw[if_pos rfl]at e1;rw[e1]at hv;exact aG (bv.mpr ((apart_end (i5 p λx hx=>hasM_iff0 (by rw[hp x hx];exact .head _))).2 hp)) (of_decide_eq_true (((satM (g:=.ge) (ok.atD hn).2 km).1 hv).2))
  ·obtain⟨x,hxm,e⟩:=au.mp ((e3 t).mp ht);exact iea x hxm e.symm)
theorem c_nv_prop(H:KF c):FSW c 8 (.ref 535) (λws Q=>∃(tk:List Nat) (n:Nat),((1<=tk.length/\tk.length<=3)/\(∀x∈tk,x<5)/\n<5)/\PropF (nvO tk n) (KNv tk n) ws Q):=
 .ofChk H (H.f 50 535 (stAt (bodyOf (stAt top 30)) 1) [122,131] rfl) [0,0,138,131,82,17,5,122,131,16,5,122,131,11,5,122,131,0,0,138,131,82] (w:=by
  rintro ws Q ⟨tk,n,⟨hl,hx,hn⟩,s,rfl,ok,hf,q⟩;unfold nvO at *;walk_at"g";refine while2_ 22 s () (λ(a:Sto) (_:Unit)=>[(122,_),(131,a.w)]) (λm a _ G=>Out (KNv tk n) s true a->21<=a.tr.length+m->G) rfl (λR k=>k (.refl ok hf) (a6 (cb 21) (bV _ _)))
   (λm s1 _ Q' h1 h2 hn' hr'=>?_) λs1 _ h1 h2=>bF 20 (a6 h2 (a6 (an _ _) h1.le.ok.tr))
  have ht:=a6 (an _ _) h1.le.ok.tr;walk_at"g";refine call1_ (c_nv_below H s1 tk n h1.le.ok h1.fl hl hx hn) (λt s2 o2 f2=>?_);unfold nvO at *;cases t
  ·walk_at"g";apply hr';walk_at"g";exact q false s2 (h1.trans o2) (λe=>ff e)
  walk_at"g";refine call1_ (c_nv_above H s2 tk n o2.le.ok o2.fl hl.2 hx hn) (λt s3 o3 f3=>?_);unfold nvO at *;cases t
  ·walk_at"g";apply hr';walk_at"g";exact q false s3 (h1.trans (o2.trans o3)) (λe=>ff e)
  walk_at"g";refine call1_ (c_nv_bar H s3 tk n o3.le.ok o3.fl hl.2 hx hn) (λt s4 o4=>?_);unfold nvO at *;have o14:=h1.trans (o2.trans (o3.trans o4));cases t
  ·walk_at"g";apply hr';walk_at"g";exact q false s4 o14 (λe=>ff e)
  have t4:=a6 (an _ _) o4.le.ok.tr;walk_at"g"
  ·rename_i he;rw[a7,a7]at he;apply hr';walk_at"g";exact q true s4 o14 λ_ p hp=>nv_pass hx hn o2 o3 o4 (bp.inj he) (f2 rfl) (f3 rfl) hp
  ·rename_i he;rw[a7,a7]at he;have lt:s1.tr.length<s4.tr.length:=da (o2.trans (o3.trans o4)).le.len λz=>he (by rw[z]);exact hn' s4 () _ (λR k=>k o14 (a6 h2 (by rw[←bh,aH];exact ai lt m))) rfl)
end
noncomputable abbrev CM:=List (Int×(Int×Int))
noncomputable def geti(l:List Int)(i:Int):Option Int:=match i with|.ofNat n=>l[n]?|.negSucc _=>none
noncomputable def getr(l:List (List Int))(i:Int):Option (List Int):=match i with|.ofNat n=>l[n]?|.negSucc _=>none
noncomputable def seti(l:List Int)(i v:Int):Option (List Int):=match i with|.ofNat n=>(match dz n l.length with|true=>some (l.set n v)|false=>none)|.negSucc _=>none
noncomputable def keyIn(o:Int):CM->Bool
 |[]=>false
 |p::r=>match decide (p.1=o)with|true=>true|false=>keyIn o r
noncomputable def lookC(o:Int):CM->Option (Int×Int)
 |[]=>none
 |p::r=>match decide (p.1=o)with|true=>some p.2|false=>lookC o r
noncomputable def memAt(at_:List Int)(o:Int):List Int:=((ao at_.length).filter λk=>decide (at_.getD k (-1)=o)).map bp
noncomputable def addAll(mv here:Int):List Int->CM->List Int->Option (CM×List Int)
 |[],c,r=>some (c,r)
 |o::os,c,r=>match keyIn o c with
  |true=>addAll mv here os c r
  |false=>match dz r.length 50 with
   |false=>none
   |true=>addAll mv here os (c++[(o,(mv,here))]) (r++[o])
noncomputable def spreadM(able:List (List Int))(here:Int):List Int->CM->List Int->Option (CM×List Int)
 |[],c,r=>some (c,r)
 |mv::ms,c,r=>match getr able mv with
  |none=>none
  |some os=>match addAll mv here os c r with
   |none=>none
   |some (c',r')=>spreadM able here ms c' r'
noncomputable def chainM(c:CM):Nat->List Int->Int->Option (List Int)
 |0,_,_=>none
 |f+1,a,here=>match here with
  |.negSucc _=>some a
  |.ofNat _=>match lookC here c with
   |none=>none
   |some (mv,left)=>match seti a mv here with|none=>none|some a'=>chainM c f a' left
noncomputable def placeW(able:List (List Int))(highs:List Int)(a cts:List Int):Nat->CM->List Int->Nat->Option ((List Int×List Int)×Option (List Int))
 |0,_,_,_=>none
 |f+1,c,r,sp=>match r[sp]? with
  |none=>(match aT sp r.length with|true=>some ((a,cts),some r)|false=>none)
  |some here=>match geti cts here with
   |none=>none
   |some n=>match geti highs here with
    |none=>none
    |some h=>match decide (n<h)with
     |true=>(match seti cts here (n+1)with
      |none=>none
      |some cts'=>match chainM c 8 a here with|none=>none|some a'=>some ((a',cts'),none))
     |false=>match spreadM able here (memAt a here) c r with
      |none=>none
      |some (c',r')=>placeW able highs a cts f c' r' (sp+1)
noncomputable def placeM(able:List (List Int))(highs:List Int)(a cts:List Int)(m:Int):Option ((List Int×List Int)×Option (List Int)):=match getr able m with
 |none=>none
 |some os=>placeW able highs a cts 8 (os.map λo=>(o,(m,-1))) os 0
noncomputable def alongM(c:CM)(wanted:Int):Nat->List Int->Int->Option (List Int)
 |0,_,_=>none
 |f+1,a,o=>match decide (o=wanted)with
  |true=>some a
  |false=>match lookC o c with
   |none=>none
   |some (mv,o')=>match seti a mv o' with|none=>none|some a'=>alongM c wanted f a' o'
inductive FR|done (a cts:List Int)|go (c:CM) (r:List Int)
noncomputable def fillI(able:List (List Int))(lows:List Int)(a cts:List Int)(wanted here:Int):List Int->CM->List Int->Option FR
 |[],c,r=>some (.go c r)
 |mv::ms,c,r=>match geti a mv with
  |none=>none
  |some o=>match getr able mv with
   |none=>none
   |some os=>match os.contains here&&!keyIn o c with
    |false=>fillI able lows a cts wanted here ms c r
    |true=>match geti cts o with
     |none=>none
     |some n=>match geti lows o with
      |none=>none
      |some l=>match decide (l<n)with
       |true=>(match seti cts o (n-1)with
        |none=>none
        |some cts1=>match geti cts1 wanted with
         |none=>none
         |some n2=>match seti cts1 wanted (n2+1)with
          |none=>none
          |some cts2=>match alongM (c++[(o,(mv,here))]) wanted 8 a o with|none=>none|some a'=>some (.done a' cts2))
       |false=>match dz r.length 50 with
        |false=>none
        |true=>fillI able lows a cts wanted here ms (c++[(o,(mv,here))]) (r++[o])
noncomputable def intsN(n:Nat):List Int:=(ao n).map bp
noncomputable def fillW(able:List (List Int))(lows:List Int)(a cts:List Int)(wanted:Int):Nat->CM->List Int->Nat->Option ((List Int×List Int)×Option (List Int))
 |0,_,_,_=>none
 |f+1,c,r,sp=>match r[sp]? with
  |none=>(match aT sp r.length with|true=>some ((a,cts),some r)|false=>none)
  |some here=>match fillI able lows a cts wanted here (intsN a.length) c r with
   |none=>none
   |some (.done a' cts')=>some ((a',cts'),none)
   |some (.go c' r')=>fillW able lows a cts wanted f c' r' (sp+1)
noncomputable def fillM(able:List (List Int))(lows:List Int)(a cts:List Int)(wanted:Int):=fillW able lows a cts wanted 8 [(wanted,(-1,-1))] [wanted] 0
noncomputable def addF:List Int->List Int->Option (List Int)
 |[],r=>some r
 |o::os,r=>match r.contains o with
  |true=>addF os r
  |false=>match dz r.length 50 with
   |false=>none
   |true=>addF os (r++[o])
noncomputable def freshM(able:List (List Int)):List Int->Option (List Int)
 |[]=>some []
 |mv::ms=>match getr able mv with
  |none=>none
  |some os=>match freshM able ms with|none=>none|some r=>some (os++r)
noncomputable def over(lows cts:List Int):List Int:=((ao lows.length).filter λk=>decide (lows.getD k 0<cts.getD k 0)).map bp
noncomputable def reachW(able:List (List Int))(lows highs a cts:List Int):Nat->List Int->Nat->Bool->Option (List Int×Bool)
 |0,_,_,_=>none
 |f+1,r,sp,room=>match r[sp]? with
  |none=>(match aT sp r.length with|true=>some (r,room)|false=>none)
  |some here=>match geti cts here with
   |none=>none
   |some n=>match geti highs here with
    |none=>none
    |some h=>match freshM able (memAt a here)with
     |none=>none
     |some fr=>match !room&&decide (n<h)with
      |true=>(match addF (over lows cts++fr) r with|none=>none|some r'=>reachW able lows highs a cts f r' (sp+1) true)
      |false=>(match addF fr r with|none=>none|some r'=>reachW able lows highs a cts f r' (sp+1) room)
noncomputable def reachM(able:List (List Int))(lows highs a cts:List Int)(o:Int):=reachW able lows highs a cts 8 [o] 0 false
noncomputable def prodL:List (List Int)->List (List Int)
 |[]=>[[]]
 |r::rs=>(prodL rs).flatMap λf=>r.map λo=>o::f
noncomputable def cntM(f:List Int)(o:Int):Nat:=f.countP λx=>decide (x=o)
noncomputable def feas(lows highs f:List Int):Nat->Bool
 |0=>true
 |o+1=>decide (lows.getD o 0<=(cntM f o:Int))&&decide ((cntM f o:Int)<=highs.getD o 0)&&feas lows highs f o
noncomputable def sols(able:List (List Int))(lows highs:List Int):List (List Int):=(prodL able).filter λf=>feas lows highs f lows.length
inductive RM|pf (S:List Int)|ff (S:List Int)|ok (a c:List Int)
noncomputable def RM.on(x:RM)(f:List Int->List Int->Option RM):Option RM:=match x with|.ok a c=>f a c|r=>some r
noncomputable def lenOk(able:List (List Int))(lows a c:List Int):Bool:=aT a.length able.length&&aT c.length lows.length
noncomputable def placeAll(able:List (List Int))(lows highs:List Int):List Int->List Int->List Int->Option RM
 |[],a,c=>some (.ok a c)
 |m::ms,a,c=>match placeM able highs a c m with
  |none=>none
  |some (_,some S)=>some (.pf S)
  |some ((a',c'),none)=>match lenOk able lows a' c' with
   |true=>placeAll able lows highs ms a' c'
   |false=>none
noncomputable def fillOne(able:List (List Int))(lows:List Int)(o:Int):Nat->List Int->List Int->Option RM
 |0,_,_=>none
 |f+1,a,c=>match geti c o with
  |none=>none
  |some n=>match geti lows o with
   |none=>none
   |some l=>match decide (n<l)with
    |false=>some (.ok a c)
    |true=>match fillM able lows a c o with
     |none=>none
     |some (_,some S)=>some (.ff S)
     |some ((a',c'),none)=>match lenOk able lows a' c' with
      |true=>fillOne able lows o f a' c'
      |false=>none
noncomputable def fillAll(able:List (List Int))(lows:List Int):List Int->List Int->List Int->Option RM
 |[],a,c=>some (.ok a c)
 |o::os,a,c=>match fillOne able lows o 5 a c with
  |none=>none
  |some x=>x.on λa' c'=>fillAll able lows os a' c'
noncomputable def runM(able:List (List Int))(lows highs:List Int):Option RM:=match placeAll able lows highs (intsN able.length) (aQ able.length (-1)) (aQ lows.length 0)with
 |none=>none
 |some x=>x.on λa c=>fillAll able lows (intsN (lows.length-1)) a c
noncomputable def cutM(able:List (List Int))(a found:List Int)(o:Int):List Nat:=(ao a.length).filter λk=>(able.getD k []).contains o&&!found.contains (a.getD k (-1))
noncomputable def okAll(able:List (List Int))(lows highs:List Int):Bool:=match runM able lows highs with
 |none=>false
 |some (.pf S)=>(sols able lows highs).isEmpty&&cA S.length 50
 |some (.ff S)=>(sols able lows highs).isEmpty&&cA S.length 50&&S.all λo=>decide (0<=o)&&decide (o<(lows.length:Int)-1)
 |some (.ok a c)=>(sols able lows highs).contains a&&(intsN lows.length).all λo=>match reachM able lows highs a c o with
  |none=>false
  |some (found,_)=>(cutM able a found o).all λk=>(sols able lows highs).all λf=>!decide (f.getD k (-1)=o)
noncomputable def subsM:Nat->List (List Int)
 |0=>[[]]
 |n+1=>(subsM n)++(subsM n).map λs=>s++[(n:Int)]
noncomputable def ables(n w:Nat):List (List (List Int)):=match n with|0=>[[]]|n+1=>(ables n w).flatMap λr=>((subsM (w+1)).filter λs=>!s.isEmpty).map λs=>s::r
noncomputable def bnds:Nat->List (List Int×List Int)
 |0=>[([],[])]
 |n+1=>(bnds n).flatMap λp=>[(0,0),(0,1),(0,2),(1,1),(1,2)].map λq=>(q.1::p.1,q.2::p.2)
noncomputable def okNW(n w:Nat):Bool:=(ables n w).all λable=>(bnds w).all λp=>okAll able (p.1++[0]) (p.2++[(n:Int)+1])
noncomputable def bch(k:Nat):List (List Int×List Int):=((bnds 2).drop (5*k)).take 5
noncomputable def okG(p:List Int×List Int):Bool:=(ables 3 2).all λable=>okAll able (p.1++[0]) (p.2++[((3:Nat):Int)+1])
theorem ok32_0:(bch 0).all okG=true:=by decide+kernel
theorem ok32_1:(bch 1).all okG=true:=by decide+kernel
theorem ok32_2:(bch 2).all okG=true:=by decide+kernel
theorem ok32_3:(bch 3).all okG=true:=by decide+kernel
theorem ok32_4:(bch 4).all okG=true:=by decide+kernel
theorem okRest:∀n∈[1,2,3],∀w∈[1,2],(n=3/\w=2)∨okNW n w=true:=by decide+kernel
theorem ok32:(bnds 2).all okG=true:=by
 rw[show bnds 2=bch 0++(bch 1++(bch 2++(bch 3++bch 4))) by decide+kernel,dA,dA,dA,dA,ok32_0,ok32_1,ok32_2,ok32_3,ok32_4];rfl
theorem okNW_all(n:Nat)(hn:n∈[1,2,3])(w:Nat)(hw:w∈[1,2]):okNW n w=true:=by
 rcases okRest n hn w hw with⟨rfl,rfl⟩|h
 ·exact aA.mpr λable ha=>aA.mpr λp hp=>aA.mp (aA.mp ok32 p hp) able ha
 ·exact h
noncomputable def iL(l:List Int):V:=.lst (l.map .int)
noncomputable def plO(able:List (List Int))(lows highs a c:List Int):MW:=.obj 633 [1,79,58,8,26] [.v (.lst (able.map iL)),.v (iL lows),.v (iL highs),.list (a.map .int),.list (c.map .int)]
theorem geti_at{l:List Int}{i v:Int}(hl:l.length<=100)(h:geti l i=some v):itemAt (l.map .int) i=some (.int v):=by
 cases i with
 |ofNat n=>exact itemAt_nat (szMap (a6 hl (a5 rfl))) (by rw[ae,show l[n]?=some v from h];rfl)
 |negSucc n=>exact nos h
theorem getr_at{l:List (List Int)}{i:Int}{v:List Int}(hl:l.length<=100)(h:getr l i=some v):itemAt (l.map iL) i=some (iL v):=by
 cases i with
 |ofNat n=>exact itemAt_nat (szMap (a6 hl (a5 rfl))) (by rw[ae,show l[n]?=some v from h];rfl)
 |negSucc n=>exact nos h
theorem mapI_snoc{d:List Int}{u:Int}:d.map V.int++[.int u]=(d++[u]).map .int:=by simp only[ah];rfl
theorem seti_at{l l':List Int}{i v:Int}(hl:l.length<=100)(h:seti l i v=some l'){G:Prop}(k:i.natAbs<=1000000->l'.length<=100->∀j,idx? i (l.map V.int).length=some j->(l.map V.int).set j (.int v)=l'.map .int->G):G:=by
 cases i with
 |ofNat n=>
  unfold seti at h;dsimp only at h;cases z:dz n l.length with
  |false=>rw[z]at h;exact nos h
  |true=>
   rw[z]at h;have e:=ab.inj h;have hn:n<l.length:=a5 z;exact k (a6 (bf hn) (a6 hl (a5 rfl))) (by rw[←e,cW];exact hl) n (by rw[a7];exact idx_nat hn) (by rw[←e];exact dt.symm)
 |negSucc n=>exact nos h
theorem geti_len{l:List Int}{i v:Int}(h:geti l i=some v):i.natAbs<l.length:=by
 cases i with
 |ofNat n=>exact(ac.mp (show l[n]?=some v from h)).1
 |negSucc n=>exact nos h
theorem range_int(n:Nat):(rangeI 0 (n:Int)).map V.int=(ao n).map λ(k:Nat)=>V.int k:=by
 unfold rangeI;simp only[av,dQ,c4];refine c8 λk _=>?_;show V.int (0+(k:Int))=_;rw[eQ]
theorem c_pl_at(H:KF c):∀(able:List (List Int)) (lows highs a cs:List Int) (o:Int),(a.length<=100)->FS1 c 1 604 [plO able lows highs a cs,.v (.int o)] (λQ=>Q (.v (iL (memAt a o))) [plO able lows highs a cs,.v (.int o)]):=
 λable lows highs a cs o hl=>.ofChk1 H (H.f 59 604 (stAt (bodyOf (stAt top 31)) 1) [122,101] rfl) [5,0,0,0,8,122,2,101,122,66,8,122,66,101,66] (w:=by
  intro Q q;walk_at"g";refine accF (ao a.length) (λk:Nat=>V.int k) (λk=>decide (a.getD k (-1)=o)) (λk:Nat=>V.int k) (by rw[a7];exact range_int _) (λk hk acc Q' ha hq hr=>?_) (by rw[be];exact a6 hl (a5 rfl)) ?_
  ·have hk:=aC.mp hk;have f1:itemAt (a.map V.int) (k:Int)=some (.int (a.getD k (-1))):=itemAt_nat (szMap (a6 hl (a5 rfl))) (by rw[ae,a9,a8 hk];rfl);walk_at"g"
   ·rename_i e;exact hq (decide_eq_true e) _ rfl
   ·rename_i e;exact hr (decide_eq_false e) _ rfl
  have e1:((ao a.length).filter λk=>decide (a.getD k (-1)=o)).map (λk:Nat=>V.int k)=(memAt a o).map V.int:=by unfold memAt;rw[av];rfl
  refine(e1).symm▸?_;walk_at"g";exact q)
theorem c_pl_init(H:KF c):∀(able:List (List Int)) (lows highs:List Int),(able.length<=100)->(lows.length<=100)->FS1 c 1 599 [.obj 633 [] [],.v (.lst (able.map iL)),.v (iL lows),.v (iL highs)] (λQ=>Q (.v .none) [plO able lows highs (aQ able.length (-1)) (aQ lows.length 0),.v (.lst (able.map iL)),.v (iL lows),.v (iL highs)]):=
 λable lows highs h1 h2=>.ofChk1 H (H.f 58 599 (stAt (bodyOf (stAt top 31)) 0) [122,1,79,58] rfl) [1,122,1,79,122,79,58,122,58,0,0,1,122,8,0,0,79,122,26] (w:=by
  intro Q q;walk_at"g";have e1:aQ ((able.map iL).length:Int).toNat (V.int (-1))=(aQ able.length (-1)).map V.int:=by simp only[c4,a7,dI]
  have e2:aQ ((lows.map V.int).length:Int).toNat (V.int 0)=(aQ lows.length 0).map V.int:=by simp only[c4,a7,dI]
  rw[e1,e2];exact q)
noncomputable def cmV(p:Int×(Int×Int)):Int×V:=(p.1,.tup [.int p.2.1,.int p.2.2])
set_option smartUnfolding false in
theorem lookC_c{o:Int}{p:Int×Int×Int}{r:CM}:lookC o (p::r)=match decide (p.1=o)with|true=>some p.2|false=>lookC o r:=rfl
set_option smartUnfolding false in
theorem keyIn_c{o:Int}{p:Int×Int×Int}{r:CM}:keyIn o (p::r)=match decide (p.1=o)with|true=>true|false=>keyIn o r:=rfl
theorem lookC_at{o:Int}{x:Int×Int}:∀{c:CM},lookC o c=some x->(c.map cmV).lookup o=some (.tup [.int x.1,.int x.2]):=by
 intro c
 induction c with
 |nil=>intro h;exact nos h
 |cons p c ih=>
  intro h;rw[lookC_c]at h;rw[aD,aR];by_cases e:p.1=o
  ·replace h:=(decide_eq_true e)▸h;injection h with h;refine h▸?_;rw[show(o==(cmV p).1)=true from beq_iff_eq.mpr e.symm];rfl
  ·replace h:=(decide_eq_false e)▸h;refine(show(o==(cmV p).1)=false from beq_eq_false_iff_ne.mpr λz=>e z.symm).symm▸?_;exact ih h
theorem keyIn_at{o:Int}:∀{c:CM},((c.map cmV).map (·.1)).contains o=keyIn o c:=by
 intro c
 induction c with
 |nil=>rfl
 |cons p c ih=>
  rw[keyIn_c];rw[aD,aD,d6,ih];by_cases e:p.1=o
  ·rw[decide_eq_true e,show(o==(cmV p).1)=true from beq_iff_eq.mpr e.symm];rfl
  ·rw[decide_eq_false e,show(o==(cmV p).1)=false from beq_eq_false_iff_ne.mpr λz=>e z.symm];rfl
set_option smartUnfolding false in
theorem addAll_c{mv here o:Int}{os:List Int}{c:CM}{r:List Int}:addAll mv here (o::os) c r=cond (keyIn o c) (addAll mv here os c r) (cond (dz r.length 50) (addAll mv here os (c++[(o,(mv,here))]) (r++[o])) none):=rfl
set_option smartUnfolding false in
theorem spreadM_c{able:List (List Int)}{here mv:Int}{ms:List Int}{c:CM}{r:List Int}:spreadM able here (mv::ms) c r=(getr able mv).bind λos=>(addAll mv here os c r).bind λx=>spreadM able here ms x.1 x.2:=rfl
set_option smartUnfolding false in
theorem chainM_n{c:CM}{f k:Nat}{a:List Int}:chainM c (f+1) a (.ofNat k)=(lookC (.ofNat k) c).bind λx=>(seti a x.1 (.ofNat k)).bind λa'=>chainM c f a' x.2:=rfl
set_option smartUnfolding false in
theorem placeW_s{able:List (List Int)}{highs a cts:List Int}{f sp:Nat}{c:CM}{r:List Int}:placeW able highs a cts (f+1) c r sp=(r[sp]?).elim (cond (aT sp r.length) (some ((a,cts),some r)) none) λhere=>(geti cts here).bind λn=>(geti highs here).bind λh=>
 cond (decide (n<h)) ((seti cts here (n+1)).bind λcts'=>(chainM c 8 a here).bind λa'=>some ((a',cts'),none))
  ((spreadM able here (memAt a here) c r).bind λx=>placeW able highs a cts f x.1 x.2 (sp+1)):=rfl
set_option smartUnfolding false in
theorem placeM_e{able:List (List Int)}{highs a cts:List Int}{m:Int}:placeM able highs a cts m=(getr able m).bind λos=>placeW able highs a cts 8 (os.map λo=>(o,(m,-1))) os 0:=rfl
set_option smartUnfolding false in
theorem alongM_s{c:CM}{w o:Int}{f:Nat}{a:List Int}:alongM c w (f+1) a o=cond (decide (o=w)) (some a) ((lookC o c).bind λx=>(seti a x.1 x.2).bind λa'=>alongM c w f a' x.2):=rfl
theorem c_pl_along(H:KF c):∀(able:List (List Int)) (lows highs a cs:List Int) (cm:CM) (o w n n2:Int) (cs1 cs2 a':List Int),(cs.length<=100/\a.length<=100)->(geti cs o=some n)->(seti cs o (n-1)=some cs1)->(geti cs1 w=some n2)->(seti cs1 w (n2+1)=some cs2)->(alongM cm w 8 a o=some a')->FS1 c 1 625 [plO able lows highs a cs,.v (.int o),.v (.int w),.dict (cm.map cmV)] (λQ=>Q (.v .none) [plO able lows highs a' cs2,.v (.int o),.v (.int w),.dict (cm.map cmV)]):=
 λable lows highs a cs cm o w n n2 cs1 cs2 a' hz0 g1 g2 g3 g4 g5=>.ofChk1 H (H.f 62 625 (stAt (bodyOf (stAt top 31)) 4) [122,101,147,18] rfl) [26,122,101,26,122,147,101,147,18,101,90,101,101,8,122,90] (w:=by
  intro Q q;obtain⟨h1,h2⟩:=hz0;refine seti_at h1 g2 λi1 i2 j i3 i4=>seti_at i2 g4 λk1 _ j2 k3 k4=>?_;have f1:=geti_at h1 g1;have f2:=geti_at i2 g3;walk_at"g";rw[show(cs.map V.int).set j (.int (augI .Sub n 1))=cs1.map .int from i4];walk_at"g";rw[show(cs1.map V.int).set j2 (.int (augI .Add n2 1))=cs2.map .int from k4];walk_at"g";refine while2_ 8 a o (λa o=>[(122,.obj 633 [1,79,58,8,26] [.v (.lst (able.map iL)),.v (iL lows),.v (iL highs),.list (a.map .int),.list (cs2.map .int)]),(101,.v (.int o)),(147,_),(18,_)])
   (λm a o G=>alongM cm w m a o=some a'->a.length<=100->G) rfl (λR k=>k g5 h2) (λm a1 o1 Q' i5 h3 hn' hr'=>?_) λa b z _=>nos z
  walk_at"g"
  ·rename_i t;refine ob_ (oF (decide_eq_false λz=>by rw[decide_eq_true z]at t;exact ff t) (ec_ alongM_s i5)) λx el i5=>ob_ i5 λa2 es i5=>?_;have f3:=lookC_at el;refine seti_at h3 es λm1 m2 j3 m3 m4=>?_;walk_at"g";rw[m4];exact hn' a2 x.2 _ (λR k=>k i5 m2) rfl
  ·rename_i t;rw[ab.inj (oT (by simpa using t) (ec_ alongM_s i5))];exact q)
theorem getr_mem{l:List (List Int)}{i:Int}{v:List Int}(h:getr l i=some v):v∈l:=by
 cases i with
 |ofNat n=>exact aF (h)
 |negSucc n=>exact nos h
theorem keys_cm(f:Int->Int×Int)(d:List Int):((d.map λo=>(o,f o)).map cmV).map (·.1)=d:=by
 rw[av,av];exact List.map_id'' (λ_=>rfl) d
structure PlOk(able:List (List Int))(lows highs a cs:List Int):Prop where
 la:able.length<=100
 ll:lows.length<=100
 lh:highs.length<=100
 ln:a.length<=100
 lc:cs.length<=100
 row:∀r∈able,r≠[]/\r.length<=10/\r.Nodup
theorem c_pl_place(H:KF c):∀(able:List (List Int)) (lows highs a cs:List Int) (m:Int) (res:(List Int×List Int)×Option (List Int)),(PlOk able lows highs a cs)->(placeM able highs a cs m=some res)->FS1 c 2 611 [plO able lows highs a cs,.v (.int m)] (λQ=>(∀a' c',res=((a',c'),none)->Q (.v .none) [plO able lows highs a' c',.v (.int m)])/\∀S,res=((a,cs),some S)->Q (.v (iL (sortI S))) [plO able lows highs a cs,.v (.int m)]):=
 λable lows highs a cs m res ok g=>.ofChk1 H (H.f 60 611 (stAt (bodyOf (stAt top 31)) 2) [122,86] rfl) [18,116,128,1,122,86,101,86,18,101,5,0,116,101,128,0,0,116,116,128,128,56,128,26,122,56,58,122,56,26,122,56,56,18,56,90,74,56,8,122,90,74,56,87,5,122,56,90,1,122,90,101,101,18,90,56,18,101,5,0,116,101,4,0,116] (w:=by
  rintro Q ⟨q1,q2⟩;refine ob_ (ec_ placeM_e g) λos er g=>?_;refine oaa (ok.row _ (getr_mem er)) λr1 r2 r3=>?_;have f1:=getr_at ok.la er;walk_at"g";refine loop1_ V.int (λd:List Int=>[(122,_),(86,_),(128,.v (.int 0)),(116,.list (d.map .int)),(18,.dict ((d.map λo=>(o,(m,(-1:Int)))).map cmV))]) (λus d G=>d++us=os->d.length<=10->G)
   (λu us d Q' hd dl hn' hr'=>?_) (λd hd dl=>?_) os [] (λR k=>k rfl (aZ _))
  ·have nu:u∉d:=λz=>(bN.mp (hd▸r3)).2.2 u z u (.head _) rfl;have pn:put1 ((d.map λo=>(o,(m,(-1:Int)))).map cmV) u (.tup [.int m,.int (-1)])=((d++[u]).map λo=>(o,(m,(-1:Int)))).map cmV:=by
    simp only[put1_new (by rw[keys_cm (λ_=>(m,-1))];exact dO.mpr λz=>nu (ax.mp z)),ah,ah];rfl
   have dl2:d.length+1<=10:=a6 (a6 (by simp only[←hd,aa];exact ay (bj (aZ _)) _) (aI os.length)) r2;walk_at"g";rw[pn,mapI_snoc];exact hn' (d++[u]) _ (λR k=>k (by rw[bg];exact hd) (by rw[aa];exact dl2)) rfl
  rw[aM]at hd;rw[←hd]at g r1;walk_at"g";refine while3_ 8 (d.map λo=>(o,(m,(-1:Int)))) d 0 (λ(c1:CM) (r:List Int) (sp:Nat)=>[(122,.obj 633 [1,79,58,8,26] [.v (.lst (able.map iL)),.v (iL lows),.v (iL highs),.list (a.map .int),.list (cs.map .int)]),(86,.v (.int m)),(128,.v (.int sp)),(116,.list (r.map .int)),(18,.dict (c1.map cmV))])
   (λf c1 r sp G=>placeW able highs a cs f c1 r sp=some res->c1.length=r.length->r.length<=50->1<=r.length->G) rfl (λR k=>k g (a7 _) (a6 dl (a5 rfl)) (cX.mpr r1)) (λf c1 r sp Q' i1 i2 i3 i4 hn' hr'=>?_) λa b d z _ _ _=>nos z
  walk_at"g"
  ·rename_i t;rw[a7]at t;have hs:sp<r.length:=bq.mp t;have eh:r[sp]?=some r[sp]:=a8 hs;have i1:=oe_ eh (ec_ placeW_s i1);generalize r[sp]=here at *;refine ob_ i1 λn en i1=>ob_ i1 λh em i1=>?_;have f2:itemAt (r.map V.int) (sp:Int)=some (.int here):=itemAt_nat (szMap (a6 i3 (a5 rfl))) (by rw[ae,eh];rfl);have f3:=geti_at ok.lc en;have f4:=geti_at ok.lh em;walk_at"g"
   ·rename_i lt;refine ob_ (oT (decide_eq_true lt) i1) λcs' es i1=>ob_ i1 λa' ec i1=>seti_at ok.lc es λm1 m2 j3 m3 m4=>?_;walk_at"g";rw[show(cs.map V.int).set j3 (.int (augI .Add n 1))=cs'.map .int from m4];walk_at"g";refine while2_ 8 a here (λa here=>[(122,.obj 633 [1,79,58,8,26] [.v (.lst (able.map iL)),.v (iL lows),.v (iL highs),.list (a.map .int),.list (cs'.map .int)]),(86,_),(128,_),(116,_),(18,_),(56,.v (.int here))])
     (λf a here G=>chainM c1 f a here=some a'->a.length<=100->G) rfl (λR k=>k ec ok.ln) (λf a1 h1 Q2 j1 j2 hn2 hr2=>?_) λa b z _=>nos z
    cases h1 with
    |negSucc k=>
     rw[ab.inj (j1)];walk_at"g";exact hr' _ _ (q1 a' cs' (ab.inj i1).symm)
    |ofNat k=>
     refine ob_ (ec_ chainM_n j1) λx el j1=>ob_ j1 λa2 ea j1=>seti_at j2 ea λn1 n2 j4 n3 n4=>?_;have f5:=lookC_at el;walk_at"g";rw[n4];exact hn2 a2 x.2 _ (λR k=>k j1 n2) rfl
   ·rename_i lt;refine ob_ (oF (decide_eq_false lt) i1) λy es i1=>call1_ (c_pl_at H able lows highs a cs here ok.ln) ?_;walk_at"g";refine loop2_ V.int (λ(c3:CM) (r3:List Int)=>[(122,.obj 633 [1,79,58,8,26] [.v (.lst (able.map iL)),.v (iL lows),.v (iL highs),.list (a.map .int),.list (cs.map .int)]),(86,.v (.int m)),(128,.v (.int ((sp:Int)+1))),(116,.list (r3.map .int)),(18,.dict (c3.map cmV)),(56,.v (.int here))])
     (λus c3 r3 G=>spreadM able here us c3 r3=some y->c3.length=r3.length->r3.length<=50->1<=r3.length->G) (λu us c3 r3 Q2 k1 k2 k3 k4 hn2 hr2=>?_) (λc3 r3 k1 k2 k3 k4=>?_) (memAt a here) c1 r λR k=>k es i2 i3 i4
    ·refine ob_ (ec_ spreadM_c k1) λos eo k1=>ob_ k1 λx ea k1=>?_;have f5:=getr_at ok.la eo;walk_at"g";refine loop2_ V.int (λ(c5:CM) (r5:List Int)=>[(122,.obj 633 [1,79,58,8,26] [.v (.lst (able.map iL)),.v (iL lows),.v (iL highs),.list (a.map .int),.list (cs.map .int)]),(86,.v (.int m)),(128,.v (.int ((sp:Int)+1))),(116,.list (r5.map .int)),(18,.dict (c5.map cmV)),(56,.v (.int here)),(90,.v (.int u))])
      (λus c5 r5 G=>addAll u here us c5 r5=some x->c5.length=r5.length->r5.length<=50->1<=r5.length->G) (λo os c5 r5 Q3 l1 l2 l3 l4 hn3 hr3=>?_) (λc5 r5 l1 l2 l3 l4=>?_) os c3 r3 λR k=>k ea k2 k3 k4
     ·refine oc_ (ec_ addAll_c l1) (λek l1=>?_) λek l1=>og_ l1 λeb l1=>?_
      ·walk_at"g"
       ·rename_i z;rw[keyIn_at,ek]at z;exact ff z
       ·exact hn3 c5 r5 _ (λR k=>k l1 l2 l3 l4) rfl
      ·have hb:r5.length<50:=a5 eb;have pn:put1 (c5.map cmV) o (.tup [.int u,.int here])=(c5++[(o,(u,here))]).map cmV:=by
        refine(put1_new (by rw[keyIn_at];exact ek)).symm▸?_;rw[ah];rfl
       walk_at"g"
       ·rw[pn,mapI_snoc];exact hn3 (c5++[(o,(u,here))]) (r5++[o]) _ (λR k=>k l1 (by rw[aa,aa,l2];rfl) (by rw[aa];exact hb) (by rw[aa];exact ck _)) rfl
       ·rename_i z;rw[keyIn_at,ek]at z;exact ff z.symm
     ·obtain rfl:=ab.inj l1;walk_at"g";exact hn2 c5 r5 _ (λR k=>k k1 l2 l3 l4) rfl
    ·obtain rfl:=ab.inj k1;walk_at"g";exact hn' c3 r3 (sp+1) _ (λR k=>k i1 k2 k3 k4) rfl
  ·rename_i t;rw[a7]at t;have i1:=oN_ (bA (aW.mp λz=>t (bq.mpr z))) (ec_ placeW_s i1);refine og_ i1 λeb i1=>?_;refine pr_ ⟨cX.mp i4,aL i3 (a5 rfl)⟩ ?_;walk_at"g";exact q2 r (ab.inj i1).symm)
theorem range_ints(n:Nat):(rangeI 0 (n:Int)).map V.int=(intsN n).map V.int:=by
 rw[range_int];unfold intsN;rw[av];rfl
noncomputable def FR.on{β:Type}(x:FR)(f:List Int->List Int->β)(g:CM->List Int->β):β:=match x with|.done a c=>f a c|.go c r=>g c r
set_option smartUnfolding false in
theorem fillI_c{able:List (List Int)}{lows a cts:List Int}{wanted here mv:Int}{ms:List Int}{c:CM}{r:List Int}:fillI able lows a cts wanted here (mv::ms) c r=(geti a mv).bind λo=>(getr able mv).bind λos=>cond (os.contains here&&!keyIn o c)
 ((geti cts o).bind λn=>(geti lows o).bind λl=>cond (decide (l<n))
   ((seti cts o (n-1)).bind λcts1=>(geti cts1 wanted).bind λn2=>(seti cts1 wanted (n2+1)).bind λcts2=>(alongM (c++[(o,(mv,here))]) wanted 8 a o).bind λa'=>some (.done a' cts2))
   (cond (dz r.length 50) (fillI able lows a cts wanted here ms (c++[(o,(mv,here))]) (r++[o])) none))
 (fillI able lows a cts wanted here ms c r):=rfl
set_option smartUnfolding false in
theorem fillW_s{able:List (List Int)}{lows a cts:List Int}{wanted:Int}{f sp:Nat}{c:CM}{r:List Int}:fillW able lows a cts wanted (f+1) c r sp=(r[sp]?).elim (cond (aT sp r.length) (some ((a,cts),some r)) none) λhere=>(fillI able lows a cts wanted here (intsN a.length) c r).bind λx=>
 x.on (λa' cts'=>some ((a',cts'),none)) λc' r'=>fillW able lows a cts wanted f c' r' (sp+1):=rfl
theorem c_pl_fill(H:KF c):∀(able:List (List Int)) (lows highs a cs:List Int) (w:Int) (res:(List Int×List Int)×Option (List Int)),(PlOk able lows highs a cs)->(fillM able lows a cs w=some res)->FS1 c 2 618 [plO able lows highs a cs,.v (.int w)] (λQ=>(∀a' c',res=((a',c'),none)->Q (.v .none) [plO able lows highs a' c',.v (.int w)])/\∀S,res=((a,cs),some S)->Q (.v (iL (sortI S))) [plO able lows highs a cs,.v (.int w)]):=
 λable lows highs a cs w res ok g=>.ofChk1 H (H.f 61 618 (stAt (bodyOf (stAt top 31)) 3) [122,147] rfl) [147,147,18,116,128,128,0,0,116,116,128,128,56,128,5,0,0,0,8,122,90,8,122,90,101,56,1,122,90,101,18,90,56,18,101,5,0,116,101,26,122,101,79,122,101,89,5,122,101,147,18,4,0,116] (w:=by
  rintro Q ⟨q1,q2⟩;unfold plO at *;have g:fillW able lows a cs w 8 [(w,(-1,-1))] [w] 0=some res:=g;have ln:=ok.ln;walk_at"g";refine while3_ 8 [(w,(-1,-1))] [w] 0 (λ(c1:CM) (r:List Int) (sp:Nat)=>[(122,.obj 633 [1,79,58,8,26] [.v (.lst (able.map iL)),.v (iL lows),.v (iL highs),.list (a.map .int),.list (cs.map .int)]),(147,.v (.int w)),(128,.v (.int sp)),(116,.list (r.map .int)),(18,.dict (c1.map cmV))])
   (λf c1 r sp G=>fillW able lows a cs w f c1 r sp=some res->c1.length=r.length->r.length<=50->1<=r.length->G) rfl (λR k=>k g rfl (a5 rfl) (aI 1)) (λf c1 r sp Q' i1 i2 i3 i4 hn' hr'=>?_) λa b d z _ _ _=>nos z
  walk_at"g"
  ·rename_i t;rw[a7]at t;have hs:sp<r.length:=bq.mp t;have eh:r[sp]?=some r[sp]:=a8 hs;have i1:=oe_ eh (ec_ fillW_s i1);generalize r[sp]=here at *;refine ob_ i1 λy ef i1=>?_;have f2:itemAt (r.map V.int) (sp:Int)=some (.int here):=itemAt_nat (szMap (a6 i3 (a5 rfl))) (by rw[ae,eh];rfl);walk_at"g";refine loop2_ V.int (λ(c3:CM) (r3:List Int)=>[(122,.obj 633 [1,79,58,8,26] [.v (.lst (able.map iL)),.v (iL lows),.v (iL highs),.list (a.map .int),.list (cs.map .int)]),(147,.v (.int w)),(128,.v (.int ((sp:Int)+1))),(116,.list (r3.map .int)),(18,.dict (c3.map cmV)),(56,.v (.int here))])
    (λus c3 r3 G=>fillI able lows a cs w here us c3 r3=some y->c3.length=r3.length->r3.length<=50->1<=r3.length->G) (λu us c3 r3 Q2 k1 k2 k3 k4 hn2 hr2=>?_) (λc3 r3 k1 k2 k3 k4=>?_) (intsN a.length) c1 r (λR k=>k ef i2 i3 i4) (e:=?_)
   ·refine ob_ (ec_ fillI_c k1) λo eo k1=>ob_ k1 λos er k1=>?_;have f3:=geti_at ok.ln eo;have f4:=getr_at ok.la er;walk_at"g";refine inI_ (br_ (λe1=>?_) (λe1=>?_))
    ·cases ek:keyIn o c3 with
     |true=>
      have k1:=oF (by rw[e1,ek];rfl) k1;walk_at"g"
      ·rename_i z;rw[keyIn_at,ek]at z;exact ff z
      ·exact hn2 c3 r3 _ (λR k=>k k1 k2 k3 k4) rfl
     |false=>
      refine ob_ (oT (by rw[e1,ek];rfl) k1) λn en k1=>ob_ k1 λl em k1=>?_;have pn:put1 (c3.map cmV) o (.tup [.int u,.int here])=(c3++[(o,(u,here))]).map cmV:=by
       rw[put1_new (by rw[keyIn_at];exact ek),ah];rfl
      have f5:=geti_at ok.lc en;have f6:=geti_at ok.ll em;walk_at"g"
      ·rename_i z lt;refine ob_ (oT (decide_eq_true lt) k1) λcs1 e2 k1=>ob_ k1 λn2 e3 k1=>ob_ k1 λcs2 e4 k1=>ob_ k1 λa' e5 k1=>?_;rw[pn];refine call1_ (c_pl_along H able lows highs a cs (c3++[(o,(u,here))]) o w n n2 cs1 cs2 a' ⟨ok.lc,ln⟩ en e2 e3 e4 e5) ?_;unfold plO at *;walk_at"g";refine hr2 _ _ (hr' _ _ (q1 a' cs2 ?_));rw[←ab.inj k1]at i1;exact(ab.inj i1).symm
      ·rename_i z lt;refine og_ (oF (decide_eq_false lt) k1) λeb k1=>?_;have hb:r3.length<50:=a5 eb;rw[pn,mapI_snoc];exact hn2 (c3++[(o,(u,here))]) (r3++[o]) _ (λR k=>k k1 (by rw[aa,aa,k2];rfl) (by rw[aa];exact hb) (by rw[aa];exact ck _)) rfl
      ·rename_i z;rw[keyIn_at,ek]at z;exact ff z.symm
    ·have k1:=oF (by rw[e1];rfl) k1;walk_at"g";exact hn2 c3 r3 _ (λR k=>k k1 k2 k3 k4) rfl
   ·obtain rfl:=ab.inj k1;walk_at"g";exact hn' c3 r3 (sp+1) _ (λR k=>k i1 k2 k3 k4) rfl
   ·rw[a7];exact range_ints _
  ·rename_i t;rw[a7]at t;have i1:=oN_ (bA (aW.mp λz=>t (bq.mpr z))) (ec_ fillW_s i1);refine og_ i1 λeb i1=>?_;refine pr_ ⟨cX.mp i4,aL i3 (a5 rfl)⟩ ?_;walk_at"g";exact q2 r (ab.inj i1).symm)
set_option smartUnfolding false in
theorem freshM_c{able:List (List Int)}{mv:Int}{ms:List Int}:freshM able (mv::ms)=(getr able mv).bind λos=>(freshM able ms).bind λr=>some (os++r):=rfl
set_option smartUnfolding false in
theorem addF_c{o:Int}{os r:List Int}:addF (o::os) r=cond (r.contains o) (addF os r) (cond (dz r.length 50) (addF os (r++[o])) none):=rfl
set_option smartUnfolding false in
theorem reachW_s{able:List (List Int)}{lows highs a cts r:List Int}{f sp:Nat}{room:Bool}:reachW able lows highs a cts (f+1) r sp room=(r[sp]?).elim (cond (aT sp r.length) (some (r,room)) none) λhere=>(geti cts here).bind λn=>(geti highs here).bind λh=>(freshM able (memAt a here)).bind λfr=>
 cond (!room&&decide (n<h)) ((addF (over lows cts++fr) r).bind λr'=>reachW able lows highs a cts f r' (sp+1) true)
  ((addF fr r).bind λr'=>reachW able lows highs a cts f r' (sp+1) room):=rfl
theorem fresh_len{able:List (List Int)}(h:∀r∈able,r.length<=10):∀{ms fr:List Int},freshM able ms=some fr->fr.length<=10*ms.length:=by
 intro ms
 induction ms with
 |nil=>intro fr e;rw[←ab.inj e];exact aI _
 |cons m ms ih=>
  intro fr e;refine ob_ (ec_ freshM_c e) λos er e=>ob_ e λr ef e=>?_;rw[←ab.inj e,aa,am,d0,cB];exact bL (ih ef) (h _ (getr_mem er))
theorem memAt_len(a:List Int)(o:Int):(memAt a o).length<=a.length:=by
 unfold memAt;rw[a7];exact a6 (ak _ _) (aJ be)
section
variable{c:Cx}
theorem reach_tail(H:KF c){able:List (List Int)}{lows highs a cs:List Int}{o here:Int}{r acc fr r':List Int}{sp:Nat}{room:Bool}{Q':Fw->FrL->Prop}(ok:PlOk able lows highs a cs)(hr:r.length<=50/\1<=r.length)(ha:acc.length<=100)(ef:freshM able (memAt a here)=some fr)(eF:addF (acc++fr) r=some r')
 (q:∀fr2,r'.length<=50/\1<=r'.length->fr2.take 6=[(122,.obj 633 [1,79,58,8,26] [.v (.lst (able.map iL)),.v (iL lows),.v (iL highs),.list (a.map .int),.list (cs.map .int)]),(101,.v (.int o)),(46,.dict (r'.map cT)),(116,.list (r'.map .int)),(128,.v (.int ((sp:Int)+1))),(53,.v (.bool room))]->Q' .nxt fr2):
 fSeq (fFor (.one 90) (fPur (fMeth 87 .text (fOp (fName 122)) (fOcons (fOp (fName 56)) fNil true) (true&&true)))
  (fSeq (fExp (fMeth 37 .extend (fOp (fName 47)) (fOcons (fOpV (fItem (fOp (fAttr 1 (fName 122))) (fOp (fName 90)) true)) fNil true) (true&&true&&true))) fNext))
  (fSeq (fFor (.one 73) (fPur (fName 47)) (fSeq (fIfS (fCmp .NotIn (fOp (fName 73)) (fOp (fName 46)) true)
        (fSeq (fAsgI (fV (.bool true)) (fOp (fName 46)) (fOp (fName 73)) true) (fSeq (fExp (fMeth 5 .append (fOp (fName 116)) (fOcons (fOp (fName 73)) fNil true) (true&&true))) fNext)) fNext) fNext)) fNext)
 ⟨c,1⟩ [(122,.obj 633 [1,79,58,8,26] [.v (.lst (able.map iL)),.v (iL lows),.v (iL highs),.list (a.map .int),.list (cs.map .int)]),(101,.v (.int o)),(46,.dict (r.map cT)),(116,.list (r.map .int)),(128,.v (.int ((sp:Int)+1))),(53,.v (.bool room)),(47,.list (acc.map .int)),(56,.v (.int here))] Q':=by
 have fl:=a6 (fresh_len (λr hr=>(ok.row r hr).2.1) ef) (aU 10 (a6 (memAt_len a here) ok.ln));have ml:(memAt a here).length<=100:=a6 (memAt_len a here) ok.ln;walk_at"g";refine call1_ (c_pl_at H able lows highs a cs here ok.ln) ?_;walk_at"g";refine loop1_ V.int (λst:List Int=>[(122,.obj 633 [1,79,58,8,26] [.v (.lst (able.map iL)),.v (iL lows),.v (iL highs),.list (a.map .int),.list (cs.map .int)]),(101,.v (.int o)),(46,.dict (r.map cT)),(116,.list (r.map .int)),(128,.v (.int ((sp:Int)+1))),(53,.v (.bool room)),(47,.list (st.map .int)),(56,.v (.int here))])
  (λus st G=>∀rest,freshM able us=some rest->st++rest=acc++fr->G) (λu us st Q2 rest k1 k2 hn2 hr2=>?_) (λst rest k1 k2=>?_) (memAt a here) acc λR k=>k fr ef rfl
 ·refine ob_ (ec_ freshM_c k1) λos eo k1=>ob_ k1 λrest2 em k1=>?_;rw[←ab.inj k1]at k2;have f5:=getr_at ok.la eo;have sz:st.length+os.length<=1100:=by
   have:=bL ha fl;rw[←aa,←k2,←bg,aa,aa]at this;exact a6 (an _ _) this
  walk_at"g";rw[show st.map V.int++os.map V.int=(st++os).map V.int from ah.symm];exact hn2 (st++os) _ (λR k=>k rest2 em (by rw[bg];exact k2)) rfl
 ·rw[←ab.inj k1,aM]at k2;rw[k2];walk_at"g";refine loop1_ V.int (λst:List Int=>[(122,.obj 633 [1,79,58,8,26] [.v (.lst (able.map iL)),.v (iL lows),.v (iL highs),.list (a.map .int),.list (cs.map .int)]),(101,.v (.int o)),(46,.dict (st.map cT)),(116,.list (st.map .int)),(128,.v (.int ((sp:Int)+1))),(53,.v (.bool room)),(47,.v (iL (acc++fr))),(56,.v (.int here))])
   (λus st G=>addF us st=some r'->st.length<=50->1<=st.length->G) (λu us st Q2 k1 k2 k3 hn2 hr2=>?_) (λst k1 k2 k3=>?_) (acc++fr) r λR k=>k eF hr.1 hr.2
  ·refine oc_ (ec_ addF_c k1) (λek k1=>?_) λek k1=>og_ k1 λeb k1=>?_
   ·walk_at"g"
    ·rename_i z;rw[keys_cT,ek]at z;exact ff z
    ·exact hn2 st _ (λR k=>k k1 k2 k3) rfl
   ·have hb:st.length<50:=a5 eb;have pn:put1 (st.map cT) u (.bool true)=(st++[u]).map cT:=by
     rw[put1_new (by rw[keys_cT];exact ek),ah];rfl
    walk_at"g"
    ·rw[pn,mapI_snoc];exact hn2 (st++[u]) _ (λR k=>k k1 (by rw[aa];exact hb) (by rw[aa];exact ck _)) rfl
    ·rename_i z;rw[keys_cT,ek]at z;exact ff z.symm
  ·rw[ab.inj k1]at k2 k3⊢;walk_at"g";exact q _ ⟨k2,k3⟩ rfl
end
theorem c_pl_reached(H:KF c):∀(able:List (List Int)) (lows highs a cs:List Int) (o:Int) (r:List Int) (room:Bool),(PlOk able lows highs a cs)->(cs.length=lows.length)->(reachM able lows highs a cs o=some (r,room))->FS1 c 2 630 [plO able lows highs a cs,.v (.int o)] (λQ=>Q (.v (.tup [iL (sortI r),.bool room])) [plO able lows highs a cs,.v (.int o)]):=
 λable lows highs a cs o res rr ok hcl g=>.ofChk1 H (H.f 63 630 (stAt (bodyOf (stAt top 31)) 5) [122,101] rfl) [101,101,46,116,128,53,128,0,0,116,116,128,128,56,128,47,53,26,122,56,58,122,56,53,37,2,47,5,0,0,0,79,122,1,122,73,26,122,73,79,122,73,73,87,5,122,56,90,37,2,47,1,122,90,47,73,73,46,46,73,5,0,116,73,4,0,46,53] (w:=by
  intro Q q;unfold plO at *;have g:=g;have ln:=ok.ln;have ll:=ok.ll;walk_at"g";refine while3_ 8 [o] 0 false (λ(r:List Int) (sp:Nat) (room:Bool)=>[(122,.obj 633 [1,79,58,8,26] [.v (.lst (able.map iL)),.v (iL lows),.v (iL highs),.list (a.map .int),.list (cs.map .int)]),(101,.v (.int o)),(46,.dict (r.map cT)),(116,.list (r.map .int)),(128,.v (.int sp)),(53,.v (.bool room))])
   (λf r sp room G=>reachW able lows highs a cs f r sp room=some (res,rr)->r.length<=50->1<=r.length->G) rfl (λR k=>k g (a5 rfl) (aI 1)) (λf r sp room Q' i1 i3 i4 hn' hr'=>?_) λa b d z _ _=>nos z
  walk_at"g"
  ·rename_i t;rw[a7]at t;have hs:sp<r.length:=bq.mp t;have eh:r[sp]?=some r[sp]:=a8 hs;have i1:=oe_ eh (ec_ reachW_s i1);generalize r[sp]=here at *;have f2:itemAt (r.map V.int) (sp:Int)=some (.int here):=itemAt_nat (szMap (a6 i3 (a5 rfl))) (by rw[ae,eh];rfl);refine ob_ i1 λn en i1=>ob_ i1 λh em i1=>ob_ i1 λfr ef i1=>?_;have f3:=geti_at ok.lc en;have f4:=geti_at ok.lh em;cases room with
   |true=>
    refine ob_ (oF rfl i1) λr' eF i1=>?_;walk_at"g";exact reach_tail H ok ⟨i3,i4⟩ (acc:=[]) (aZ _) ef eF λfr2 hr e=>hn' r' (sp+1) true fr2 (λR k=>k i1 hr.1 hr.2) e
   |false=>
    walk_at"g"
    ·rename_i lt;have ol:(over lows cs).length<=100:=by
      unfold over;rw[a7];exact a6 (ak _ _) (by rw[be];exact ll)
     refine ob_ (oT (decide_eq_true lt) i1) λr' eF i1=>?_;refine accF (ao lows.length) (λk:Nat=>V.int k) (λk=>decide (lows.getD k 0<cs.getD k 0)) (λk:Nat=>V.int k) (by rw[a7];exact range_int _) (λk hk acc Q2 ha hq hr=>?_) (by rw[be];exact a6 ll (a5 rfl)) ?_
     ·have hk:=aC.mp hk;have f5:itemAt (cs.map V.int) (k:Int)=some (.int (cs.getD k 0)):=itemAt_nat (szMap (a6 ok.lc (a5 rfl))) (by rw[ae,a9,a8 (hcl▸hk)];rfl);have f6:itemAt (lows.map V.int) (k:Int)=some (.int (lows.getD k 0)):=itemAt_nat (szMap (a6 ll (a5 rfl))) (by rw[ae,a9,a8 hk];rfl);walk_at"g"
      ·rename_i e;exact hq (decide_eq_true e) _ rfl
      ·rename_i e;exact hr (decide_eq_false e) _ rfl
     have e1:((ao lows.length).filter λk=>decide (lows.getD k 0<cs.getD k 0)).map (λk:Nat=>V.int k)=(over lows cs).map V.int:=by unfold over;rw[av];rfl
     rw[e1];have ol2:((over lows cs).map V.int).length<=100:=szMap ol;walk_at"g";exact reach_tail H ok ⟨i3,i4⟩ (acc:=over lows cs) ol ef eF λfr2 hr e=>hn' r' (sp+1) true fr2 (λR k=>k i1 hr.1 hr.2) e
    ·rename_i lt;refine ob_ (oF (decide_eq_false lt) i1) λr' eF i1=>?_;exact reach_tail H ok ⟨i3,i4⟩ (acc:=[]) (aZ _) ef eF λfr2 hr e=>hn' r' (sp+1) false fr2 (λR k=>k i1 hr.1 hr.2) e
  ·rename_i t;rw[a7]at t;have i1:=oN_ (bA (aW.mp λz=>t (bq.mpr z))) (ec_ reachW_s i1);refine og_ i1 λeb i1=>?_;have e:=ab.inj i1;have kk:=keys_cT r;walk_at"g";refine pr_ ⟨λz=>by rw[fk.mp z]at i4;exact absurd i4 (by decide),by rw[a7];exact aL i3 (a5 rfl)⟩ ?_;rw[kk];walk_at"g";rw[(Prod.mk.inj e).1,(Prod.mk.inj e).2];exact q)
noncomputable def iT(l:List Int):V:=.tup (l.map .int)
noncomputable def cdP(tk:List Nat)(rw rl rh w l h:List Int):MW:=.obj 711 [96,118,132,136,117,147,79,58] [.v (.int (-1)),.v (.tup (vN tk)),.v (.str (Str.ofString "values")),.v (.tup (vN tk)),.v (.tup [iT rw,iT rl,iT rh]),.list (w.map .int),.list (l.map .int),.list (h.map .int)]
noncomputable def cdO(tk:List Nat)(rw rl rh w l h:List Int)(tw:Bool):MW:=.obj 711 [96,118,132,136,117,147,79,58,54] [.v (.int (-1)),.v (.tup (vN tk)),.v (.str (Str.ofString "values")),.v (.tup (vN tk)),.v (.tup [iT rw,iT rl,iT rh]),.list (w.map .int),.list (l.map .int),.list (h.map .int),.v (.bool tw)]
noncomputable def wantM(s:List Int×List Int×List Int)(v lo hi:Int):List Int×List Int×List Int:=match s.1.contains v with
 |true=>(s.1,s.2.1.set (s.1.idxOf v) (max (s.2.1.getD (s.1.idxOf v) 0) lo),s.2.2.set (s.1.idxOf v) (min (s.2.2.getD (s.1.idxOf v) 0) hi))
 |false=>(s.1++[v],s.2.1++[lo],s.2.2++[hi])
section
variable{c:Cx}
theorem c_cd_told(H:KF c):∀(tk:List Nat) (rw rl rh w l h:List Int) (tw:Bool),FS1 c 1 708 [cdO tk rw rl rh w l h tw] (λQ=>Q (.v (.tup [.str (Str.ofString "cardinality"),.tup (vN tk),iT rw,iT rl,iT rh])) [cdO tk rw rl rh w l h tw]):=
 λtk rw rl rh w l h tw=>.ofChk1 H (H.f 72 708 (stAt (bodyOf (stAt top 32)) 9) [122] rfl) [136,122,117,122] (w:=by
  intro Q q;walk_at"g";exact q)
theorem c_cd_want(H:KF c):∀(tk:List Nat) (rw rl rh w l h:List Int) (v lo hi:Int),(w.length<=50)->(l.length=w.length)->(h.length=w.length)->FS1 c 1 660 [cdP tk rw rl rh w l h,.v (.int v),.v (.int lo),.v (.int hi)] (λQ=>Q (.v .none) [cdP tk rw rl rh (wantM (w,l,h) v lo hi).1 (wantM (w,l,h) v lo hi).2.1 (wantM (w,l,h) v lo hi).2.2,.v (.int v),.v (.int lo),.v (.int hi)]):=
 λtk rw rl rh w l h v lo hi h1 h2 h3=>.ofBody1 H.gd (H.f 64 660 (stAt (bodyOf (stAt top 32)) 1) [122,141,78,57] rfl) (SS.cons (SS1.if_ (SB.cmp (SO.of (SE.name n_v)) (SO.of (SE.attr H.ka (SE.name n_self) n_wanted (λ_=>rfl))) rfl) (SS.cons (SS1.asg (SE.meth H.ka (lm:=.index) n_index rfl (λ_=>CallW.b (λ_=>rfl) (λ_ _=>rfl)) (λ_ h=>CallW.fn h (λ_=>rfl) (λ_ _=>rfl)) (SO.of (SE.attr H.ka (SE.name n_self) n_wanted (λ_=>rfl))) (SOs.cons (λ_=>rfl) (SO.of (SE.name n_v)) SOs.nil) (λ_=>⟨_,rfl⟩)) n_k (.inl rfl) (λ_ _=>rfl)) (SS.cons (SS1.asgII (SV.of (SE.bi biMax (CV.builtin (v:=.builtin "max") (H.b 1 "max" rfl) rfl (by decide) rfl rfl) (λenv pos A s Q X h=>CallW.b (λ_=>rfl) (λ_ _=>rfl) env pos A s [] Q X h) (SOs.cons (λ_=>rfl) (SO.ofV (SV.item (SO.of (SE.attr H.ka (SE.name n_self) n_lows (λ_=>rfl))) (SO.of (SE.name n_k)) (λ_ _=>rfl))) (SOs.cons (λ_=>rfl) (SO.of (SE.name n_low)) SOs.nil)) (λ_=>rfl))) (SV.of (SE.bi biMin (CV.builtin (v:=.builtin "min") (H.b 2 "min" rfl) rfl (by decide) rfl rfl) (λenv pos A s Q X h=>CallW.b (λ_=>rfl) (λ_ _=>rfl) env pos A s [] Q X h) (SOs.cons (λ_=>rfl) (SO.ofV (SV.item (SO.of (SE.attr H.ka (SE.name n_self) n_highs (λ_=>rfl))) (SO.of (SE.name n_k)) (λ_ _=>rfl))) (SOs.cons (λ_=>rfl) (SO.of (SE.name n_high)) SOs.nil)) (λ_=>rfl))) (SO.of (SE.attr H.ka (SE.name n_self) n_lows (λ_=>rfl))) (SO.of (SE.name n_k)) (SO.of (SE.attr H.ka (SE.name n_self) n_highs (λ_=>rfl))) (SO.of (SE.name n_k)) (λ_=>rfl) (λ_=>rfl) (λ_=>rfl) (λe h=>by cases e;subst h;rfl) (λ_=>rfl)) SS.nil)) (SS.cons (SS1.expr (SE.meth H.ka (lm:=.append) n_append rfl (λ_=>CallW.b (λ_=>rfl) (λ_ _=>rfl)) (λ_ h=>CallW.fn h (λ_=>rfl) (λ_ _=>rfl)) (SO.of (SE.attr H.ka (SE.name n_self) n_wanted (λ_=>rfl))) (SOs.cons (λ_=>rfl) (SO.of (SE.name n_v)) SOs.nil) (λ_=>⟨_,rfl⟩)) (λ_=>rfl)) (SS.cons (SS1.expr (SE.meth H.ka (lm:=.append) n_append rfl (λ_=>CallW.b (λ_=>rfl) (λ_ _=>rfl)) (λ_ h=>CallW.fn h (λ_=>rfl) (λ_ _=>rfl)) (SO.of (SE.attr H.ka (SE.name n_self) n_lows (λ_=>rfl))) (SOs.cons (λ_=>rfl) (SO.of (SE.name n_low)) SOs.nil) (λ_=>⟨_,rfl⟩)) (λ_=>rfl)) (SS.cons (SS1.expr (SE.meth H.ka (lm:=.append) n_append rfl (λ_=>CallW.b (λ_=>rfl) (λ_ _=>rfl)) (λ_ h=>CallW.fn h (λ_=>rfl) (λ_ _=>rfl)) (SO.of (SE.attr H.ka (SE.name n_self) n_highs (λ_=>rfl))) (SOs.cons (λ_=>rfl) (SO.of (SE.name n_high)) SOs.nil) (λ_=>⟨_,rfl⟩)) (λ_=>rfl)) SS.nil)))) SS.nil) (by
  intro Q q;unfold cdP wantM at *;dsimp only at q;walk_at"g";refine inI_ (br_ (λe1=>?_) (λe1=>?_))
  ·replace q:=(e1)▸q;dsimp only at q;have hm:v∈w:=ax.mp e1;have hk:w.idxOf v<w.length:=bx.mpr hm;have kl:w.idxOf v<l.length:=h2.symm▸hk;have kh:w.idxOf v<h.length:=h3.symm▸hk;have f1:itemAt (l.map V.int) ((w.idxOf v:Nat):Int)=some (.int (l.getD (w.idxOf v) 0)):=itemAt_nat (szMap (leC (aJ h2) h1 rfl)) (by rw[ae,a9,a8 kl];rfl);have f2:itemAt (h.map V.int) ((w.idxOf v:Nat):Int)=some (.int (h.getD (w.idxOf v) 0)):=itemAt_nat (szMap (leC (aJ h3) h1 rfl)) (by rw[ae,a9,a8 kh];rfl);have f3:idx? ((w.idxOf v:Nat):Int) (l.map V.int).length=some (w.idxOf v):=idx_nat (by rw[a7];exact kl);have f4:idx? ((w.idxOf v:Nat):Int) (h.map V.int).length=some (w.idxOf v):=idx_nat (by rw[a7];exact kh);walk_at"g";refine pr_ ⟨a6 ‹_› (a5 rfl),hm⟩ ?_;walk_at"g";rw[dt,dt]at q;exact q
  ·rw[e1]at q;dsimp only at q;rw[ah,ah,ah]at q;walk_at"g";exact q)
noncomputable def mergeM:List (Int×Int×Int)->List Int×List Int×List Int->List Int×List Int×List Int
 |[],s=>s
 |r::rs,s=>mergeM rs (wantM s r.1 (max r.2.1 0) r.2.2)
def SameL3(s:List Int×List Int×List Int):Prop:=s.2.1.length=s.1.length/\s.2.2.length=s.1.length
theorem wantM_len{s:List Int×List Int×List Int}(h:SameL3 s)(v lo hi:Int):SameL3 (wantM s v lo hi)/\(wantM s v lo hi).1.length<=s.1.length+1:=by
 refine oa h λh1 h2=>?_;unfold wantM;cases s.1.contains v with
 |true=>exact⟨⟨cW.trans h1,cW.trans h2⟩,cb _⟩
 |false=>exact⟨⟨by simp only[aa,bn,h1],by simp only[aa,bn,h2]⟩,by simp only[aa,bn];exact aI _⟩
noncomputable def t3V(r:Int×Int×Int):V:=.tup [.int r.1,.int r.2.1,.int r.2.2]
theorem zip3_t3:∀rs:List (Int×Int×Int),zip3V ((rs.map (·.1)).map .int) ((rs.map (·.2.1)).map .int) ((rs.map (·.2.2)).map .int)=rs.map t3V
 |[]=>rfl
 |r::rs=>congrArg (t3V r::·) (zip3_t3 rs)
theorem intsN_vN(tk:List Nat):intsOf (vN tk)=some (tk.map bp):=by
 rw[show vN tk=(tk.map bp).map V.int by rw[av];rfl];exact intsOf_map _
noncomputable def twins(tk:List Nat):Bool:=decide (((kinds (tk.map bp)).length:Int)<((vN tk).length:Int))
theorem c_cd_init(H:KF c):∀(tk:List Nat) (rs:List (Int×Int×Int)),(tk.length<=3)->(rs.length<=2)->FS1 c 2 653 [.obj 711 [] [],.v (.tup (vN tk)),.v (iT (rs.map (·.1))),.v (iT (rs.map (·.2.1))),.v (iT (rs.map (·.2.2)))] (λQ=>Q (.v .none) [cdO tk (rs.map (·.1)) (rs.map (·.2.1)) (rs.map (·.2.2)) (mergeM rs ([],[],[])).1 (mergeM rs ([],[],[])).2.1 (mergeM rs ([],[],[])).2.2 (twins tk),.v (.tup (vN tk)),.v (iT (rs.map (·.1))),.v (iT (rs.map (·.2.1))),.v (iT (rs.map (·.2.2)))]):=
 λtk rs hl hr=>.ofSuper1 H.gd (H.s 4 653 (stAt (bodyOf (stAt top 32)) 0) [122,136,147,79,58] 711 rfl) (c_pinit H) rfl (SOs.cons (λ_=>rfl) (SO.of (SE.name n_taken)) (SOs.cons (λ_=>rfl) (SO.ofV SV.str) SOs.nil)) (λ_=>rfl) (λ_ _=>rfl) (λ_=>⟨_,rfl⟩) (λ_=>rfl) (SS.cons (SS1.asgA H.ka (SE.bi biTuple (CV.builtin (v:=.type "tuple") (H.b 6 "tuple" rfl) rfl (by decide) rfl rfl) (λenv pos A s Q _ h=>CallW.t (λ_=>rfl) (λ_ _=>rfl) env pos A s Q h) (SOs.cons (λ_=>rfl) (SO.of (SE.name n_taken)) SOs.nil) (λ_=>rfl)) (SE.name n_self) n_taken (λ_=>rfl) (λ_=>rfl)) (SS.cons (SS1.asgA H.ka (SE.of (SV.tuple (SVs.cons (λ_=>rfl) (SV.of (SE.bi biTuple (CV.builtin (v:=.type "tuple") (H.b 6 "tuple" rfl) rfl (by decide) rfl rfl) (λenv pos A s Q _ h=>CallW.t (λ_=>rfl) (λ_ _=>rfl) env pos A s Q h) (SOs.cons (λ_=>rfl) (SO.of (SE.name n_wanted)) SOs.nil) (λ_=>rfl))) (SVs.cons (λ_=>rfl) (SV.of (SE.bi biTuple (CV.builtin (v:=.type "tuple") (H.b 6 "tuple" rfl) rfl (by decide) rfl rfl) (λenv pos A s Q _ h=>CallW.t (λ_=>rfl) (λ_ _=>rfl) env pos A s Q h) (SOs.cons (λ_=>rfl) (SO.of (SE.name n_lows)) SOs.nil) (λ_=>rfl))) (SVs.cons (λ_=>rfl) (SV.of (SE.bi biTuple (CV.builtin (v:=.type "tuple") (H.b 6 "tuple" rfl) rfl (by decide) rfl rfl) (λenv pos A s Q _ h=>CallW.t (λ_=>rfl) (λ_ _=>rfl) env pos A s Q h) (SOs.cons (λ_=>rfl) (SO.of (SE.name n_highs)) SOs.nil) (λ_=>rfl))) SVs.nil))) (by decide))) (SE.name n_self) n_rows (λ_=>rfl) (λ_=>rfl)) (SS.cons (SS1.asgA H.ka (SE.list SVs.nil (by decide)) (SE.name n_self) n_wanted (λ_=>rfl) (λ_=>rfl)) (SS.cons (SS1.asgA H.ka (SE.list SVs.nil (by decide)) (SE.name n_self) n_lows (λ_=>rfl) (λ_=>rfl)) (SS.cons (SS1.asgA H.ka (SE.list SVs.nil (by decide)) (SE.name n_self) n_highs (λ_=>rfl) (λ_=>rfl)) (SS.cons (SS1.forZip (CV.builtin (v:=.type "zip") (H.b 9 "zip" rfl) rfl (by decide) rfl rfl) (SVs.cons (λ_=>rfl) (SV.of (SE.name n_wanted)) (SVs.cons (λ_=>rfl) (SV.of (SE.name n_lows)) (SVs.cons (λ_=>rfl) (SV.of (SE.name n_highs)) SVs.nil))) (λ_=>rfl) (λ_ _=>rfl) (λ_=>rfl) (⟨(.cons n_v (.cons n_low (.cons n_high .nil))),iaaa ((.inl rfl)) ((.inl rfl)) ((.inl rfl)) trivial⟩) (SS.cons (SS1.expr (SE.meth H.ka (lm:=.text) n_want trivial (λ_=>CallW.b (λ_=>rfl) (λ_ _=>rfl)) (λ_ h=>CallW.fn h (λ_=>rfl) (λ_ _=>rfl)) (SO.of (SE.name n_self)) (SOs.cons (λ_=>rfl) (SO.of (SE.name n_v)) (SOs.cons (λ_=>rfl) (SO.of (SE.bi biMax (CV.builtin (v:=.builtin "max") (H.b 1 "max" rfl) rfl (by decide) rfl rfl) (λenv pos A s Q X h=>CallW.b (λ_=>rfl) (λ_ _=>rfl) env pos A s [] Q X h) (SOs.cons (λ_=>rfl) (SO.of (SE.name n_low)) (SOs.cons (λ_=>rfl) (SO.ofV SV.int) SOs.nil)) (λ_=>rfl))) (SOs.cons (λ_=>rfl) (SO.of (SE.name n_high)) SOs.nil))) (λ_=>⟨_,rfl⟩)) (λ_=>rfl)) SS.nil) (λ_ _=>rfl)) (SS.cons (SS1.asgA H.ka (SE.of (SV.cmp (SO.ofV (SV.lenN (CV.builtin (v:=.builtin "len") (H.b 0 "len" rfl) rfl (by decide) rfl rfl) (SN.set (CV.builtin (v:=.type "set") (H.b 8 "set" rfl) rfl (by decide) rfl rfl) (SO.of (SE.name n_taken)) (λ_=>rfl) (λ_ _=>rfl) (λ_=>rfl)) (λ_=>rfl) (λ_ _=>rfl) (λ_=>rfl))) (SO.of (SE.bi biLen (CV.builtin (v:=.builtin "len") (H.b 0 "len" rfl) rfl (by decide) rfl rfl) (λenv pos A s Q X h=>CallW.b (λ_=>rfl) (λ_ _=>rfl) env pos A s [] Q X h) (SOs.cons (λ_=>rfl) (SO.of (SE.attr H.ka (SE.name n_self) n_taken (λ_=>rfl))) SOs.nil) (λ_=>rfl))) rfl)) (SE.name n_self) n_has_twins (λ_=>rfl) (λ_=>rfl)) SS.nil))))))) (by
  intro Q q;have fi:=intsN_vN tk;walk_at"g";refine⟨711,vN tk,_,rfl,⟨rfl,rfl,rfl⟩,by simp;exact a6 ‹_› (a5 rfl),?_⟩;walk_at"g";refine pr_ ⟨by simp,by simp⟩ ?_;refine loop1_ t3V (λst:List Int×List Int×List Int=>[(122,cdP tk (rs.map (·.1)) (rs.map (·.2.1)) (rs.map (·.2.2)) st.1 st.2.1 st.2.2),(136,_),(147,_),(79,_),(58,_)])
   (λus st G=>mergeM us st=mergeM rs ([],[],[])->SameL3 st->st.1.length+us.length<=10->G) (λu us st Q2 k1 k2 k3 hn2 hr2=>?_) (λst k1 k2 k3=>?_) rs ([],[],[]) (λR k=>k rfl ⟨rfl,rfl⟩ (by show 0+rs.length<=10;rw[bB];exact a6 hr (a5 rfl))) (e:=zip3_t3 rs)
  ·obtain⟨v,lo,hi0⟩:=u;have wl:=wantM_len k2 v (max lo 0) hi0;refine call1_ (c_cd_want H tk _ _ _ st.1 st.2.1 st.2.2 v (max lo 0) hi0 (a6 (a6 (an _ _) k3) (a5 rfl)) k2.1 k2.2) ?_;unfold cdP;walk_at"g";exact hn2 (wantM st v (max lo 0) hi0) _ (λR k=>k k1 wl.1 (a6 (ai wl.2 _) (by rw[aH];exact k3))) rfl
  ·unfold cdP;walk_at"g";rw[←k1]at q;exact q)
theorem c_Card(H:KF c):∀(tk:List Nat) (rs:List (Int×Int×Int)),(tk.length<=3)->(rs.length<=2)->FS1 c 3 711 [.v (.tup (vN tk)),.v (iT (rs.map (·.1))),.v (iT (rs.map (·.2.1))),.v (iT (rs.map (·.2.2)))] (λQ=>Q (.fresh (cdO tk (rs.map (·.1)) (rs.map (·.2.1)) (rs.map (·.2.2)) (mergeM rs ([],[],[])).1 (mergeM rs ([],[],[])).2.1 (mergeM rs ([],[],[])).2.2 (twins tk))) [.v (.tup (vN tk)),.v (iT (rs.map (·.1))),.v (iT (rs.map (·.2.1))),.v (iT (rs.map (·.2.2)))]):=
 λtk rs h0 h1=>.cls (H.cl 5 711 653 rfl) (c_cd_init H tk rs h0 h1)
noncomputable def rowOk(ns:List Int)(r:Int×Int×Int):Bool:=decide (r.2.1<=(ns.count r.1:Int))&&decide ((ns.count r.1:Int)<=r.2.2)
theorem row_all{ns:List Int}{u:Int×Int×Int}{us:List (Int×Int×Int)}{b:Bool}(h:(u::us).all (rowOk ns)=b):(¬(u.2.1<=(ns.count u.1:Int)/\(ns.count u.1:Int)<=u.2.2)->b=false)/\(u.2.1<=(ns.count u.1:Int)->(ns.count u.1:Int)<=u.2.2->us.all (rowOk ns)=b):=by
 simp only[bM]at h;dsimp only[rowOk]at h;refine⟨λz=>?_,λh1 h2=>?_⟩
 ·rw[←h,←Bool.decide_and,decide_eq_false z,d7]
 ·simp only[decide_eq_true h1,decide_eq_true h2,cu,dH]at h;exact h
theorem c_cd_check(H:KF c):∀(tk:List Nat) (rs:List (Int×Int×Int)) (w l h:List Int) (tw:Bool) (ns:List Int),(ns.length<=3)->(rs.length<=2)->FS1 c 1 701 [cdO tk (rs.map (·.1)) (rs.map (·.2.1)) (rs.map (·.2.2)) w l h tw,.v (iT ns)] (λQ=>Q (.v (.bool (rs.all (rowOk ns)))) [cdO tk (rs.map (·.1)) (rs.map (·.2.1)) (rs.map (·.2.2)) w l h tw,.v (iT ns)]):=
 λtk rs w l h tw ns hl hr=>.ofBody1 H.gd (H.f 71 701 (stAt (bodyOf (stAt top 32)) 8) [122,97] rfl) (SS.cons (SS1.forZip (CV.builtin (v:=.type "zip") (H.b 9 "zip" rfl) rfl (by decide) rfl rfl) (SVs.cons (λ_=>rfl) (SV.item (SO.of (SE.attr H.ka (SE.name n_self) n_rows (λ_=>rfl))) (SO.ofV SV.int) (λ_ _=>rfl)) (SVs.cons (λ_=>rfl) (SV.item (SO.of (SE.attr H.ka (SE.name n_self) n_rows (λ_=>rfl))) (SO.ofV SV.int) (λ_ _=>rfl)) (SVs.cons (λ_=>rfl) (SV.item (SO.of (SE.attr H.ka (SE.name n_self) n_rows (λ_=>rfl))) (SO.ofV SV.int) (λ_ _=>rfl)) SVs.nil))) (λ_=>rfl) (λ_ _=>rfl) (λ_=>rfl) (⟨(.cons n_v (.cons n_low (.cons n_high .nil))),iaaa ((.inl rfl)) ((.inl rfl)) ((.inl rfl)) trivial⟩) (SS.cons (SS1.if_ (SB.not (SB.cmp2 (SO.of (SE.name n_low)) (SO.of (SE.meth H.ka (lm:=.count) n_count rfl (λ_=>CallW.b (λ_=>rfl) (λ_ _=>rfl)) (λ_ h=>CallW.fn h (λ_=>rfl) (λ_ _=>rfl)) (SO.of (SE.bi biList (CV.builtin (v:=.type "list") (H.b 7 "list" rfl) rfl (by decide) rfl rfl) (λenv pos A s Q _ h=>CallW.t (λ_=>rfl) (λ_ _=>rfl) env pos A s Q h) (SOs.cons (λ_=>rfl) (SO.of (SE.name n_numbers)) SOs.nil) (λ_=>rfl))) (SOs.cons (λ_=>rfl) (SO.of (SE.name n_v)) SOs.nil) (λ_=>⟨_,rfl⟩))) (SO.of (SE.name n_high)) rfl)) (SS.cons (SS1.ret (SE.of SV.bool)) SS.nil) SS.nil) SS.nil) (λ_ _=>rfl)) (SS.cons (SS1.ret (SE.of SV.bool)) SS.nil)) (by
  intro Q q;walk_at"g";refine pr_ ⟨by simp,by simp⟩ ?_;refine loop1_ t3V (λ_:Unit=>[(122,_),(97,_)]) (λus _ G=>us.all (rowOk ns)=rs.all (rowOk ns)->G) (λu us st Q2 hi hn2 hr2=>?_) (λst hi=>?_) rs () (λR k=>k rfl) (e:=zip3_t3 rs)
  ·have ra:=row_all hi;walk_at"g"
   ·rename_i e1 e2;rw[ra.1 λz=>of_decide_eq_false (nt_ e2) z.2]at q;exact hr2 _ _ q
   ·rename_i e1 e2;exact hn2 () _ (λR k=>k (ra.2 e1 (of_decide_eq_true (nf_ e2)))) rfl
   ·rename_i e1;rw[ra.1 λz=>e1 z.1]at q;exact hr2 _ _ q
  ·walk_at"g";rw[←hi]at q;exact q)
end
noncomputable def optB(w:List Int)(m:Nat):List Nat:=(ao w.length).filter λk=>hasM m (w.getD k 0)
noncomputable def optsM(w:List Int)(m:Nat):List Int:=(optB w m).map bp++(match decide ((optB w m).length<(valsM m).length)with|true=>[(w.length:Int)]|false=>[])
theorem memAt_out{a:List Int}{o u:Int}(h:u∈memAt a o):∃k<a.length,u=(k:Int):=by
 unfold memAt at h;obtain⟨k,hk,e⟩:=au.mp h;exact iea k (aC.mp (aq.mp hk).1) e.symm
theorem vN_at{tk:List Nat}{k:Nat}(hl:tk.length<=100)(h:k<tk.length):itemAt (vN tk) (k:Int)=some (.int (tk.getD k 0:Nat)):=
 itemAt_nat (by rw[a7];exact a6 ‹_› (a5 rfl)) (by rw[ae,a9,a8 h];rfl)
section
variable{c:Cx}
theorem c_cd_opts(H:KF c):∀(tk:List Nat) (rw rl rh w l h:List Int) (tw:Bool) (s:Sto) (x:Nat),(s.Ok)->(x<5)->(∀v∈w,k8 v)->(w.length<=2)->FS1 c 4 665 [cdO tk rw rl rh w l h tw,s.w,.v (.int x)] (λQ=>Q (.v (iL (optsM w (at_ s.D x)))) [cdO tk rw rl rh w l h tw,s.w,.v (.int x)]):=
 λtk rw rl rh w l h tw s x ok hx hw hl=>.ofChk1 H (H.f 65 665 (stAt (bodyOf (stAt top 32)) 2) [122,131,151] rfl) [5,0,0,0,147,122,3,122,131,151,66,51,5,131,151,147,122,66,66,46,148,5,131,151,0,0,46,46,0,0,147,122,46] (w:=by
  intro Q q;unfold cdO at *;have kl:(valsM (at_ s.D x)).length<=4:=ak _ _;walk_at"g";refine accF (ao w.length) (λk:Nat=>V.int k) (λk=>hasM (at_ s.D x) (w.getD k 0)) (λk:Nat=>V.int k) (by rw[a7];exact range_int _) (λk hk acc Q' ha hq hr=>?_) (by rw[be];exact a6 ‹_› (a5 rfl)) ?_
  ·have hk:=aC.mp hk;have f1:itemAt (w.map V.int) (k:Int)=some (.int (w.getD k 0)):=itemAt_nat (by rw[a7];exact a6 ‹_› (a5 rfl)) (by rw[ae,a9,a8 hk];rfl);walk_at"g";refine call1_ (c_Shas H s x (w.getD k 0) ok hx (hw _ (by rw[a9,a8 hk];exact aP hk))) ?_;walk_at"g"
   ·rename_i e;exact hq e _ rfl
   ·rename_i e;exact hr e _ rfl
  rw[show((ao w.length).filter λk=>hasM (at_ s.D x) (w.getD k 0))=optB w (at_ s.D x)from rfl];have bl:(optB w (at_ s.D x)).length<=2:=a6 (ak _ _) (by rw[be];exact hl);unfold optsM at q;walk_at"g";refine call1_ (c_width H s x ok hx) ?_;walk_at"g"
  ·rename_i t;rw[a7]at t;rw[decide_eq_true (show(optB w (at_ s.D x)).length<(valsM (at_ s.D x)).length by exact bv.mp (by assumption))]at q;dsimp only at q;rw[show iL ((optB w (at_ s.D x)).map bp++[(w.length:Int)])=.lst ((optB w (at_ s.D x)).map (λk:Nat=>V.int k)++[.int ((w.map V.int).length:Int)]) by unfold iL;rw[ah,av,a7];rfl]at q;exact q
  ·rename_i t;rw[a7]at t;rw[decide_eq_false (show¬(optB w (at_ s.D x)).length<(valsM (at_ s.D x)).length by lia)]at q;dsimp only at q;rw[aM,show iL ((optB w (at_ s.D x)).map bp)=.lst ((optB w (at_ s.D x)).map (λk:Nat=>V.int k)) by unfold iL;rw[av];rfl]at q;exact q)
theorem leB3{a b c k e n:Nat}(h:a+k*(c+1)+e<=n)(h2:b<=k):a+b+k*c+e<=n:=a6 (ai (leB2 (aI (a+k*(c+1))) h2) e) h
theorem c_cd_conf(H:KF c):∀(tk:List Nat) (rw rl rh w l h:List Int) (tw:Bool) (s:Sto) (able:List (List Int)) (lows highs a cs:List Int) (os:List Int),(s.Ok)->(∀x∈tk,x<5)->(a.length=tk.length)->(tk.length<=3)->(os.length<=50)->FS1 c 3 684 [cdO tk rw rl rh w l h tw,s.w,plO able lows highs a cs,.v (iL os)] (λQ=>∀rs:List V,rs.length<=3000->Q (.v (.lst rs)) [cdO tk rw rl rh w l h tw,s.w,plO able lows highs a cs,.v (iL os)]):=
 λtk rw rl rh w l h tw s able lows highs a cs os ok hx hat hl ho=>.ofChk1 H (H.f 68 684 (stAt (bodyOf (stAt top 32)) 5) [122,131,108,102] rfl) [46,102,101,87,5,108,101,86,37,2,46,22,21,136,122,86,29,5,131,136,122,86,46] (w:=by
  intro Q q;unfold cdO at *;walk_at"g";refine loop_ V.int (λrs:List V=>[(122,_),(131,s.w),(108,plO able lows highs a cs),(102,_),(46,.list rs)]) (λus rs=>rs.length+60*us.length<=3000) (λu us rs Q2 hi hn2 hr2=>?_) (λrs hi=>?_) os [] (a6 (aJ (bB _)) (aU 60 ho))
  ·rw[am]at hi;walk_at"g";refine call1_ (c_pl_at H able lows highs a cs u (leC (aJ hat) hl rfl)) ?_;unfold plO;walk_at"g";refine loop_ V.int (λrs:List V=>[(122,_),(131,s.w),(108,plO able lows highs a cs),(102,_),(46,.list rs),(101,_)]) (λus2 rs=>rs.length+20*us2.length+60*us.length<=3000/\∀x∈us2,∃k<a.length,x=(k:Int)) (λm us2 rs Q3 hi2 hn3 hr3=>?_) (λrs hi2=>?_) (memAt a u) rs ⟨leB2 hi (aU 20 (a6 (memAt_len a u) (a6 (aJ hat) hl))),λx hx=>memAt_out hx⟩
   ·obtain⟨z1,z2⟩:=hi2;rw[am]at z1;obtain⟨k,hk,rfl⟩:=z2 m (.head _);have f1:=vN_at (tk:=tk) (k:=k) (a6 ‹_› (a5 rfl)) (hat▸hk);have xm:=hx (tk.getD k 0) (by rw[a9,a8 (show k<tk.length from hat▸hk)];exact aP _);have om:=ok.atD xm;walk_at"g";refine call1_ (c_dom H s (tk.getD k 0) ok xm) ?_;walk_at"g";refine call1_ (c_standing H (tk.getD k 0) (at_ s.D (tk.getD k 0)) om.1 om.2) (λr2 hr=>?_);have rl:rs.length+r2.length<=8192:=leB (a6 (an _ _) z1) hr rfl;walk_at"g";exact hn3 (rs++r2) _ ⟨by rw[aa];exact leB3 z1 hr,λx hx=>z2 x (.tail _ hx)⟩ rfl
   ·unfold plO;walk_at"g";exact hn2 rs _ (by have:=hi2.1;simp at this;assumption) rfl
  ·walk_at"g";exact q rs (by simp at hi;assumption))
theorem c_cd_lack(H:KF c):∀(tk:List Nat) (rw rl rh w l h:List Int) (tw:Bool) (able:List (List Int)) (lows highs a cs:List Int) (os:List Int),(a.length=tk.length)->(tk.length<=3)->(os.length<=50)->(∀o∈os,0<=o/\o<w.length)->(w.length<=2)->FS1 c 1 689 [cdO tk rw rl rh w l h tw,plO able lows highs a cs,.v (iL os)] (λQ=>∀rs:List V,rs.length<=300->Q (.v (.lst rs)) [cdO tk rw rl rh w l h tw,plO able lows highs a cs,.v (iL os)]):=
 λtk rw rl rh w l h tw able lows highs a cs os hat hl ho hos hw=>.ofChk1 H (H.f 69 689 (stAt (bodyOf (stAt top 32)) 6) [122,108,102] rfl) [46,5,0,0,0,136,122,86,8,108,86,102,37,2,46,102,2,86,122,101,136,122,86,147,122,101,46] (w:=by
  intro Q q;unfold cdO plO at *;have hvl:(vN tk).length<=3:=by rw[a7];exact hl
  walk_at"g";refine loop_ (λk:Nat=>V.int k) (λrs:List V=>[(122,_),(108,_),(102,_),(46,.list rs)]) (λus rs=>rs.length+50*us.length<=300/\∀k∈us,k<tk.length) (λk us rs Q2 hi hn2 hr2=>?_) (λrs hi=>?_) (ao tk.length) [] ⟨by rw[be];exact a6 (aJ (bB _)) (a6 (aU 50 hl) (a5 rfl)),λk hk=>aC.mp hk⟩ (e:=by rw[a7];exact range_int _)
  ·obtain⟨z1,z2⟩:=hi;rw[am]at z1;have hk:=z2 k (.head _);have f1:itemAt (a.map V.int) (k:Int)=some (.int (a.getD k (-1))):=itemAt_nat (by rw[a7];exact leC (aJ hat) hl rfl) (by rw[ae,a9,a8 (d9 ‹_› (Eq.symm ‹_›))];rfl);have f2:=vN_at (tk:=tk) (k:=k) (a6 ‹_› (a5 rfl)) hk;walk_at"g";refine inI_ ?_;walk_at"g"
   ·refine acc1 os V.int (λo=>.tup [.int (tk.getD k 0:Nat),.str (Str.ofString "!="),.int (w.getD o.toNat 0)]) rfl (λo ho2 acc Q' ha hq=>?_) (a6 ‹_› (a5 rfl)) ?_
    ·obtain⟨o1,o2⟩:=hos o ho2;have f3:itemAt (w.map V.int) o=some (.int (w.getD o.toNat 0)):=itemAt_int (by rw[a7];exact a6 ‹_› (a5 rfl)) o1 (by rw[ae,a9,a8 ((cC o1).mpr o2)];rfl);walk_at"g";exact hq _ rfl
    walk_at"g";exact hn2 _ _ ⟨by rw[aa,a7];exact leB2 ‹_› ‹_›,λk hk=>z2 k (.tail _ hk)⟩ rfl
   ·exact hn2 rs _ ⟨leB0 ‹_›,λk hk=>z2 k (.tail _ hk)⟩ rfl
  ·walk_at"g";exact q rs (by have:=hi.1;simp at this;assumption))
end
theorem addF_len:∀{os r r':List Int},addF os r=some r'->r.length<=50->r'.length<=50:=by
 intro os
 induction os with
 |nil=>intro r r' e h;refine(ab.inj e)▸?_;exact h
 |cons o os ih=>
  intro r r' e h;exact oc_ (ec_ addF_c e) (λhc e=>ih e h) λhc e=>og_ e λeb e=>ih e (by rw[aa];exact a5 eb)
theorem reach_len{able:List (List Int)}{lows highs a cs res:List Int}{rr:Bool}:∀{f:Nat} {r:List Int} {sp:Nat} {room:Bool},reachW able lows highs a cs f r sp room=some (res,rr)->r.length<=50->res.length<=50:=by
 intro f
 induction f with
 |zero=>intro r sp room e _;exact nos e
 |succ f ih=>
  intro r sp room e h;cases eh:r[sp]? with
  |none=>
   have e:=oN_ eh (ec_ reachW_s e);refine og_ e λeb e=>?_;refine((Prod.mk.inj (ab.inj e)).1)▸?_;exact h
  |some here=>
   have e:=oe_ eh (ec_ reachW_s e);refine ob_ e λn en e=>ob_ e λhh em e=>ob_ e λfr ef e=>oc_ e (λhb e=>ob_ e λr' eF e=>ih e (addF_len eF h)) λhb e=>ob_ e λr' eF e=>ih e (addF_len eF h)
noncomputable def optOf(w:List Int)(v:Int):Int:=match w.contains v with
 |true=>(w.idxOf v:Int)
 |false=>(w.length:Int)
theorem sortI_contains(l:List Int)(x:Int):(sortI l).contains x=l.contains x:=by
 rw[dC,ax,ax,(sortI_perm l).mem_iff]
theorem optOf_at{w:List Int}(nd:w.Nodup){n:Nat}(h:n<w.length):optOf w (w.getD n 0)=n:=by
 rw[a9,a8 h];show optOf w w[n]=_;unfold optOf;rw[ax.mpr (aP h)];show((w.idxOf w[n]:Nat):Int)=n;rw[nd.idxOf_getElem n h]
theorem optOf_out{w:List Int}{v:Int}(h:w.contains v=false):optOf w v=w.length:=by unfold optOf;rw[h]
structure CdOk(tk:List Nat)(w l h:List Int)(able:List (List Int))(lows highs a cs:List Int):Prop where
 ok:PlOk able lows highs a cs
 lc:cs.length=lows.length
 la:a.length=tk.length
 lb:able.length=tk.length
 lt:tk.length<=3
 x5:∀x∈tk,x<5
 lw:w.length<=2
 ll:lows.length=w.length+1
 lk:l.length=w.length
 kw:∀v∈w,0<=v/\v<=3
 nd:w.Nodup
theorem valsM_04{m:Nat}{v:Int}(h:v∈valsM m):0<=v/\v<=3:=by have:=valsM_rg h;simp at this;lia
section
variable{c:Cx}
theorem c_cd_strike(H:KF c):∀(tk:List Nat) (rw rl rh w l h:List Int) (tw:Bool) (s:Sto) (K:(Nat->Int)->Prop) (able:List (List Int)) (lows highs a cs:List Int) (o:Int) (found:List Int) (room:Bool),(s.Ok)->(s.fl=false)->(CdOk tk w l h able lows highs a cs)->(reachM able lows highs a cs o=some (found,room))->(0<=o/\o<=w.length)->(∀k∈cutM able a found o,∀p,InD s.D p->K p->optOf w (p (tk.getD k 0))≠o)->FS1 c 6 694 [cdO tk rw rl rh w l h tw,s.w,plO able lows highs a cs,.v (.int o)] (λQ=>∀b s',Out K s b s'->Q (.v (.bool b)) [cdO tk rw rl rh w l h tw,s'.w,plO able lows highs a cs,.v (.int o)]):=
 λtk rw rl rh w l h tw s K able lows highs a cs o found room ok hf cd g hz4 snd=>.ofChk1 H (H.f 70 694 (stAt (bodyOf (stAt top 32)) 7) [122,131,108,101] rfl) [113,5,108,101,46,53,5,0,0,0,136,122,3,46,101,108,66,101,1,108,66,8,108,66,46,66,4,4,53,5,0,0,0,147,122,2,46,122,66,66,46,79,122,66,66,123,70,5,122,108,123,114,24,5,122,131,108,46,114,4,86,136,122,86,151,9,8,29,5,131,151,1,122,141,141,147,122,141,12,101,0,0,147,122,147,122,101,12,141,133,5,131,151,141,114] (w:=by
  intro Q q;obtain⟨o1,o2⟩:=hz4;have fl:=reach_len (by unfold reachM at g;exact g) (by show 1<=50;decide);have lt:=cd.lt;have lw:=cd.lw;walk_at"g";refine call1_ (c_pl_reached H able lows highs a cs o found room cd.ok cd.lc g) ?_;walk_at"g";refine accF (ao tk.length) (λk:Nat=>V.int k) (λk=>(able.getD k []).contains o&&!found.contains (a.getD k (-1))) (λk:Nat=>V.int k) (by rw[a7];exact range_int _) (λk hk acc Q' ha hq hr=>?_) (by rw[be];exact a6 ‹_› (a5 rfl)) ?_
  ·have hk:=aC.mp hk;have f1:itemAt (a.map V.int) (k:Int)=some (.int (a.getD k (-1))):=itemAt_nat (by rw[a7,cd.la];lia) (by rw[ae,a9,a8 (by rw[cd.la];exact hk)];rfl);have f2:itemAt (able.map iL) (k:Int)=some (iL (able.getD k [])):=itemAt_nat (by rw[a7,cd.lb];lia) (by rw[ae,a9,a8 (by rw[cd.lb];exact hk)];rfl);walk_at"g";refine inI_ (br_ (λe1=>?_) (λe1=>?_))
   ·walk_at"g";refine inI_ ?_;walk_at"g"
    ·rename_i e2;rw[sortI_contains]at e2;exact hq (by rw[e1,e2];rfl) _ rfl
    ·rename_i e2;rw[sortI_contains]at e2;exact hr (by rw[e1,e2];rfl) _ rfl
   ·walk_at"g";exact hr (by rw[e1];rfl) _ rfl
  rw[show((ao tk.length).filter λk=>(able.getD k []).contains o&&!found.contains (a.getD k (-1)))=cutM able a found o by unfold cutM;rw[cd.la],show(cutM able a found o).map (λk:Nat=>V.int k)=((cutM able a found o).map bp).map V.int by rw[av];rfl];walk_at"g";refine eqNil_ ?_;cases eN:cutM able a found o with
  |nil=>
   walk_at"g";exact q true s (.refl ok hf)
  |cons k0 ks=>
   have sl:(sortI found).length<=50:=by rw[(sortI_perm found).length_eq];exact fl
   have cl:(cutM able a found o).length<=3:=a6 (ak _ _) (by rw[be,cd.la];exact lt);rw[eN,am]at cl;walk_at"g"
   ·refine accF (ao w.length) (λk:Nat=>V.int k) (λk=>!(sortI found).contains (k:Int)&&decide (0<l.getD k 0)) (λk:Nat=>V.int k) (by rw[a7];exact range_int _) (λk hk acc Q' ha hq hr=>?_) (by rw[be];exact a6 ‹_› (a5 rfl)) ?_
    ·have hk:=aC.mp hk;have f1:itemAt (l.map V.int) (k:Int)=some (.int (l.getD k 0)):=itemAt_nat (by rw[a7,cd.lk];exact a6 ‹_› (a5 rfl)) (by rw[ae,a9,a8 (by rw[cd.lk];exact hk)];rfl);walk_at"g";refine inI_ (br_ (λe1=>?_) (λe1=>?_))
     ·walk_at"g"
      ·rename_i e2;exact hq (by rw[e1,decide_eq_true e2];rfl) _ rfl
      ·rename_i e2;exact hr (by rw[e1,decide_eq_false e2];rfl) _ rfl
     ·walk_at"g";exact hr (by rw[e1];rfl) _ rfl
    generalize hS:((ao w.length).filter λk:Nat=>!(sortI found).contains (k:Int)&&decide (0<l.getD k 0))=S;have Sl:S.length<=2:=by rw[←hS];exact a6 (ak _ _) (by rw[be];exact lw)
    rw[show S.map (λk:Nat=>V.int k)=(S.map bp).map V.int by rw[av];rfl];walk_at"g";refine call1_ (c_cd_lack H tk rw rl rh w l h tw able lows highs a cs (S.map bp) cd.la lt (by rw[a7];exact a6 ‹_› (a5 rfl)) (λx hx=>?_) lw) (λrs hrs=>?_)
    ·obtain⟨k,hk,rfl⟩:=au.mp hx;rw[←hS]at hk;have:=aC.mp (aq.mp hk).1;exact⟨aX k,bq.mpr this⟩
    have hrs:rs.length<=3000:=a6 ‹_› (a5 rfl);walk_at"g";refine loop1_ V.int (λst:Sto=>[(122,_),(131,st.w),(108,_),(101,_),(46,_),(53,_),(4,_),(123,_),(114,_)])
     (λus st G=>Out K s true st->(∀x∈us,∃k∈cutM able a found o,x=(k:Int))->G) (λu us st Q2 i1 i2 hn2 hr2=>?_) (λst hi _=>?_) ((k0::ks).map bp) s λR k=>k (.refl ok hf) λx hx=>by rw[eN];obtain⟨k,hk,e⟩:=au.mp hx;exact⟨k,hk,e.symm⟩
    ·obtain⟨k,hk,rfl⟩:=i2 u (.head _);have hkl:k<tk.length:=by rw[←cd.la];exact aC.mp (aq.mp hk).1
     have f1:=vN_at (tk:=tk) (k:=k) (a6 lt (a5 rfl)) hkl;have x5:=cd.x5 (tk.getD k 0) (by rw[a9,a8 hkl];exact aP _);walk_at"g";refine call1_ (c_dom H st (tk.getD k 0) i1.le.ok x5) ?_;obtain⟨⟨g1,-⟩,g2,-⟩:=t_dm _ (i1.le.ok.atD x5).2;walk_at"g";refine call1_ (c_values H (dm (at_ st.D (tk.getD k 0))) g1 (by rw[g2];exact a6 (ak _ _) (by decide))) ?_;rw[g2];walk_at"g";refine accF (valsM (at_ st.D (tk.getD k 0))) V.int (λv=>!w.contains v) V.int rfl (λv hv acc Q' ha hq hr=>?_) (a6 (ak _ _) (by decide)) ?_
     ·walk_at"g";refine inI_ (br_ (λe1=>?_) (λe1=>?_))
      ·walk_at"g";exact hq e1 _ rfl
      ·walk_at"g";exact hr e1 _ rfl
     walk_at"g"
     ·rename_i lt2;rw[a7]at lt2;have hon:o.toNat<w.length:=(cC o1).mpr lt2;have f2:itemAt (w.map V.int) o=some (.int (w.getD o.toNat 0)):=itemAt_int (szMap (a6 lw (a5 rfl))) o1 (by rw[ae,a9,a8 hon];rfl);have hb:∀v∈[w.getD o.toNat 0],k8 v/\∀p,InD s.D p->K p->p (tk.getD k 0)≠v:=λv hv=>by
       rw[af.mp hv];have hw:=cd.kw (w.getD o.toNat 0) (by rw[a9,a8 hon];exact aP _);exact⟨k8_4 hw.1 hw.2,λp hp hK e=>snd k hk p hp hK (by rw[e,optOf_at cd.nd hon,bJ o1])⟩
      walk_at"g";refine loop1_ V.int (λst2:Sto=>[(122,_),(131,st2.w),(108,_),(101,_),(46,_),(53,_),(4,_),(123,_),(114,_),(86,_),(151,_),(12,_)])
       (λus st2 G=>Out K s true st2->(∀v∈us,k8 v/\∀p,InD s.D p->K p->p (tk.getD k 0)≠v)->G) (λv us st2 Q3 j1 j2 hn3 hr3=>?_) (λst2 hi3 _=>?_) [w.getD o.toNat 0] st λR k=>k i1 hb
      ·obtain⟨kv,pv⟩:=j2 v (.head _);walk_at"g";refine strike_ H (K:=K) (g:=.ne) (k:=v) (rs:=rs) j1.le.ok j1.fl x5 kv (.inr rfl) (a6 hrs (a5 rfl)) (λp hp hK=>decide_eq_true (pv p (λx hx=>j1.le.sub x hx _ (hp x hx)) hK)) (λb s4 o4 _=>?_);cases b with
       |false=>
        walk_at"g";apply hr3;apply hr2;exact q false s4 (j1.trans o4)
       |true=>
        walk_at"g";exact hn3 s4 _ (λR k=>k (j1.trans o4) λv hv=>j2 v (.tail _ hv)) rfl
      ·walk_at"g";exact hn2 st2 _ (λR k=>k hi3 λx hx=>i2 x (.tail _ hx)) rfl
     ·rename_i lt2;rw[a7]at lt2;have hb:∀v∈(valsM (at_ st.D (tk.getD k 0))).filter (λv=>!w.contains v),k8 v/\∀p,InD s.D p->K p->p (tk.getD k 0)≠v:=λv hv=>by
       obtain⟨v1,v2⟩:=aq.mp hv;have h4:=valsM_04 v1;exact⟨k8_4 h4.1 h4.2,λp hp hK e=>snd k hk p hp hK (by rw[e,optOf_out (by simpa using v2)];exact cr (bD.mp lt2) o2)⟩
      walk_at"g";refine loop1_ V.int (λst2:Sto=>[(122,_),(131,st2.w),(108,_),(101,_),(46,_),(53,_),(4,_),(123,_),(114,_),(86,_),(151,_),(12,_)])
       (λus st2 G=>Out K s true st2->(∀v∈us,k8 v/\∀p,InD s.D p->K p->p (tk.getD k 0)≠v)->G) (λv us st2 Q3 j1 j2 hn3 hr3=>?_) (λst2 hi3 _=>?_) ((valsM (at_ st.D (tk.getD k 0))).filter λv=>!w.contains v) st λR k=>k i1 hb
      ·obtain⟨kv,pv⟩:=j2 v (.head _);walk_at"g";refine strike_ H (K:=K) (g:=.ne) (k:=v) (rs:=rs) j1.le.ok j1.fl x5 kv (.inr rfl) (a6 hrs (a5 rfl)) (λp hp hK=>decide_eq_true (pv p (λx hx=>j1.le.sub x hx _ (hp x hx)) hK)) (λb s4 o4 _=>?_);cases b with
       |false=>
        walk_at"g";apply hr3;apply hr2;exact q false s4 (j1.trans o4)
       |true=>
        walk_at"g";exact hn3 s4 _ (λR k=>k (j1.trans o4) λv hv=>j2 v (.tail _ hv)) rfl
      ·walk_at"g";exact hn2 st2 _ (λR k=>k hi3 λx hx=>i2 x (.tail _ hx)) rfl
    ·walk_at"g";exact q true st hi
   ·refine call1_ (c_cd_conf H tk rw rl rh w l h tw s able lows highs a cs (sortI found) ok cd.x5 cd.la lt sl) (λrs hrs=>?_);walk_at"g";refine loop1_ V.int (λst:Sto=>[(122,_),(131,st.w),(108,_),(101,_),(46,_),(53,_),(4,_),(114,_)])
     (λus st G=>Out K s true st->(∀x∈us,∃k∈cutM able a found o,x=(k:Int))->G) (λu us st Q2 i1 i2 hn2 hr2=>?_) (λst hi _=>?_) ((k0::ks).map bp) s λR k=>k (.refl ok hf) λx hx=>by rw[eN];obtain⟨k,hk,e⟩:=au.mp hx;exact iea k hk e.symm
    ·obtain⟨k,hk,rfl⟩:=i2 u (.head _);have hkl:k<tk.length:=by rw[←cd.la];exact aC.mp (aq.mp hk).1
     have f1:=vN_at (tk:=tk) (k:=k) (a6 lt (a5 rfl)) hkl;have x5:=cd.x5 (tk.getD k 0) (by rw[a9,a8 hkl];exact aP _);walk_at"g";refine call1_ (c_dom H st (tk.getD k 0) i1.le.ok x5) ?_;obtain⟨⟨g1,-⟩,g2,-⟩:=t_dm _ (i1.le.ok.atD x5).2;walk_at"g";refine call1_ (c_values H (dm (at_ st.D (tk.getD k 0))) g1 (by rw[g2];exact a6 (ak _ _) (by decide))) ?_;rw[g2];walk_at"g";refine accF (valsM (at_ st.D (tk.getD k 0))) V.int (λv=>!w.contains v) V.int rfl (λv hv acc Q' ha hq hr=>?_) (a6 (ak _ _) (by decide)) ?_
     ·walk_at"g";refine inI_ (br_ (λe1=>?_) (λe1=>?_))
      ·walk_at"g";exact hq e1 _ rfl
      ·walk_at"g";exact hr e1 _ rfl
     walk_at"g"
     ·rename_i lt2;rw[a7]at lt2;have hon:o.toNat<w.length:=(cC o1).mpr lt2;have f2:itemAt (w.map V.int) o=some (.int (w.getD o.toNat 0)):=itemAt_int (szMap (a6 lw (a5 rfl))) o1 (by rw[ae,a9,a8 hon];rfl);have hb:∀v∈[w.getD o.toNat 0],k8 v/\∀p,InD s.D p->K p->p (tk.getD k 0)≠v:=λv hv=>by
       rw[af.mp hv];have hw:=cd.kw (w.getD o.toNat 0) (by rw[a9,a8 hon];exact aP _);exact⟨k8_4 hw.1 hw.2,λp hp hK e=>snd k hk p hp hK (by rw[e,optOf_at cd.nd hon,bJ o1])⟩
      walk_at"g";refine loop1_ V.int (λst2:Sto=>[(122,_),(131,st2.w),(108,_),(101,_),(46,_),(53,_),(4,_),(114,_),(86,_),(151,_),(12,_)])
       (λus st2 G=>Out K s true st2->(∀v∈us,k8 v/\∀p,InD s.D p->K p->p (tk.getD k 0)≠v)->G) (λv us st2 Q3 j1 j2 hn3 hr3=>?_) (λst2 hi3 _=>?_) [w.getD o.toNat 0] st λR k=>k i1 hb
      ·obtain⟨kv,pv⟩:=j2 v (.head _);walk_at"g";refine strike_ H (K:=K) (g:=.ne) (k:=v) (rs:=rs) j1.le.ok j1.fl x5 kv (.inr rfl) (a6 hrs (a5 rfl)) (λp hp hK=>decide_eq_true (pv p (λx hx=>j1.le.sub x hx _ (hp x hx)) hK)) (λb s4 o4 _=>?_);cases b with
       |false=>
        walk_at"g";apply hr3;apply hr2;exact q false s4 (j1.trans o4)
       |true=>
        walk_at"g";exact hn3 s4 _ (λR k=>k (j1.trans o4) λv hv=>j2 v (.tail _ hv)) rfl
      ·walk_at"g";exact hn2 st2 _ (λR k=>k hi3 λx hx=>i2 x (.tail _ hx)) rfl
     ·rename_i lt2;rw[a7]at lt2;have hb:∀v∈(valsM (at_ st.D (tk.getD k 0))).filter (λv=>!w.contains v),k8 v/\∀p,InD s.D p->K p->p (tk.getD k 0)≠v:=λv hv=>by
       obtain⟨v1,v2⟩:=aq.mp hv;have h4:=valsM_04 v1;exact⟨k8_4 h4.1 h4.2,λp hp hK e=>snd k hk p hp hK (by rw[e,optOf_out (by simpa using v2)];exact cr (bD.mp lt2) o2)⟩
      walk_at"g";refine loop1_ V.int (λst2:Sto=>[(122,_),(131,st2.w),(108,_),(101,_),(46,_),(53,_),(4,_),(114,_),(86,_),(151,_),(12,_)])
       (λus st2 G=>Out K s true st2->(∀v∈us,k8 v/\∀p,InD s.D p->K p->p (tk.getD k 0)≠v)->G) (λv us st2 Q3 j1 j2 hn3 hr3=>?_) (λst2 hi3 _=>?_) ((valsM (at_ st.D (tk.getD k 0))).filter λv=>!w.contains v) st λR k=>k i1 hb
      ·obtain⟨kv,pv⟩:=j2 v (.head _);walk_at"g";refine strike_ H (K:=K) (g:=.ne) (k:=v) (rs:=rs) j1.le.ok j1.fl x5 kv (.inr rfl) (a6 hrs (a5 rfl)) (λp hp hK=>decide_eq_true (pv p (λx hx=>j1.le.sub x hx _ (hp x hx)) hK)) (λb s4 o4 _=>?_);cases b with
       |false=>
        walk_at"g";apply hr3;apply hr2;exact q false s4 (j1.trans o4)
       |true=>
        walk_at"g";exact hn3 s4 _ (λR k=>k (j1.trans o4) λv hv=>j2 v (.tail _ hv)) rfl
      ·walk_at"g";exact hn2 st2 _ (λR k=>k hi3 λx hx=>i2 x (.tail _ hx)) rfl
    ·walk_at"g";exact q true st hi)
end
def Good(s:List Int×List Int×List Int)(ns:List Int):Prop:=∀j<s.1.length,s.2.1.getD j 0<=(ns.count (s.1.getD j 0):Int)/\(ns.count (s.1.getD j 0):Int)<=s.2.2.getD j 0
theorem getD_snoc{l:List Int}{x:Int}{j:Nat}:(l++[x]).getD j 0=if j<l.length then l.getD j 0 else if j=l.length then x else 0:=by
 rw[a9,a9];by_cases h:j<l.length
 ·rw[if_pos h,aS h]
 ·rw[if_neg h,bt (aW.mp h)];by_cases e:j=l.length
  ·rw[if_pos e,e,cZ];rfl
  ·rw[if_neg e,bA (fO (da (aW.mp h) (Ne.symm e)))];rfl
theorem getD_set{l:List Int}{x:Int}{i j:Nat}(hi:i<l.length):(l.set i x).getD j 0=if j=i then x else l.getD j 0:=by
 rw[a9,a9,bK];by_cases e:j=i
 ·rw[if_pos e,if_pos e.symm,if_pos hi];rfl
 ·rw[if_neg e,if_neg (Ne.symm e)]
theorem snocA{l:List Int}{x:Int}{n j:Nat}(e:l.length=n)(h:j<n):(l++[x]).getD j 0=l.getD j 0:=getD_snoc.trans (if_pos (e.symm▸h))
theorem snocB{l:List Int}{x:Int}{n:Nat}(e:l.length=n):(l++[x]).getD n 0=x:=by
 subst e;rw[getD_snoc,if_neg (bQ _),if_pos rfl]
theorem setA{l:List Int}{x:Int}{n k:Nat}(e:l.length=n)(h:k<n):(l.set k x).getD k 0=x:=(getD_set (e.symm▸h)).trans (if_pos rfl)
theorem setB{l:List Int}{x:Int}{n j k:Nat}(e:l.length=n)(h:k<n)(ne:¬j=k):(l.set k x).getD j 0=l.getD j 0:=(getD_set (e.symm▸h)).trans (if_neg ne)
theorem good_want{s:List Int×List Int×List Int}(hl:SameL3 s){v lo hi:Int}{ns:List Int}:Good (wantM s v lo hi) ns↔Good s ns/\lo<=(ns.count v:Int)/\(ns.count v:Int)<=hi:=by
 obtain⟨w,l,h⟩:=s;obtain⟨h1,h2⟩:=hl;dsimp only at h1 h2;delta wantM Good;dsimp only;cases e:w.contains v with
 |true=>
  have hk:w.idxOf v<w.length:=bx.mpr (ax.mp e);have hv:w.getD (w.idxOf v) 0=v:=by rw[getD_lt hk];exact bW hk
  dsimp only;refine⟨λg=>?_,λz j hj=>?_⟩
  ·have gk:=g _ hk;rw[setA h1 hk,setA h2 hk,hv]at gk;refine⟨λj hj=>?_,(dd.mp gk.1).2,(eB.mp gk.2).2⟩;by_cases ej:j=w.idxOf v
   ·refine ej▸?_;rw[hv];exact⟨(dd.mp gk.1).1,(eB.mp gk.2).1⟩
   ·have gj:=g j hj;rw[setB h1 hk ej,setB h2 hk ej]at gj;exact gj
  ·have gj:=z.1 j hj;by_cases ej:j=w.idxOf v
   ·subst ej;rw[setA h1 hk,setA h2 hk];rw[hv]at gj⊢;exact⟨dd.mpr ⟨gj.1,z.2.1⟩,eB.mpr ⟨gj.2,z.2.2⟩⟩
   ·rw[setB h1 hk ej,setB h2 hk ej];exact gj
 |false=>
  dsimp only;refine⟨λg=>⟨λj hj=>?_,?_⟩,λz j hj=>?_⟩
  ·have gj:=g j (by rw[aa];exact bT hj);rw[snocA rfl hj,snocA h1 hj,snocA h2 hj]at gj;exact gj
  ·have gj:=g w.length (by rw[aa];exact br _);rw[snocB rfl,snocB h1,snocB h2]at gj;exact gj
  ·rw[aa]at hj;by_cases ej:j<w.length
   ·rw[snocA rfl ej,snocA h1 ej,snocA h2 ej];exact z.1 j ej
   ·obtain rfl:j=w.length:=bC (bE hj) (aW.mp ej);rw[snocB rfl,snocB h1,snocB h2];exact z.2
theorem good_merge{ns:List Int}:∀{rs:List (Int×Int×Int)} {s:List Int×List Int×List Int},SameL3 s->(Good (mergeM rs s) ns↔Good s ns/\rs.all (rowOk ns)=true):=by
 intro rs
 induction rs with
 |nil=>intro s _;exact⟨λg=>⟨g,rfl⟩,λg=>g.1⟩
 |cons r rs ih=>
  intro s hl;obtain⟨v,lo,hi⟩:=r;show Good (mergeM rs (wantM s v (max lo 0) hi)) ns↔_;rw[ih (wantM_len hl _ _ _).1,good_want hl,bM,aB];simp only[show rowOk ns (v,lo,hi)=(decide (lo<=(ns.count v:Int))&&decide ((ns.count v:Int)<=hi))from rfl,aB,decide_eq_true_eq,decide_eq_true_eq];constructor
  ·rintro⟨⟨g,g1,g2⟩,g3⟩;exact iaa g ⟨(dd.mp g1).1,g2⟩ g3
  ·rintro⟨g,⟨g1,g2⟩,g3⟩;exact⟨⟨g,dd.mpr ⟨g1,aX _⟩,g2⟩,g3⟩
theorem subs_mem(p:Nat->Bool):∀n:Nat,((ao n).filter p).map bp∈subsM n:=by
 intro n
 induction n with
 |zero=>exact .head _
 |succ n ih=>
  simp only[fY,List.filter_append,ah];cases e:p n with
  |true=>exact bm _ (au.mpr ⟨_,ih,by rw[dk e];rfl⟩)
  |false=>exact aK _ (by rw[dp (by rw[e];exact cE),List.filter_nil,ca,aM];exact ih)
theorem opts_mem(w:List Int)(m:Nat):optsM w m∈subsM (w.length+1):=by
 show _∈subsM w.length++(subsM w.length).map λs=>s++[(w.length:Int)];dsimp only[optsM];cases decide ((optB w m).length<(valsM m).length)with
 |true=>exact bm _ (au.mpr ⟨_,subs_mem _ _,rfl⟩)
 |false=>exact aK _ (by dsimp only;rw[aM];exact subs_mem _ _)
theorem ables_mem{w:Nat}:∀{able:List (List Int)},(∀r∈able,r∈subsM (w+1)/\r≠[])->able∈ables able.length w:=by
 intro able
 induction able with
 |nil=>intro _;exact .head _
 |cons r able ih=>
  intro h;obtain⟨h1,h2⟩:=h r (.head _);refine cg.mpr ⟨able,ih λx hx=>h x (.tail _ hx),au.mpr ⟨r,aq.mpr ⟨h1,?_⟩,rfl⟩⟩;clear h;cases r with
  |nil=>exact absurd rfl h2
  |cons _ _=>rfl
theorem bnds_mem:∀{l h:List Int},h.length=l.length->(∀j<l.length,(l.getD j 0,h.getD j 0)∈[((0:Int),(0:Int)),(0,1),(0,2),(1,1),(1,2)])->(l,h)∈bnds l.length:=by
 intro l
 induction l with
 |nil=>intro h hl _;cases h with|nil=>exact .head _|cons _ _=>injection hl
 |cons x l ih=>
  intro h hl g;cases h with
  |nil=>injection hl
  |cons y h=>
   exact cg.mpr ⟨(l,h),ih (bz.inj hl) λj hj=>g (j+1) (dX hj),au.mpr ⟨(x,y),g 0 (ck _),rfl⟩⟩
theorem ok_case{able:List (List Int)}{l h:List Int}(h1:1<=able.length/\able.length<=3)(h2:1<=l.length/\l.length<=2)(ha:∀r∈able,r∈subsM (l.length+1)/\r≠[])(hl:h.length=l.length)(hb:∀j<l.length,(l.getD j 0,h.getD j 0)∈[((0:Int),(0:Int)),(0,1),(0,2),(1,1),(1,2)]):
 okAll able (l++[0]) (h++[(able.length:Int)+1])=true:=by
 have ok:=okNW_all able.length (by
  have:able.length=1∨able.length=2∨able.length=3:=by lia
  rcases this with e|e|e<;>rw[e]<;>decide) l.length (by
  have:l.length=1∨l.length=2:=by lia
  rcases this with e|e<;>rw[e]<;>decide)
 unfold okNW at ok;exact aA.mp (aA.mp ok able (ables_mem ha)) (l,h) (bnds_mem hl hb)
theorem prod_map{α:Type}{g:α->Int}{A:α->List Int}:∀{tk:List α},(∀x∈tk,g x∈A x)->tk.map g∈prodL (tk.map A):=by
 intro tk
 induction tk with
 |nil=>intro _;exact .head _
 |cons x tk ih=>intro h;exact cg.mpr ⟨_,ih λy hy=>h y (.tail _ hy),au.mpr ⟨_,h x (.head _),rfl⟩⟩
theorem prod_out:∀{able:List (List Int)} {f:List Int},f∈prodL able->f.length=able.length/\∀k<able.length,f.getD k (-1)∈able.getD k []:=by
 intro able
 induction able with
 |nil=>intro f h;cases af.mp h;exact⟨rfl,λk hk=>absurd hk (bR _)⟩
 |cons r able ih=>
  intro f h;refine oea (cg.mp h) λf' h1 h2=>?_;refine oea (au.mp h2) λo h3 z_=>?_;refine z_▸?_;obtain⟨e1,e2⟩:=ih h1;refine⟨congrArg bz e1,λk hk=>?_⟩;cases k with
  |zero=>exact h3
  |succ k=>exact e2 k (cM hk)
set_option smartUnfolding false in
theorem feas_s{lows highs f:List Int}{o:Nat}:feas lows highs f (o+1)=(decide (lows.getD o 0<=(cntM f o:Int))&&decide ((cntM f o:Int)<=highs.getD o 0)&&feas lows highs f o):=rfl
theorem feas_iff{lows highs f:List Int}:∀{m:Nat},feas lows highs f m=true↔∀o<m,lows.getD o 0<=(cntM f o:Int)/\(cntM f o:Int)<=highs.getD o 0:=by
 intro m
 induction m with
 |zero=>exact⟨λ_ o ho=>absurd ho (bR _),λ_=>rfl⟩
 |succ m ih=>
  rw[feas_s];simp only[aB,aB,decide_eq_true_eq,decide_eq_true_eq,ih];constructor
  ·rintro⟨⟨h1,h2⟩,h3⟩ o ho;clear ih;rcases cG (bE ho)with z|rfl
   ·exact h3 o z
   ·exact⟨h1,h2⟩
  ·intro h;exact⟨h m (br _),λo ho=>h o (bT ho)⟩
theorem cnt_opt{w:List Int}(nd:w.Nodup){j:Nat}(hj:j<w.length)(ns:List Int):cntM (ns.map (optOf w)) j=ns.count (w.getD j 0):=by
 delta cntM fF;rw[gc];refine cK λv _=>?_;show decide (optOf w v=j)=true↔(v==w.getD j 0)=true;rw[decide_eq_true_eq,beq_iff_eq];constructor
 ·intro e;unfold optOf at e;cases hc:w.contains v with
  |true=>
   rw[hc]at e;have e:w.idxOf v=j:=bp.inj e;subst e;rw[getD_lt hj];exact(bW hj).symm
  |false=>rw[hc]at e;have e:w.length=j:=bp.inj e;lia
 ·rintro rfl;exact optOf_at nd hj
def KCd(tk:List Nat)(rs:List (Int×Int×Int))(p:Nat->Int):Prop:=rs.all (rowOk (tk.map p))=true
theorem hasM_iff{m:Nat}{v:Int}:hasM m v=true↔v∈valsM m:=by unfold hasM;exact ax
theorem optB_map{w:List Int}(nd:w.Nodup)(m:Nat):((optB w m).map λk=>w.getD k 0).Nodup:=
 nodup_inj (dT.filter _) λx hx y hy e=>by
  have h1:=aC.mp (aq.mp hx).1;have h2:=aC.mp (aq.mp hy).1;simp only[getD_lt h1,getD_lt h2]at e;have q:=nd.idxOf_getElem x h1;rw[e,nd.idxOf_getElem y h2]at q;exact q.symm
theorem opt_in{w:List Int}{m:Nat}{v:Int}(nd:w.Nodup)(hv:hasM m v=true):optOf w v∈optsM w m:=by
 delta optOf optsM;cases e:w.contains v with
 |true=>
  have hm:=ax.mp e;have hk:w.idxOf v<w.length:=bx.mpr hm;refine aK _ (au.mpr ⟨w.idxOf v,aq.mpr ⟨aC.mpr hk,?_⟩,rfl⟩);rw[getD_lt hk,bW hk];exact hv
 |false=>
  have nm:v∉w:=λz=>by replace e:=(ax.mpr z)▸e;injection e
  have:=len_sub (l:=v::(optB w m).map λk=>w.getD k 0) (m:=valsM m) (aE.mpr ⟨λz=>by
   obtain⟨k,hk,rfl⟩:=au.mp z;have hk:=aC.mp (aq.mp hk).1;exact nm (by rw[getD_lt hk];exact aP _),optB_map nd m⟩) λu hu=>by
   clear nm;rcases aj.mp hu with rfl|hu
   ·exact hasM_iff.mp hv
   ·obtain⟨k,hk,rfl⟩:=au.mp hu;exact hasM_iff.mp (aq.mp hk).2
  rw[am,a7]at this;rw[decide_eq_true (show(optB w m).length<(valsM m).length from this)];exact bm _ (.head _)
theorem opts_ne{w:List Int}{m:Nat}(nd:w.Nodup)(h:1<=m/\m<16):optsM w m≠[]:=λz=>by
 cases e:valsM m with
 |nil=>exact t_vals m h.2 h.1 e
 |cons v vs=>
  have:=opt_in (w:=w) (m:=m) (v:=v) nd (hasM_iff.mpr (by rw[e];exact .head _));replace this:=(z)▸this;cases this
theorem opts_len(w:List Int)(m:Nat)(h:w.length<=2):(optsM w m).length<=3:=by
 have:(optB w m).length<=w.length:=a6 (ak _ _) (aJ be);unfold optsM;rw[aa,a7];cases decide ((optB w m).length<(valsM m).length)with
 |true=>simp only[bn];lia
 |false=>simp only[bo];exact a6 (a6 ‹_› ‹_›) (a5 rfl)
theorem opts_nd(w:List Int)(m:Nat):(optsM w m).Nodup:=by
 have h1:((optB w m).map bp).Nodup:=nodup_inj (dT.filter _) λx _ y _ e=>bp.inj e;unfold optsM;split
 ·refine bN.mpr ⟨h1,aE.mpr ⟨aN,.nil⟩,λa ha b hb e=>?_⟩;obtain⟨k,hk,rfl⟩:=au.mp ha;have hk:=aC.mp (aq.mp hk).1;cases af.mp hb;lia
 ·rw[aM];exact h1
theorem opt_out{w:List Int}{m:Nat}{o:Int}(nd:w.Nodup)(h:o∈optsM w m):∃v,hasM m v=true/\optOf w v=o:=by
 rcases aO.mp h with h|h
 ·refine oea (au.mp h) λk hk z_=>?_;refine z_▸?_;obtain⟨h1,h2⟩:=aq.mp hk;exact iea _ h2 (optOf_at nd (aC.mp h1))
 ·cases e:decide ((optB w m).length<(valsM m).length)with
  |false=>replace h:=(e)▸h;cases h
  |true=>
   replace h:=(e)▸h;cases af.mp h;have nv:(valsM m).Nodup:=dh.filter _ (by decide);by_cases z:∀v∈valsM m,v∈w
   ·exfalso;have:=len_sub (l:=(valsM m).map w.idxOf) (m:=optB w m) (nodup_inj nv λx hx y hy e=>by
     have h1:=bW (bx.mpr (z x hx));have h2:=bW (bx.mpr (z y hy));refine(h1)▸?_;rw[←h2];congr 1) λk hk=>by
     refine oea (au.mp hk) λv hv z_=>?_;refine z_▸?_;have hl:=bx.mpr (z v hv);refine aq.mpr ⟨aC.mpr hl,?_⟩;rw[getD_lt hl,bW hl];exact hasM_iff.mpr hv
    rw[a7]at this;lia
   ·refine oe (Classical.not_forall.mp z) λv hv=>?_;obtain⟨h1,h2⟩:=Classical.not_imp.mp hv;exact iea v (hasM_iff.mpr h1) (optOf_out (dO.mpr λq=>h2 (ax.mp q)))
theorem feas_good{w l h ns:List Int}{n:Nat}(nd:w.Nodup)(e1:l.length=w.length)(e2:h.length=w.length)(hn:ns.length<=n):feas (l++[0]) (h++[(n:Int)+1]) (ns.map (optOf w)) (l++[0]).length=true↔Good (w,l,h) ns:=by
 rw[feas_iff];refine(aa).symm▸?_;constructor
 ·intro g j hj;have hj:j<w.length:=hj;have:=g j (bT (by rw[e1];exact hj));rw[getD_snoc,getD_snoc,if_pos (e1▸hj),if_pos (e2▸hj),cnt_opt nd hj]at this;exact this
 ·intro g o ho;have ho:o<l.length+1:=ho;rw[getD_snoc,getD_snoc];by_cases z:o<w.length
  ·rw[if_pos (e1▸z),if_pos (e2▸z),cnt_opt nd z];exact g o z
  ·have zo:o=w.length:=bC (bE (e1▸ho)) (aW.mp z);rw[if_neg (e1▸z),if_pos (e1▸zo),if_neg (e2▸z),if_pos (e2▸zo)];have:cntM (ns.map (optOf w)) o<=(ns.map (optOf w)).length:=List.countP_le_length;simp only[a7]at this;exact⟨aX _,aG (bv.mpr (a6 this hn)) (cn (Int.lt_succ _))⟩
structure Mg(s:List Int×List Int×List Int):Prop where
 sl:SameL3 s
 nd:s.1.Nodup
 rg:∀v∈s.1,0<=v/\v<=3
 bd:∀j<s.1.length,(0<=s.2.1.getD j 0/\s.2.1.getD j 0<=1)/\s.2.2.getD j 0<=2
theorem mg_want{s:List Int×List Int×List Int}(g:Mg s){v lo hi:Int}(hv:0<=v/\v<=3)(hl:0<=lo/\lo<=1)(hh:hi<=2):Mg (wantM s v lo hi)/\1<=(wantM s v lo hi).1.length:=by
 have sl:=wantM_len g.sl v lo hi;obtain⟨w,l,h⟩:=s;obtain⟨⟨h1,h2⟩,nd,rg,bd⟩:=g;dsimp only at h1 h2 nd rg bd;refine⟨⟨sl.1,?_,?_,?_⟩,?_⟩<;>unfold wantM<;>dsimp only<;>cases e:w.contains v with
 |true=>
  have hm:=ax.mp e;have hk:w.idxOf v<w.length:=bx.mpr hm
  first
   |exact nd
   |exact rg
   |exact aL (aZ _) hk
   |(intro j hj
     have b1:=bd j hj;have b2:=bd _ hk;rw[getD_set (h1▸hk),getD_set (h2▸hk)];by_cases ej:j=w.idxOf v
     ·rw[if_pos ej,if_pos ej];exact⟨⟨aG b2.1.1 (gB _ _),dd.mpr ⟨b2.1.2,hl.2⟩⟩,aG (gz _ _) b2.2⟩
     ·rw[if_neg ej,if_neg ej];exact b1)
 |false=>
  have nm:v∉w:=λz=>by replace e:=(ax.mpr z)▸e;injection e
  dsimp only
  first
   |exact bN.mpr ⟨nd,aE.mpr ⟨aN,.nil⟩,λa ha b hb q=>nm (by refine(af.mp hb)▸?_;rw[←q];exact ha)⟩
   |(intro u hu
     rcases aO.mp hu with hu|hu
     ·exact rg u hu
     ·cases af.mp hu;exact hv)
   |(rw[aa];exact bV _ _)
   |(intro j hj
     rw[aa]at hj;have hj:=hj;rw[getD_snoc,getD_snoc];by_cases ej:j<w.length
     ·rw[if_pos (h1▸ej),if_pos (h2▸ej)];exact bd j ej
     ·have zo:j=w.length:=bC (bE hj) (aW.mp ej);rw[if_neg (h1▸ej),if_pos (h1▸zo),if_neg (h2▸ej),if_pos (h2▸zo)];exact⟨hl,hh⟩)
def RowR(r:Int×Int×Int):Prop:=(0<=r.1/\r.1<=3)/\r.2.1<=1/\r.2.2<=2
theorem mg_merge:∀{rs:List (Int×Int×Int)} {s:List Int×List Int×List Int},Mg s->(∀r∈rs,RowR r)->Mg (mergeM rs s)/\(mergeM rs s).1.length<=s.1.length+rs.length/\(1<=rs.length+s.1.length->1<=(mergeM rs s).1.length):=by
 intro rs
 induction rs with
 |nil=>intro s g _;exact⟨g,aI _,λz=>by simp only[bo,bB]at z;exact z⟩
 |cons r rs ih=>
  intro s g h;obtain⟨v,lo,hi⟩:=r;refine oaa (h _ (.head _)) λh1 h2 h3=>?_;have k:=mg_want g (v:=v) (lo:=max lo 0) (hi:=hi) h1 ⟨gq _ _,dd.mpr ⟨h2,by decide⟩⟩ h3;have wl:=(wantM_len g.sl v (max lo 0) hi).2;refine oaa (ih k.1 λr hr=>h r (.tail _ hr)) λi1 i2 i3=>?_;refine iaa i1 ?_ (λ_=>i3 (a6 k.2 (bV _ _)));have:(mergeM rs (wantM s v (max lo 0) hi)).1.length<=(wantM s v (max lo 0) hi).1.length+rs.length:=i2;show(mergeM rs (wantM s v (max lo 0) hi)).1.length<=s.1.length+(rs.length+1);exact a6 this (a6 (ai wl _) (aJ (by simp only[bh,cB 1])))
theorem mg_nil:Mg ([],[],[]):=⟨⟨rfl,rfl⟩,.nil,(λv hv=>nomatch hv),λj hj=>absurd hj (bR _)⟩
theorem getr_able{w:List Int}{D:List Nat}{tk:List Nat}{k:Nat}(h:k<tk.length):(tk.map λx=>optsM w (at_ D x)).getD k []=optsM w (at_ D (tk.getD k 0)):=by
 simp only[a9,ae,a9,a8 h];rfl
structure Cases(tk:List Nat)(w l h:List Int)(s:Sto)(K:(Nat->Int)->Prop)(able:List (List Int))(lows highs:List Int)(R:RM):Prop where
 run:runM able lows highs=some R
 no:(∀S,R≠.ff S)/\(∀S,R≠.pf S)∨∀p,InD s.D p->¬K p
 pf:∀S,R=.pf S->S.length<=50
 ff:∀S,R=.ff S->S.length<=50/\∀o∈S,0<=o/\o<w.length
 sol:∀a c,R=.ok a c->a.length=tk.length/\(∀k<tk.length,a.getD k (-1)∈optsM w (at_ s.D (tk.getD k 0)))/\∀p:Nat->Int,(tk.map λx=>optOf w (p x))=a->K p
 cut:∀a c,R=.ok a c->∀o∈intsN lows.length,∃found room,reachM able lows highs a c o=some (found,room)/\∀k∈cutM able a found o,∀p,InD s.D p->K p->optOf w (p (tk.getD k 0))≠o
theorem cases_{tk:List Nat}{w l h:List Int}{s:Sto}{K:(Nat->Int)->Prop}(ok:s.Ok)(ht:1<=tk.length/\tk.length<=3)(hx:∀x∈tk,x<5)(g:Mg (w,l,h))(hw:1<=w.length/\w.length<=2)(hK:∀p,K p↔Good (w,l,h) (tk.map p))(hb:∀j<w.length,l.getD j 0<=h.getD j 0):
 ∃R,Cases tk w l h s K (tk.map λx=>optsM w (at_ s.D x)) (l++[0]) (h++[(tk.length:Int)+1]) R:=by
 obtain⟨⟨h1,h2⟩,nd,rg,bd⟩:=g;dsimp only at h1 h2 nd rg bd;have lt:(tk.map λx=>optsM w (at_ s.D x)).length=tk.length:=a7 _;have ok2:=ok_case (able:=tk.map λx=>optsM w (at_ s.D x)) (l:=l) (h:=h) (by refine(lt).symm▸?_;exact ht) (by refine(h1).symm▸?_;exact hw) (λr hr=>by
  refine oea (au.mp hr) λx hxm z_=>?_;subst z_;exact⟨by rw[h1];exact opts_mem _ _,opts_ne nd (ok.atD (hx x hxm))⟩) (by simp only[h1,h2]) λj hj=>by
  have b1:=bd j (by refine(h1)▸?_;exact hj);have b2:=hb j (by refine(h1)▸?_;exact hj);generalize l.getD j 0=x at *;generalize h.getD j 0=y at *;have:x=0∨x=1:=by lia
  rcases this with rfl|rfl
  ·have:y=0∨y=1∨y=2:=by lia
   clear b1;clear b2;rcases this with rfl|rfl|rfl<;>decide
  ·have:y=1∨y=2:=by lia
   clear b1;clear b2;rcases this with rfl|rfl<;>decide
 replace ok2:=(lt)▸ok2;have fw:∀p,InD s.D p->K p->(tk.map λx=>optOf w (p x))∈sols (tk.map λx=>optsM w (at_ s.D x)) (l++[0]) (h++[(tk.length:Int)+1]):=λp hp k=>by
  refine aq.mpr ⟨prod_map λx hxm=>opt_in nd (hp x (hx x hxm)),?_⟩;rw[show(tk.map λx=>optOf w (p x))=(tk.map p).map (optOf w) by simp only[av];rfl];exact(feas_good nd h1 h2 (by rw[a7];exact aI _)).mpr ((hK p).mp k)
 have bk:∀a,a∈sols (tk.map λx=>optsM w (at_ s.D x)) (l++[0]) (h++[(tk.length:Int)+1])->a.length=tk.length/\(∀k<tk.length,a.getD k (-1)∈optsM w (at_ s.D (tk.getD k 0)))/\∀p:Nat->Int,(tk.map λx=>optOf w (p x))=a->K p:=λa ha=>by
  refine oa (aq.mp ha) λm1 m2=>?_;clear ha;obtain⟨p1,p2⟩:=prod_out m1;clear m1;rw[lt]at p1 p2;refine iaa p1 (λk hk=>by refine(getr_able hk)▸?_;exact p2 k hk) (λp e=>?_);subst e;rw[show(tk.map λx=>optOf w (p x))=(tk.map p).map (optOf w) by rw[av];rfl]at m2;exact(hK p).mpr ((feas_good nd h1 h2 (by rw[a7];exact aI _)).mp m2)
 have nil:(sols (tk.map λx=>optsM w (at_ s.D x)) (l++[0]) (h++[(tk.length:Int)+1])).isEmpty=true->∀p,InD s.D p->¬K p:=λe p hp k=>by
  have:=fw p hp k;replace this:=(dU.mp e)▸this;cases this
 unfold okAll at ok2;cases er:runM (tk.map λx=>optsM w (at_ s.D x)) (l++[0]) (h++[(tk.length:Int)+1])with
 |none=>replace ok2:=(er)▸ok2;exact ff ok2
 |some R=>
  rw[er]at ok2;refine⟨R,?_⟩;cases R with
  |pf S=>
   have ok2:=(aB _ _).mp ok2;exact⟨er,.inr (nil ok2.1),(λS e=>by injection e with e;subst e;exact a5 ok2.2),(λS e=>nomatch e),(λa c e=>nomatch e),λa c e=>nomatch e⟩
  |ff S=>
   have ok2:=(aB _ _).mp ok2;have ok3:=(aB _ _).mp ok2.1;refine⟨er,.inr (nil ok3.1),(λS e=>nomatch e),λS e=>?_,λa c e=>(nomatch e),λa c e=>(nomatch e)⟩;injection e with e;subst e;refine⟨a5 ok3.2,λo ho=>?_⟩;have:=aA.mp ok2.2 o ho;rw[aB,decide_eq_true_eq,decide_eq_true_eq,aa]at this;exact⟨this.1,by have:=this.2;simp only[h1,bn]at this;lia⟩
  |ok a c=>
   have ok2:=(aB _ _).mp ok2;refine⟨er,.inl ⟨λS e=>(nomatch e),λS e=>(nomatch e)⟩,λS e=>(nomatch e),λS e=>(nomatch e),λa c e=>?_,λa c e o ho=>?_⟩
   ·injection e with e;subst e;exact bk a (ax.mp ok2.1)
   ·cases e;have:=aA.mp ok2.2 o ho;cases eR:reachM (tk.map λx=>optsM w (at_ s.D x)) (l++[0]) (h++[(tk.length:Int)+1]) a c o with
    |none=>rw[eR]at this;cases this
    |some q=>
     obtain⟨found,room⟩:=q;rw[eR]at this;refine ieea found room rfl (λk hk p hp kp e=>?_);have:=aA.mp (aA.mp this k hk) _ (fw p hp kp);have hkl:k<tk.length:=by rw[←(bk a (ax.mp ok2.1)).1];exact aC.mp (aq.mp hk).1
     rw[a9,ae,a8 hkl]at this;rw[a9,a8 hkl]at e;rw[show(eW (λx=>optOf w (p x)) (some tk[k])).getD (-1)=o from e,decide_eq_true rfl]at this;cases this
set_option smartUnfolding false in
theorem runM_e{able:List (List Int)}{lows highs:List Int}:runM able lows highs=(placeAll able lows highs (intsN able.length) (aQ able.length (-1)) (aQ lows.length 0)).bind λx=>x.on λa c=>fillAll able lows (intsN (lows.length-1)) a c:=rfl
set_option smartUnfolding false in
theorem placeAll_c{able:List (List Int)}{lows highs ms a c:List Int}{m:Int}:placeAll able lows highs (m::ms) a c=(placeM able highs a c m).bind λx=>x.2.elim (cond (lenOk able lows x.1.1 x.1.2) (placeAll able lows highs ms x.1.1 x.1.2) none) λS=>some (.pf S):=rfl
set_option smartUnfolding false in
theorem fillOne_s{able:List (List Int)}{lows a c:List Int}{o:Int}{f:Nat}:fillOne able lows o (f+1) a c=(geti c o).bind λn=>(geti lows o).bind λl=>cond (decide (n<l)) ((fillM able lows a c o).bind λx=>x.2.elim (cond (lenOk able lows x.1.1 x.1.2) (fillOne able lows o f x.1.1 x.1.2) none) λS=>some (.ff S)) (some (.ok a c)):=rfl
set_option smartUnfolding false in
theorem fillAll_c{able:List (List Int)}{lows os a c:List Int}{o:Int}:fillAll able lows (o::os) a c=(fillOne able lows o 5 a c).bind λx=>x.on λa' c'=>fillAll able lows os a' c':=rfl
theorem lenOk_iff{able:List (List Int)}{lows a c:List Int}(h:lenOk able lows a c=true):a.length=able.length/\c.length=lows.length:=by
 refine oa ((aB _ _).mp h) λh1 h2=>?_;exact⟨az h1,az h2⟩
theorem intsN_rg{n:Nat}{m:Int}(h:m∈intsN n):0<=m/\m<n:=by
 refine oea (au.mp h) λk hk z_=>?_;refine z_▸?_;exact⟨aX k,bq.mpr (aC.mp hk)⟩
theorem geti_left{l:List Int}{u v x:Int}(h:geti (l++[x]) u=some v)(hu:u<l.length):geti l u=some v:=by
 cases u with
 |ofNat n=>
  have h:(l++[x])[n]?=some v:=h;rw[aS (bq.mp hu)]at h;exact h
 |negSucc n=>exact nos h
section
variable{c:Cx}
theorem c_Placing(H:KF c):∀(able:List (List Int)) (lows highs:List Int),(able.length<=100)->(lows.length<=100)->FS1 c 2 633 [.v (.lst (able.map iL)),.v (iL lows),.v (iL highs)] (λQ=>Q (.fresh (plO able lows highs (aQ able.length (-1)) (aQ lows.length 0))) [.v (.lst (able.map iL)),.v (iL lows),.v (iL highs)]):=
 λable lows highs h0 h1=>.cls (H.cl 7 633 599 rfl) (c_pl_init H able lows highs h0 h1)
theorem c_cd_once(H:KF c):∀(tk:List Nat) (rw rl rh w l h:List Int) (tw:Bool) (s:Sto) (K:(Nat->Int)->Prop),(s.Ok)->(s.fl=false)->(1<=tk.length/\tk.length<=3)->(∀x∈tk,x<5)->(Mg (w,l,h))->(1<=w.length/\w.length<=2)->(∀p,K p↔Good (w,l,h) (tk.map p))->FS1 c 7 677 [cdO tk rw rl rh w l h tw,s.w] (λQ=>∀b s',Out K s b s'->(b=true->∃a:List Int,a.length=tk.length/\(∀k<tk.length,a.getD k (-1)∈optsM w (at_ s.D (tk.getD k 0)))/\∀p:Nat->Int,(tk.map λx=>optOf w (p x))=a->K p)->Q (.v (.bool b)) [cdO tk rw rl rh w l h tw,s'.w]):=
 λtk rw rl rh w l h tw s K ok hf ht hx g hw hK=>.ofChk1 H (H.f 67 677 (stAt (bodyOf (stAt top 32)) 4) [122,131] rfl) [5,0,0,0,147,122,1,122,66,79,122,66,58,122,66,66,38,5,131,136,122,2,122,131,151,103,5,122,131,151,1,25,24,1,79,122,58,122,0,0,136,122,108,5,0,0,0,136,122,86,106,5,108,86,48,48,136,122,86,151,38,5,131,24,5,122,131,108,48,22,21,151,29,5,131,151,5,0,0,0,147,122,101,26,108,101,79,122,101,41,5,108,101,123,123,38,5,131,70,5,122,108,123,5,0,0,0,147,122,101,135,5,122,131,108,101] (w:=by
  intro Q q;have h1:l.length=w.length:=g.sl.1;have h2:h.length=w.length:=g.sl.2;have nd:w.Nodup:=g.nd;have rg:∀v∈w,0<=v/\v<=3:=g.rg;have hvl:(vN tk).length<=3:=by rw[a7];exact ht.2
  have n9:((w.length:Int)+1).natAbs<=1000000:=leT (nabA (nabN hw.2) nab1) rfl;have l9:l.length+(0+1)<=4096:=leS (a6 (aJ h1) hw.2) rfl;walk_at"g";refine accF (ao w.length) (λk:Nat=>V.int k) (λk=>decide (h.getD k 0<l.getD k 0)) (λk:Nat=>V.int k) (by rw[a7];exact range_int _) (λk hk acc Q' ha hq hr=>?_) (by rw[be];exact a6 hw.2 (a5 rfl)) ?_
  ·have hk:=aC.mp hk;have f1:itemAt (l.map V.int) (k:Int)=some (.int (l.getD k 0)):=itemAt_nat (szMap (h1▸a6 hw.2 (a5 rfl))) (by rw[ae,a9,a8 (h1▸hk)];rfl);have f2:itemAt (h.map V.int) (k:Int)=some (.int (h.getD k 0)):=itemAt_nat (szMap (h2▸a6 hw.2 (a5 rfl))) (by rw[ae,a9,a8 (h2▸hk)];rfl);walk_at"g"
   ·rename_i e;exact hq (decide_eq_true e) _ rfl
   ·rename_i e;exact hr (decide_eq_false e) _ rfl
  generalize hB:((ao w.length).filter λk=>decide (h.getD k 0<l.getD k 0))=B;rw[show B.map (λk:Nat=>V.int k)=(B.map bp).map V.int by rw[av];rfl];walk_at"g";refine eqNil_ ?_;cases B with
  |cons j B=>
   have hj:j∈(ao w.length).filter λk=>decide (h.getD k 0<l.getD k 0):=by rw[hB];exact .head _
   obtain⟨j1,j2⟩:=aq.mp hj;walk_at"g";refine fail_ H (K:=K) ok (.inl rfl) (by simp) (λp hp k=>?_) (λs' o'=>?_)
   ·have z:=(hK p).mp k j (aC.mp j1);exact Int.lt_irrefl _ (fN (of_decide_eq_true j2) (aG z.1 z.2))
   walk_at"g";exact q false s' o' (λe=>nomatch e)
  |nil=>
   have hb:∀j<w.length,l.getD j 0<=h.getD j 0:=λj hj=>by
    refine bD.mp λz=>?_;have:j∈(ao w.length).filter λk=>decide (h.getD k 0<l.getD k 0):=aq.mpr ⟨aC.mpr hj,decide_eq_true z⟩;rw[hB]at this;cases this
   obtain⟨R,C⟩:=cases_ ok ht hx g hw hK hb;walk_at"g";refine acc1 tk (λx:Nat=>V.int x) (λx=>iL (optsM w (at_ s.D x))) rfl (λx hxm acc Q' ha hq=>?_) (a6 ht.2 (a5 rfl)) ?_
   ·walk_at"g";refine call1_ (c_cd_opts H tk rw rl rh w l h tw s x ok (hx x hxm) (λv hv=>k8_4 (rg v hv).1 (rg v hv).2) hw.2) ?_;walk_at"g";exact hq _ rfl
   rw[show(tk.map λx=>iL (optsM w (at_ s.D x)))=(tk.map λx=>optsM w (at_ s.D x)).map iL by rw[av];rfl];generalize hA:(tk.map λx=>optsM w (at_ s.D x))=able at *;have la:able.length=tk.length:=by rw[←hA,a7]
   have ra:∀r∈able,r≠[]/\r.length<=10/\r.Nodup:=λr hr=>by
    rw[←hA]at hr;obtain⟨x,hxm,rfl⟩:=au.mp hr;exact⟨opts_ne nd (ok.atD (hx x hxm)),a6 (opts_len w _ hw.2) (by decide),opts_nd _ _⟩
   have vl:(vN tk).length=tk.length:=a7 _;walk_at"g";refine call1e_ (c_Placing H able (l++[0]) (h++[(tk.length:Int)+1]) (la▸a6 ht.2 (a5 rfl)) (by rw[aa,h1];exact a6 (ai hw.2 1) (by decide))) (by unfold iL;rw[ah,ah,vl];rfl) ?_;have ml:(l++[(0:Int)]).length=w.length+1:=by rw[aa,h1];rfl
   generalize hL:l++[(0:Int)]=lows at *;have mh:(h++[(tk.length:Int)+1]).length=w.length+1:=by rw[aa,h2];rfl
   generalize hH:h++[(tk.length:Int)+1]=highs at *;walk_at"g";have pk:∀a cs:List Int,a.length=able.length->cs.length=lows.length->PlOk able lows highs a cs:=λa cs e1 e2=>
    have A:able.length<=100:=la▸a6 ht.2 (a5 rfl);have L:w.length+1<=100:=a6 (bj hw.2) (a5 rfl)
    ⟨A,ml▸L,mh▸L,e1▸A,e2▸ml▸L,ra⟩
   refine ob_ (ec_ runM_e C.run) λx0 e0 k0=>?_;refine loop2_ V.int (λa cs:List Int=>[(122,_),(131,_),(1,_),(108,plO able lows highs a cs)])
    (λus a cs G=>placeAll able lows highs us a cs=some x0->a.length=able.length->cs.length=lows.length->(∀m∈us,0<=m/\m<tk.length)->G) (λu us a cs Q2 i1 i2 i3 i4 hn2 hr2=>?_) (λa cs i1 i2 i3 _=>?_) (intsN tk.length) (aQ able.length (-1)) (aQ lows.length 0)
    (λR k=>k (la▸e0) cP cP λm hm=>intsN_rg hm) (e:=by rw[vl];exact range_ints _)
   ·have hu:=i4 u (.head _);have hul:u.toNat<tk.length:=(cC hu.1).mpr hu.2;have f1:itemAt (vN tk) u=some (.int (tk.getD u.toNat 0:Nat)):=by
     have:=vN_at (tk:=tk) (k:=u.toNat) (a6 ht.2 (a5 rfl)) hul
     rwa[bJ hu.1]at this
    have x5:=hx (tk.getD u.toNat 0) (by rw[a9,a8 hul];exact aP _);have om:=ok.atD x5;refine ob_ (ec_ placeAll_c i1) λres ep i1=>?_;walk_at"g";refine call1_ (c_pl_place H able lows highs a cs u res (pk a cs i2 i3) ep) ⟨λa' c' er=>?_,λS er=>?_⟩
    ·rw[er]at i1;refine og_ i1 λel i1=>?_;walk_at"g";exact hn2 a' c' _ (λR k=>k i1 (lenOk_iff el).1 (lenOk_iff el).2 λm hm=>i4 m (.tail _ hm)) rfl
    ·rw[er]at i1;have eR:R=.pf S:=by rw[←ab.inj i1]at k0;exact(ab.inj k0).symm
     have no:=C.no.resolve_left λz=>z.2 S eR;have sl:(sortI S).length<=50:=by rw[(sortI_perm S).length_eq];exact C.pf S eR
     walk_at"g";refine call1_ (c_cd_conf H tk rw rl rh w l h tw s able lows highs a cs (sortI S) ok hx (i2.trans la) ht.2 sl) (λrs hrs=>?_);walk_at"g";refine call1_ (c_dom H s (tk.getD u.toNat 0) ok x5) ?_;walk_at"g";refine call1_ (c_standing H (tk.getD u.toNat 0) (at_ s.D (tk.getD u.toNat 0)) om.1 om.2) (λr2 hr=>?_);walk_at"g";refine fail_ H (K:=K) ok (.inr rfl) (by rw[aa];exact a6 (bL hrs hr) (a5 rfl)) no (λs' o'=>?_);walk_at"g";exact hr2 _ _ (q false s' o' (λe=>ff e))
   ·have i1:fillAll able lows (intsN w.length) a cs=some R:=by rw[←ab.inj i1,ml]at k0;exact k0
    walk_at"g";refine loop2_ V.int (λa cs:List Int=>[(122,_),(131,_),(1,_),(108,plO able lows highs a cs)])
     (λus a cs G=>fillAll able lows us a cs=some R->a.length=able.length->cs.length=lows.length->(∀m∈us,0<=m/\m<w.length)->G) (λu us a cs Q2 j1 j2 j3 j4 hn2 hr2=>?_) (λa cs j1 j2 j3 _=>?_) (intsN w.length) a cs (λR k=>k i1 i2 i3 λm hm=>intsN_rg hm) (e:=by rw[a7];exact range_ints _)
    ·have hu:=j4 u (.head _);refine ob_ (ec_ fillAll_c j1) λx1 j0 j1=>?_;walk_at"g";refine while2_ 5 a cs (λa cs:List Int=>[(122,_),(131,_),(1,_),(108,plO able lows highs a cs),(101,_)])
      (λf a cs G=>fillOne able lows u f a cs=some x1->a.length=able.length->cs.length=lows.length->G) rfl (λR k=>k j0 j2 j3) (λf a cs Q' k1 k2 k3 hn' hr'=>?_) λa cs z _ _=>nos z
     have pa:=pk a cs k2 k3;refine ob_ (ec_ fillOne_s k1) λn en k1=>ob_ k1 λlo em k1=>?_;have f1:=geti_at pa.lc en;have f2:=geti_at (l:=l) (h1▸a6 hw.2 (a5 rfl)) (geti_left (by rw[hL];exact em) (h1▸hu.2));walk_at"g"
     ·rename_i lt;refine ob_ (oT (decide_eq_true lt) k1) λres ef k1=>?_;refine call1_ (c_pl_fill H able lows highs a cs u res pa ef) ⟨λa' c' er=>?_,λS er=>?_⟩
      ·rw[er]at k1;refine og_ k1 λel k1=>?_;walk_at"g";exact hn' a' c' _ (λR k=>k k1 (lenOk_iff el).1 (lenOk_iff el).2) rfl
      ·rw[er]at k1;have eR:R=.ff S:=by rw[←ab.inj k1]at j1;exact(ab.inj j1).symm
       have no:=C.no.resolve_left λz=>z.1 S eR;obtain⟨s1,s2⟩:=C.ff S eR;walk_at"g";refine call1_ (c_cd_lack H tk rw rl rh w l h tw able lows highs a cs (sortI S) (k2.trans la) ht.2 (by rw[(sortI_perm S).length_eq];exact s1) (λo ho=>s2 o ((sortI_perm S).mem_iff.mp ho)) hw.2) (λrs hrs=>?_);walk_at"g";refine fail_ H (K:=K) ok (.inr rfl) (a6 hrs (a5 rfl)) no (λs' o'=>?_);walk_at"g";exact hr' _ _ (hr2 _ _ (q false s' o' (λe=>ff e)))
     ·rename_i lt;have k1:=oF (decide_eq_false lt) k1;rw[←ab.inj k1]at j1;exact hn2 a cs _ (λR k=>k j1 k2 k3 λm hm=>j4 m (.tail _ hm)) rfl
    ·have eR:R=.ok a cs:=(ab.inj j1).symm;obtain⟨z1,z2,z3⟩:=C.sol a cs eR;have z4:=C.cut a cs eR;have cd:CdOk tk w l h able lows highs a cs:=⟨pk a cs j2 j3,j3,j2.trans la,la,ht.2,hx,hw.2,ml,h1,rg,nd⟩;walk_at"g";refine loop1_ V.int (λst:Sto=>[(122,_),(131,st.w),(1,_),(108,plO able lows highs a cs)])
      (λus st G=>Out K s true st->(∀m∈us,m∈intsN lows.length)->G) (λu us st Q2 m1 m2 hn2 hr2=>?_) (λst hi _=>?_) (intsN lows.length) s (λR k=>k (.refl ok hf) λm hm=>hm) (e:=by rw[a7,ml];exact range_ints _)
     ·obtain⟨found,room,e1,e2⟩:=z4 u (m2 u (.head _));have hu:=intsN_rg (m2 u (.head _));walk_at"g";refine call1_ (c_cd_strike H tk rw rl rh w l h tw st K able lows highs a cs u found room m1.le.ok m1.fl cd e1 ⟨hu.1,Int.le_of_lt_add_one (by have:=hu.2;rw[ml]at this;exact this)⟩ (λk hk p hp kp=>e2 k hk p (λx hx=>m1.le.sub x hx _ (hp x hx)) kp)) (λb s' o'=>?_);cases b with
      |false=>
       walk_at"g";exact hr2 _ _ (q false s' (m1.trans o') (λe=>ff e))
      |true=>
       walk_at"g";exact hn2 s' _ (λR k=>k (m1.trans o') λm hm=>m2 m (.tail _ hm)) rfl
     ·walk_at"g";exact q true st hi λ_=>ieaa a z1 z2 z3)
end
theorem nodup_len:∀{L ns:List Int},L.Nodup->(∀x∈L,x∈ns)->ns.length<=L.length->ns.Nodup:=by
 intro L
 induction L with
 |nil=>intro ns _ _ h;cases ns with|nil=>exact .nil|cons _ _=>exact absurd h (cS _)
 |cons x L ih=>
  intro ns nd sub h;obtain⟨n1,n2⟩:=aE.mp nd;have hx:=sub x (.head _);have el:=dg hx;have hp:1<=ns.length:=du hx;simp only[am]at h;have s2:∀y∈L,y∈ns.erase x:=λy hy=>(dE λz:y=x=>n1 (z▸hy)).mpr (sub y (.tail _ hy));clear sub;clear n1;refine(List.perm_cons_erase hx).nodup_iff.mpr (aE.mpr ⟨λz=>?_,ih n2 s2 (a6 (aJ el) (Nat.sub_le_of_le_add h))⟩);have:=len_sub (l:=x::L) (m:=ns.erase x) nd λy hy=>by
   clear el;clear nd;clear hx;rcases aj.mp hy with rfl|hy
   ·exact z
   ·exact s2 y hy
  simp only[am]at this;exact Nat.not_lt_of_le (a6 h this) (by rw[el];exact e8 hp fg)
theorem twins_no{tk:List Nat}(h:twins tk=false):tk.Nodup:=by
 have h:=of_decide_eq_false h;have nd:=nodup_len (ns:=tk.map bp) (kinds_mem (ns:=tk.map bp)).1 (λx hx=>(kinds_mem.2 x).mp hx) (by
  have:(vN tk).length=tk.length:=a7 _;rw[a7];lia)
 exact nodup_map nd|>.1
theorem fin_pass{tk:List Nat}{w l h a:List Int}{s1 s2:Sto}{K:(Nat->Int)->Prop}(ok:s1.Ok)(nd:w.Nodup)(hx:∀x∈tk,x<5)(hK:∀p,K p↔Good (w,l,h) (tk.map p))(o:Out K s1 true s2)(z1:a.length=tk.length)(z2:∀k<tk.length,a.getD k (-1)∈optsM w (at_ s1.D (tk.getD k 0)))
 (z3:∀p:Nat->Int,(tk.map λx=>optOf w (p x))=a->K p) (c:tk.Nodup∨s2.D=s1.D):Fin_ K s2:=by
 intro p hp;have eqa:∀q:Nat->Int,(∀k (hk:k<tk.length),optOf w (q tk[k])=a.getD k (-1))->K q:=λq hq=>z3 q (by
  refine cz (by simp only[a7,z1]) λk h1 h2=>?_;rw[a7]at h1;simp only[ci,hq k h1,a9,a8 h2];rfl)
 have gk:∀{k} (hk:k<tk.length),tk.getD k 0=tk[k]:=λhk=>by rw[a9,a8 hk];rfl
 rcases c with c|c
 ·have ex:∀x:Nat,∃v:Int,x<5->hasM (at_ s1.D x) v=true/\∀k (hk:k<tk.length),tk[k]=x->optOf w v=a.getD k (-1):=λx=>by
   by_cases z:x∈tk
   ·have hi:=bx.mpr z;have hm:=z2 _ hi;rw[gk hi,bW hi]at hm;refine oea (opt_out nd hm) λv v1 v2=>?_;refine⟨v,λ_=>⟨v1,λk hk e=>?_⟩⟩;have:=c.idxOf_getElem k hk;rw[e]at this;simp only[v2,this]
   ·by_cases x5:x<5
    ·cases e:valsM (at_ s1.D x)with
     |nil=>exact absurd e (t_vals _ (ok.atD x5).2 (ok.atD x5).1)
     |cons v vs=>exact⟨v,λ_=>⟨hasM_iff.mpr (by rw[e];exact .head _),λk hk q=>absurd (q▸aP hk) z⟩⟩
    ·exact⟨0,λq=>absurd q x5⟩
  obtain⟨q,hq⟩:=Classical.skolem.mp ex;have kq:K q:=eqa q λk hk=>(hq _ (hx _ (aP hk))).2 k hk rfl;have iq:=o.kept q (λx x5=>(hq x x5).1) kq;have e:∀x<5,q x=p x:=λx x5=>by
   have:=hasM_iff.mp (iq x x5);rw[hp x x5]at this;exact af.mp this
  rw[hK]at kq⊢
  rwa[c8 λx hxm=>(e x (hx x hxm)).symm]
 ·refine eqa p λk hk=>?_;have hm:=z2 k hk;rw[gk hk]at hm;refine oea (opt_out nd hm) λv v1 v2=>?_;have:=hasM_iff.mp v1;rw[←c,hp _ (hx _ (aP hk))]at this;simp only[←v2,af.mp this]
section
variable{c:Cx}
noncomputable def cdX(tk:List Nat)(rs:List (Int×Int×Int)):MW:=cdO tk (rs.map (·.1)) (rs.map (·.2.1)) (rs.map (·.2.2)) (mergeM rs ([],[],[])).1 (mergeM rs ([],[],[])).2.1 (mergeM rs ([],[],[])).2.2 (twins tk)
theorem c_cd_prop(H:KF c):FSW c 8 (.ref 672) (λws Q=>∃(tk:List Nat) (rs:List (Int×Int×Int)),((1<=tk.length/\tk.length<=3)/\(∀x∈tk,x<5)/\(1<=rs.length/\rs.length<=2)/\∀r∈rs,RowR r)/\PropF (cdX tk rs) (KCd tk rs) ws Q):=
 .ofChk H (H.f 66 672 (stAt (bodyOf (stAt top 32)) 3) [122,131] rfl) [82,82,0,0,138,131,0,0,138,131,82,134,5,122,131,54,122] (w:=by
  rintro ws Q ⟨tk,rs,⟨hl,hx,hr,hR⟩,s,rfl,ok,hf,q⟩;refine oaa (mg_merge mg_nil hR) λg w1 w2=>?_;have hK:∀p,KCd tk rs p↔Good (mergeM rs ([],[],[])) (tk.map p):=λp=>by
   rw[good_merge mg_nil.sl];exact⟨λk=>⟨λj hj=>absurd hj (bR _),k⟩,λk=>k.2⟩
  have hT:twins tk=false->tk.Nodup:=twins_no;unfold cdX at *;generalize twins tk=tw at *;generalize mergeM rs ([],[],[])=m at *;obtain⟨w,l,h⟩:=m;dsimp only at *;simp only[bo,bB]at w1;walk_at"g";refine while2_ 23 (-1) s (λ(mark:Int) (s1:Sto)=>[(122,_),(131,s1.w),(82,.v (.int mark))])
   (λm mark s1 G=>Out (KCd tk rs) s true s1->mark<=s1.tr.length->22<=mark+m->(mark=s1.tr.length->Fin_ (KCd tk rs) s1)->G) rfl (λR k=>k (.refl ok hf) (aG (by decide) (aX _)) (by decide) λe=>(mark_no e).elim)
   (λm mark s1 Q' h1 h2 h3 h4 hn' hr'=>?_) λmark s1 h1 h2 h3 _=>mark_end h1.le.ok.tr h2 h3
  have ht:=a6 (an _ _) h1.le.ok.tr;walk_at"g"
  ·rename_i hlt;rw[a7]at hlt;refine call1_ (c_cd_once H tk _ _ _ w l h tw s1 (KCd tk rs) h1.le.ok h1.fl hl hx g ⟨w2 hr.1,a6 w1 hr.2⟩ hK) (λb s2 o2 hfin=>?_);cases b with
   |false=>
    walk_at"g";apply hr';exact q false s2 (h1.trans o2) (λe=>ff e)
   |true=>
    refine oeaa (hfin rfl) λa a1 a2 a3=>?_;have fp:=fin_pass h1.le.ok g.nd hx hK o2 a1 a2 a3;have mk:=mark_step h3 hlt o2.le.len;walk_at"g"
    ·rename_i e;apply hr';exact q true s2 (h1.trans o2) λ_=>fp (.inl (hT (nt_ e)))
    ·refine hn' (((s1.tr.map Ent.v).length:Int)) s2 _ (λR k=>k (h1.trans o2) (by rw[a7];exact mk.1) (by rw[a7];exact mk.2) λe=>?_) rfl;rw[a7]at e;exact fp (.inr (o2.le.same (bp.inj e).symm))
  ·rename_i hge;rw[a7]at hge;exact q true s1 h1 (λ_=>h4 (cr h2 (bD.mp hge))))
end
inductive TD where
 |adv (row:List Nat)|adb (row:List Nat)|cnt (row:List Nat) (v n:Nat)|nv (row:List Nat) (n:Nat)|cd (row:List Nat) (rs:List (Int×Int×Int))
noncomputable def TD.row:TD->List Nat
 |.adv r=>r|.adb r=>r|.cnt r _ _=>r|.nv r _=>r|.cd r _=>r
noncomputable def TD.tup:TD->V
 |.adv r=>.tup [.str (Str.ofString "all_different"),.tup (vN r),.str (Str.ofString "values")]
 |.adb r=>.tup [.str (Str.ofString "all_different"),.tup (vN r),.str (Str.ofString "bounds")]
 |.cnt r v n=>.tup [.str (Str.ofString "count"),.tup (vN r),.int v,.int n]
 |.nv r n=>.tup [.str (Str.ofString "nvalue"),.tup (vN r),.int n]
 |.cd r rs=>.tup [.str (Str.ofString "cardinality"),.tup (vN r),iT (rs.map (·.1)),iT (rs.map (·.2.1)),iT (rs.map (·.2.2))]
noncomputable def TD.obj:TD->MW
 |.adv r=>adO 456 r "values"
 |.adb r=>adO 369 r "bounds"
 |.cnt r v n=>cntO r v n
 |.nv r n=>nvO r n
 |.cd r rs=>cdX r rs
noncomputable def TD.scope:TD->List Nat
 |.adv r=>r|.adb r=>r|.cnt r _ n=>r++[n]|.nv r n=>r++[n]|.cd r _=>r
noncomputable def TD.word:TD->Str
 |.adb _=>Str.ofString "bounds"|.nv _ _=>Str.ofString "weak"|_=>Str.ofString "values"
def TD.K:TD->(Nat->Int)->Prop
 |.adv r=>KAd r|.adb r=>KAd r|.cnt r v n=>KCnt r v n|.nv r n=>KNv r n|.cd r rs=>KCd r rs
def TD.Rg:TD->Prop
 |.cnt _ v n=>v<4/\n<5|.nv _ n=>n<5|.cd _ rs=>(1<=rs.length/\rs.length<=2)/\∀r∈rs,RowR r|_=>True
structure TD.Ok(t:TD):Prop where
 ln:1<=t.row.length/\t.row.length<=3
 x5:∀x∈t.row,x<5
 rg:t.Rg
theorem eqS_{a b:Str}{P:Bool->Prop}(h:P (decide (a=b)))(h1:okV (.str a)=true:=by decide+kernel)(h2:okV (.str b)=true:=by decide+kernel):EqV (.str a) (.str b) P:=eqv_ _ h1 h2 (by rw[decide_eq_true_eq];simp) h
theorem eqS_n{a b:Str}{X Y:Prop}(h:Y)(e:decide (a=b)=false:=by decide+kernel)(h1:okV (.str a)=true:=by decide+kernel)(h2:okV (.str b)=true:=by decide+kernel):EqV (.str a) (.str b) λr=>Br r X Y:=eqS_ (P:=λr=>Br r X Y) (e▸brF h) h1 h2
theorem eqS_y{a:Str}{X Y:Prop}(h:X)(h1:okV (.str a)=true:=by decide+kernel):EqV (.str a) (.str a) λr=>Br r X Y:=eqS_ (P:=λr=>Br r X Y) ((decide_eq_true (rfl:a=a))▸brT h) h1 h1
section
variable{c:Cx}
theorem c_rule(H:KF c):∀t:TD,(t.Ok)->FS1 c 4 720 [.v t.tup] (λQ=>Q (.fresh t.obj) [.v t.tup]):=
 λt ok=>.ofChk1 H (H.f 73 720 (stAt top 34) [137] rfl) [137,92,92,137,21,20,137,19,18,137,92,23,22,137,137,137,92,24,23,137,137,26,25,137,137,137,137] (w:=by
  intro Q q;obtain⟨ln,x5,rg⟩:=ok;cases t with
  |adv r=>
   walk_at"g";refine eqS_y ?_;walk_at"g";refine eqS_y ?_;walk_at"g";refine call1_ (c_AdV H r ln.2) ?_;walk_at"g";exact q
  |adb r=>
   walk_at"g";refine eqS_y ?_;walk_at"g";refine eqS_n ?_;walk_at"g";refine call1_ (c_AdB H r ln.2) ?_;walk_at"g";exact q
  |cnt r v n=>
   walk_at"g";refine eqS_n ?_;walk_at"g";refine eqS_y ?_;walk_at"g";refine call1_ (c_Count H r v n ln.2) ?_;walk_at"g";exact q
  |nv r n=>
   walk_at"g";refine eqS_n ?_;walk_at"g";refine eqS_n ?_;walk_at"g";refine eqS_y ?_;walk_at"g";refine call1_ (c_Nv H r n ln.2) ?_;walk_at"g";exact q
  |cd r rs=>
   walk_at"g";refine eqS_n ?_;walk_at"g";refine eqS_n ?_;walk_at"g";refine eqS_n ?_;walk_at"g";refine call1_ (c_Card H r rs ln.2 rg.1.2) ?_;walk_at"g";exact q)
end
theorem FSW.lift{c:Cx}{k k':Nat}{f:Value}{F:FF}(h:FSW c k f F)(le:k<=k'):FSW c k' f F:=λK g L ws vals A s Q rm=>h K g L ws vals A s Q ⟨rm.1,rmL rm.2.1 le,rmL rm.2.2 le⟩
noncomputable def TD.cls:TD->Nat
 |.adv _=>456|.adb _=>369|.cnt _ _ _=>510|.nv _ _=>583|.cd _ _=>711
noncomputable def objK:MW->List Nat
 |.obj _ ks _=>ks
 |_=>[]
noncomputable def objV:MW->List MW
 |.obj _ _ ws=>ws
 |_=>[]
theorem TD.isObj(t:TD):t.obj=.obj t.cls (objK t.obj) (objV t.obj):=by cases t<;>rfl
noncomputable def TD.fP:TD->Nat
 |.adv _=>446|.adb _=>356|.cnt _ _ _=>488|.nv _ _=>535|.cd _ _=>672
noncomputable def TD.fT:TD->Nat
 |.adv _=>434|.adb _=>346|.cnt _ _ _=>507|.nv _ _=>580|.cd _ _=>708
noncomputable def TD.fC:TD->Nat
 |.adv _=>439|.adb _=>351|.cnt _ _ _=>500|.nv _ _=>573|.cd _ _=>701
theorem TD.hasM(t:TD):(methA t.cls 111=some t.fP/\methA t.cls 137=some t.fT/\methA t.cls 20=some t.fC)/\memN 111 (objK t.obj)=false/\memN 137 (objK t.obj)=false/\memN 20 (objK t.obj)=false:=by cases t<;>exact iaaa (iaa rfl rfl rfl) rfl rfl rfl
theorem TD.hasA(t:TD):(okAt t.cls 118=true/\okAt t.cls 132=true)/\lookK (objK t.obj) (objV t.obj) 118=some (.v (.tup (vN t.scope)))/\lookK (objK t.obj) (objV t.obj) 132=some (.v (.str t.word)):=by cases t<;>exact iaa ⟨rfl,rfl⟩ rfl rfl
noncomputable def TD.kb(t:TD)(p:Nat->Int):Bool:=match t with
 |.adv r=>decide (r.map p).Nodup
 |.adb r=>decide (r.map p).Nodup
 |.cnt r v n=>decide (((r.map p).count (v:Int):Int)=p n)
 |.nv r n=>decide (((kinds (r.map p)).length:Int)=p n)
 |.cd r rs=>rs.all (rowOk (r.map p))
theorem cnt_map(r:List Nat)(v:Nat)(p:Nat->Int):(r.map p).count (v:Int)=r.countP λx=>decide (p x=v):=by
 unfold fF;rw[gc];exact cK λx _=>by show(p x==(v:Int))=true↔decide (p x=v)=true;rw[beq_iff_eq,decide_eq_true_eq]
theorem TD.kb_iff(t:TD)(p:Nat->Int):t.kb p=true↔t.K p:=by
 cases t with
 |cnt r v n=>show decide (((r.map p).count (v:Int):Int)=p n)=true↔KCnt r v n p;rw[decide_eq_true_eq,cnt_map];exact Iff.rfl
 |cd r rs=>exact Iff.rfl
 |_=>exact decide_eq_true_iff
section
variable{c:Cx}
theorem c_td_prop(H:KF c)(t:TD)(ok:t.Ok):FSW c 8 (.ref t.fP) (PropF t.obj t.K):=by
 obtain⟨ln,x5,rg⟩:=ok;cases t with
 |adv r=>exact((c_adv_prop H).of λws Q q=>iea r ⟨ln.1,ln.2,x5⟩ q).lift (by decide)
 |adb r=>exact((c_adb_prop H).of λws Q q=>iea r ⟨ln.1,ln.2,x5⟩ q).lift (by decide)
 |cnt r v n=>exact((c_cnt_prop H).of λws Q q=>ieeea r v n (iaaa ln.2 x5 rg.1 rg.2) q).lift (by decide)
 |nv r n=>exact(c_nv_prop H).of λws Q q=>ieea r n ⟨ln,x5,rg⟩ q
 |cd r rs=>exact(c_cd_prop H).of λws Q q=>ieea r rs (iaaa ln x5 rg.1 rg.2) q
theorem c_td_told(H:KF c)(t:TD):FS1 c 1 t.fT [t.obj] (λQ=>Q (.v t.tup) [t.obj]):=by
 cases t with
 |adv r=>exact c_adv_told H r _
 |adb r=>exact c_adb_told H r _
 |cnt r v n=>exact c_cnt_told H r v n
 |nv r n=>exact c_nv_told H r n
 |cd r rs=>exact c_cd_told H r _ _ _ _ _ _ _
theorem c_td_check(H:KF c)(t:TD)(ok:t.Ok)(p:Nat->Int):FS1 c 1 t.fC [t.obj,.v (iT (t.scope.map p))] (λQ=>Q (.v (.bool (t.kb p))) [t.obj,.v (iT (t.scope.map p))]):=by
 obtain⟨ln,x5,rg⟩:=ok;have app:∀{f:Nat} {o:MW} {r:List Nat} {n:Nat} {b:V},FS1 c 1 f [o,.v (.tup ((r.map p++[p n]).map .int))] (λQ=>Q (.v b) [o,.v (.tup ((r.map p++[p n]).map .int))])->FS1 c 1 f [o,.v (iT ((r++[n]).map p))] (λQ=>Q (.v b) [o,.v (iT ((r++[n]).map p))]):=λh=>by rw[ah];exact h
 cases t with
 |adv r=>exact c_adv_check H r _ (r.map p) (by rw[a7];exact ln.2)
 |adb r=>exact c_adb_check H r _ (r.map p) (by rw[a7];exact ln.1) (by rw[a7];exact ln.2)
 |cnt r v n=>exact app (c_cnt_check H r v n (r.map p) (p n) (by rw[a7];exact ln.2))
 |nv r n=>exact app (c_nv_check H r n (r.map p) (p n) (by rw[a7];exact ln.2))
 |cd r rs=>exact c_cd_check H r rs _ _ _ _ (r.map p) (by rw[a7];exact ln.2) rg.1.2
noncomputable def fdO(xs:List Int)(spot:Nat):MW:=.list [.lst (xs.map .int),.int spot]
noncomputable def fdV(xs:List Int)(spot:Nat):List V:=[.lst (xs.map .int),.int spot]
theorem fmod_nat(a:Int){m:Nat}(h:1<=m):∃d:Nat,d<m/\a.fmod (m:Int)=(d:Int):=by
 have h0:(0:Int)<(m:Int):=bv.mpr ‹_›;have h1:=Int.fmod_nonneg_of_pos a h0;have h2:=Int.fmod_lt_of_pos a h0;exact iea ((a.fmod m).toNat) ((cC h1).mpr h2) ((bJ h1).symm)
theorem c_dip(H:KF c):∀(xs:List Int) (spot many:Nat),(xs.length<=100)->(spot<=1000)->(1<=many/\many<=5)->FS1 c 1 727 [fdO xs spot,.v (.int many)] (λQ=>∀d:Nat,d<many->Q (.v (.int d)) [fdO xs (spot+1),.v (.int many)]):=
 λxs spot many hl hs hz2=>.ofChk1 H (H.f 74 727 (stAt top 36) [39,81] rfl) [39,128,128,39,128,0,0,39,39,128,81,128,128,128,0,0,39,81] (w:=by
  intro Q q;obtain⟨m1,m2⟩:=hz2;unfold fdO at *;walk_at"g"
  ·rename_i lt;have hn:spot<xs.length:=by rw[a7]at lt;exact bv.mp ‹_›
   have f1:itemAt (xs.map V.int) (spot:Int)=some (.int xs[spot]):=itemAt_nat (by rw[a7];exact a6 ‹_› (a5 rfl)) (by rw[ae,a8 hn];rfl);walk_at"g";refine pr_ (by lia) ?_;walk_at"g";obtain⟨d,h,e⟩:=fmod_nat (xs[spot]) m1;rw[e];exact q d h
  ·walk_at"g";refine pr_ (by decide) ?_;walk_at"g";refine pr_ (by lia) ?_;walk_at"g";obtain⟨d,h,e⟩:=fmod_nat ((7*(spot:Int)*spot+3*spot+((xs.map V.int).length:Int)).fmod 103) m1;rw[e];exact q d h)
end
theorem accS{α β:Type}(g:β->V)(L:α->FrL)(I:List β->List V->α->Prop){γ:Ct}{tg:Tgt}{G:FAcc}{fr:FrL}{Q:List V->FrL->Prop}{vs acc0:List V}
 (step:∀u us acc a (Q':List V->FrL->Prop),I (u::us) acc a->(∀acc' a' fr2,I us acc' a'->fr2.take fr.length=L a'->Q' acc' fr2)->bindW tg (g u) (L a) λfr1=>G acc γ fr1 Q')
 (fin:∀acc a,I [] acc a->Q acc (L a)) (us:List β) (a:α) (h:I us acc0 a) (e:vs=us.map g:=by rfl) (ef:fr=L a:=by rfl):Acc γ tg G vs acc0 fr Q:=by
 subst e;refine⟨?_⟩;have key:∀(us:List β) (acc:List V) (a:α),I us acc a->accW tg G fr.length (us.map g) acc γ (L a) Q:=by
  intro us
  induction us with
  |nil=>exact λacc a h=>fin acc a h
  |cons u us ih=>
   intro acc a h;refine step u us acc a _ h λacc' a' fr2 h' e2=>?_;show accW tg G fr.length (us.map g) acc' γ (fr2.take fr.length) Q;rw[e2];exact ih acc' a' h'
 have:=key us acc0 a h
 rwa[←ef]at this
theorem accR_{α δ:Type}(n:Nat)(f:δ->V)(P:δ->Prop)(L:α->FrL)(I:Nat->α->Prop){γ:Ct}{tg:Tgt}{G:FAcc}{fr:FrL}{Q:List V->FrL->Prop}{vs:List V}
 (step:∀i,i<n->∀(ds:List δ) a (Q':List V->FrL->Prop),ds.length=i->I i a->(∀d a' fr2,P d->I (i+1) a'->fr2.take fr.length=L a'->Q' (ds.map f++[f d]) fr2)->bindW tg (.int i) (L a) λfr1=>G (ds.map f) γ fr1 Q')
 (fin:∀(ds:List δ) a,ds.length=n->(∀d∈ds,P d)->I n a->Q (ds.map f) (L a)) (a:α) (h:I 0 a) (e:vs=(ao n).map λx:Nat=>V.int x) (ef:fr=L a:=by rfl):Acc γ tg G vs [] fr Q:=by
 have key:∀m i (ds:List δ) a,i+m=n->ds.length=i->(∀d∈ds,P d)->I i a->accW tg G fr.length ((dY i m).map λx:Nat=>V.int x) (ds.map f) γ (L a) Q:=by
  intro m
  induction m with
  |zero=>intro i ds a e el hp h;rw[Nat.add_zero]at e;exact fin ds a (e▸el) hp (e▸h)
  |succ m ih=>
   intro i ds a e el hp h;refine step i (e▸eJ (ck m)) ds a _ el h λd a' fr2 pd h' e2=>?_;show accW tg G fr.length ((dY (i+1) m).map λx:Nat=>V.int x) _ γ (fr2.take fr.length) Q;rw[e2,show ds.map f++[f d]=(ds++[d]).map f by rw[ah];rfl];exact ih (i+1) (ds++[d]) a' (by rw[aH];exact e) (by rw[aa,el];rfl) (λd' hd=>(aO.mp hd).elim (hp d') λz=>af.mp z▸pd) h'
 rw[e,eX];exact⟨by have:=key n 0 [] a (bB n) rfl (λd hd=>nomatch hd) h;rwa[←ef]at this⟩
theorem iT_snoc(p:List Int)(v:Int):iT (p++[v])=.tup (p.map V.int++[.int v]):=by unfold iT;rw[ah];rfl
noncomputable def stepP(f:List (List Int))(u:List Int):List (List Int):=f.flatMap λp=>u.map λv=>p++[v]
noncomputable def pointsM(ls:List (List Int)):List (List Int):=ls.foldl stepP [[]]
theorem stepP_len(f:List (List Int))(u:List Int):(stepP f u).length=f.length*u.length:=by
 induction f with
 |nil=>exact(Nat.zero_mul _).symm
 |cons p f ih=>
  show((u.map λv=>p++[v])++stepP f u).length=_;rw[aa,a7,ih,am,Nat.succ_mul,cB]
section
variable{c:Cx}
theorem c_beside(H:KF c):∀(xs:List Int) (spot:Nat) (x v:V),(xs.length<=100)->(spot<=1000)->FS1 c 2 749 [fdO xs spot,.v x,.v v] (λQ=>∀d:Nat,d<4->Q (.v (.int d)) [fdO xs (spot+1),.v x,.v v]):=
 λxs spot x v hl hs=>.ofChk1 H (H.f 78 749 (stAt top 40) [39,151,141] rfl) [28,27,39] (w:=by
  intro Q q;unfold fdO at *;walk_at"g";refine call1_ (c_dip H xs spot 4 hl hs (by decide)) (λd hd=>?_);walk_at"g";exact q d hd)
theorem c_goal(H:KF c):∀(xs:List Int) (spot:Nat),(xs.length<=100)->(spot<=900)->FS1 c 2 742 [fdO xs spot] (λQ=>∀go:Nat->Nat,(∀x,go x<4)->Q (.v (.lst ((ao 5).map λx=>.int (go x)))) [fdO xs (spot+5)]):=
 λxs spot hl hs=>.ofChk1 H (H.f 77 742 (stAt top 39) [39] rfl) [5,0,1,39,151,28,27,39] (w:=by
  intro Q q;walk_at"g";refine accS (λx:Nat=>V.int x) (λa:Nat=>[(39,fdO xs a)]) (λus acc a=>∃gs:List Nat,acc=gs.map (λn:Nat=>V.int n)/\gs.length+us.length=5/\(∀n∈gs,n<4)/\a+us.length=spot+5) (λu us acc a Q' hi hn=>?_) (λacc a hi=>?_) (ao 5) spot (ieaaa ([]) rfl rfl ((λ_ z=>nomatch z)) rfl) (e:=range_int 5)
  ·obtain⟨gs,rfl,i1,i2,i3⟩:=hi;rw[am]at i1 i3;have gl:gs.length<=4096:=leT (Nat.le.intro i1) rfl;walk_at"g";refine call1_ (c_dip H xs a 4 hl (leC (Nat.le.intro i3) (ai hs 5) rfl) (by decide)) (λd hd=>?_);walk_at"g";exact hn _ (a+1) _ (ieaaa (gs++[d]) (by rw[ah];rfl) (by rw[aa,bn];exact(aH _ 1 _).trans i1) (λn hm=>by
    rcases aO.mp hm with hm|hm
    ·exact i2 n hm
    ·cases af.mp hm;exact hd) ((aH _ 1 _).trans i3)) rfl
  ·obtain⟨gs,rfl,i1,i2,i3⟩:=hi;have q:=q (λx=>gs.getD x 0) λx=>by
    rw[a9];by_cases h:x<gs.length
    ·rw[a8 h];exact i2 _ (aP h)
    ·rw[bA (aW.mp h)];decide
   have e:((ao 5).map λx=>V.int (gs.getD x 0:Nat))=gs.map λn:Nat=>V.int n:=by
    refine cz (by simp at i1⊢;exact i1.symm) λk h1 h2=>?_;rw[a7]at h2;rw[ci,ci,dK,a9,a8 h2];rfl
   rw[e]at q;refine(show a=spot+5 from i3)▸?_;walk_at"g";exact q)
theorem c_lists(H:KF c):∀(s:Sto),(s.Ok)->FS1 c 2 754 [s.w] (λQ=>Q (.v (.lst ((ao 5).map λx=>iL (valsM (at_ s.D x))))) [s.w]):=
 λs ok=>.ofChk1 H (H.f 79 754 (stAt top 41) [131] rfl) [5,0,1,131,151,29,5,131,151,0,78,57,5,0,78,57,141,141] (w:=by
  intro Q q;walk_at"g";refine acc1 (ao 5) (λx:Nat=>V.int x) (λx=>iL (valsM (at_ s.D x))) (range_int 5) (λx hx acc Q' ha hq=>?_) (by decide) ?_
  ·have x5:=aC.mp hx;obtain⟨⟨g1,g0⟩,g2,-⟩:=t_dm _ (ok.atD x5).2;walk_at"g";refine call1_ (c_dom H s x ok x5) ?_;unfold wD;walk_at"g";have vl:(valsM (at_ s.D x)).length<=4:=ak _ _;refine accS vI (λ_:Unit=>_) (λds acc2 _=>acc2++(valuesD ds).map V.int=(valsM (at_ s.D x)).map V.int/\Sm ds) (λp ds acc2 a Q2 hi hn=>?_) (λacc2 a hi=>?_) (dm (at_ s.D x)) () ⟨by rw[g2];rfl,g1⟩
   ·obtain⟨i1,i2⟩:=hi;have hp:=i2 p (.head _);have n1:p.1.natAbs<=1000000:=leT hp.1 rfl;have n2:(p.2+1).natAbs<=1000000:=leT (nabA hp.2 nab1) rfl;have hv:valuesD (p::ds)=rangeI p.1 (p.2+1)++valuesD ds:=rfl;walk_at"g";refine accS V.int (λ_:Unit=>_) (λus acc3 _=>acc3++(us++valuesD ds).map V.int=(valsM (at_ s.D x)).map V.int) (λv us acc3 a Q3 hi3 hn3=>?_) (λacc3 a hi3=>?_) (rangeI p.1 (p.2+1)) () (by rw[←hv];exact i1)
    ·have:=congrArg cy hi3;rw[aa,a7,a7]at this;have al:acc3.length<=4096:=leT (a6 (Nat.le.intro this) vl) rfl;walk_at"g";exact hn3 _ () _ (by rw[←hi3,bg];rfl) rfl
    ·exact hn acc3 () _ ⟨hi3,λp hp=>i2 p (.tail _ hp)⟩ rfl
   ·have e:acc2=(valsM (at_ s.D x)).map V.int:=by rw[←hi.1];exact(aM _).symm
    refine e▸?_;walk_at"g";exact hq _ rfl
  walk_at"g";exact q)
theorem c_points(H:KF c):∀(ls:List (List Int)),(1<=ls.length/\ls.length<=5)->(∀l∈ls,l.length<=4)->FS1 c 1 759 [.v (.lst (ls.map iL))] (λQ=>Q (.v (.lst ((pointsM ls).map iT))) [.v (.lst (ls.map iL))]):=
 λls hz0 h2=>.ofChk1 H (H.f 80 759 (stAt top 42) [75] rfl) [46,75,126,46,1,126,109,126,141,109,141,46,46] (w:=by
  intro Q q;obtain⟨h0,h1⟩:=hz0;walk_at"g";refine loop_ iL (λst:MW×List (List Int)=>[(75,_),(46,st.1)]) (λus st=>(us.foldl stepP st.2=pointsM ls/\(∀l∈us,l.length<=4)/\st.2.length*4^us.length<=1024/\∀p∈st.2,p.length+us.length<=5)/\((st.1=.list (st.2.map iT)/\us=ls)∨st.1=.v (.lst (st.2.map iT)))) (λu us st Q2 hi hn2 hr2=>?_) (λst hi=>?_) ls (.list [.tup []],[[]]) ⟨⟨rfl,h2,by
   rw[bn,Nat.one_mul];exact f9 (by decide) h1,λp hp=>by cases af.mp hp;rw[bo,bB];exact h1⟩,.inl ⟨rfl,rfl⟩⟩
  ·obtain⟨W,f⟩:=st;obtain⟨⟨i1,i2,i3,i5⟩,i4⟩:=hi;dsimp only at i1 i3 i4;have ul:=i2 u (.head _);have sl:=stepP_len f u;have s4:(stepP f u).length<=f.length*4:=by rw[sl];exact aU _ ul
   rw[am,Nat.pow_succ,Nat.mul_comm (4^us.length),←Nat.mul_assoc]at i3;have s5:(stepP f u).length*4^us.length<=1024:=a6 (fh _ s4) i3;have s6:(stepP f u).length<=1024:=a6 (Nat.le_mul_of_pos_right _ (Nat.pow_pos (by decide))) s5;have i4:W=.list (f.map iT)∨W=.v (.lst (f.map iT)):=i4.imp (·.1) id;rcases i4 with rfl|rfl
   all_goals
    walk_at"g";refine accS iT (λ_:Unit=>_) (λps acc _=>acc++(stepP ps u).map iT=(stepP f u).map iT/\∀p∈ps,p.length<=5) (λp ps acc a Q3 hi3 hn3=>?_) (λacc a hi3=>?_) f () ⟨rfl,λp hp=>a6 (an _ _) (i5 p hp)⟩
    ·have pl:=hi3.2 p (.head _);walk_at"g";refine accS V.int (λ_:Unit=>_) (λvs acc _=>acc++((vs.map λv=>p++[v])++stepP ps u).map iT=(stepP f u).map iT) (λv vs acc a Q4 hi4 hn4=>?_) (λacc a hi4=>?_) u () hi3.1
     ·have:=congrArg cy hi4;rw[aa,a7,a7]at this;have al:acc.length<=4096:=leT (a6 (Nat.le.intro this) s6) rfl;walk_at"g";refine hn4 (acc++[.tup (p.map V.int++[.int v])]) () _ ?_ ?_
      ·rw[←hi4,bg];show _=acc++(iT (p++[v])::_);rw[iT_snoc];rfl
      ·rfl
     ·exact hn3 acc () _ ⟨hi4,λp hp=>hi3.2 p (.tail _ hp)⟩ rfl
    ·have e:acc=(stepP f u).map iT:=by rw[←hi3.1];exact(aM _).symm
     refine e▸?_;walk_at"g";exact hn2 (_,stepP f u) _ ⟨⟨i1,λl hl=>i2 l (.tail _ hl),s5,λq hq=>by
      obtain⟨p,hp,hq⟩:=cg.mp hq;obtain⟨v,_,rfl⟩:=au.mp hq;have:=i5 p hp;rw[am]at this;rw[aa,bn];exact a6 (aJ (aH _ 1 _)) this⟩,.inr rfl⟩ rfl
  ·obtain⟨W,f⟩:=st;obtain⟨⟨i1,-⟩,i4⟩:=hi;dsimp only at i1 i4;rw[show f=pointsM ls from i1]at i4;rcases i4 with⟨-,e⟩|rfl
   ·rw[←e]at h0;exact absurd h0 (by decide)
   ·walk_at"g";exact q)
end
noncomputable def cmp3(r:Int×Int×Int)(k:Nat):Int:=match k with|0=>r.1|1=>r.2.1|_=>r.2.2
noncomputable def dupM(ns:List Int):List Nat:=(ao ns.length).filter λk=>(ns.take k).contains (ns.getD k 0)
theorem dup_nil{ns:List Int}:dupM ns=[]↔ns.Nodup:=by
 delta dupM dL;rw[cI,c9];constructor
 ·intro h i j hi hj hij e;refine h j (aC.mpr hj) (ax.mpr ?_);simp only[getD_lt hj,←e];exact ee.mpr ⟨i,fJ.mpr ⟨‹_›,‹_›⟩,rfl⟩
 ·intro h k hk z;have hk:=aC.mp hk;rw[getD_lt hk]at z;obtain⟨i,hi,e⟩:=ee.mp (ax.mp z);exact h i k ((fJ.mp ‹_›).2) hk ((fJ.mp ‹_›).1) e
theorem fil_cnt(ns:List Int)(v:Int):(ns.filter λu=>decide (u=v)).length=ns.count v:=by
 unfold fF;simp only[aV];exact congrArg cy (cJ λu _=>by rw[dC,decide_eq_true_eq,beq_iff_eq])
theorem lt5:∀k<5,k=0∨k=1∨k=2∨k=3∨k=4:=by decide
theorem rowR_of:∀d1<4,∀d2<3,∀d3<4,RowR (((d1:Nat):Int),((d2:Nat):Int)-1,((d3:Nat):Int)-1):=by unfold RowR;decide
theorem cut_k{k n:Nat}(h:k<=n):cut (k:Int) n=k:=by unfold cut;rw[if_neg (bD.mpr (aX k))];exact gr h
section
variable{c:Cx}
theorem c_told(H:KF c):∀(xs:List Int) (spot:Nat),(xs.length<=100)->(spot<=900)->FS1 c 2 732 [fdO xs spot] (λQ=>∀(t:TD) (spot':Nat),t.Ok->spot'<=spot+20->Q (.v (.tup [t.tup,.tup (vN t.scope),.str t.word])) [fdO xs spot']):=
 λxs spot hl hs=>.ofChk1 H (H.f 75 732 (stAt top 37) [39] rfl) [28,27,39,28,27,39,68,81,6,0,5,0,81,1,39,71,28,27,39,116,68,68,149,116,149,116,149,68,28,27,39,28,27,39,150,91,116,150,91,116,91,68,28,27,39,91,116,91,116,91,5,0,28,27,39,1,39,71,28,27,39,28,27,39,28,27,39,117,116,6,0,5,0,1,117,66,6,0,117,1,66,99,99,66,116] (w:=by
  intro Q q;walk_at"g";have S1:∀k,k<=100->spot+k<=1000:=λk h=>bL hs h;refine call1_ (c_dip H xs spot 5 hl (S1 0 (aZ _)) (by decide)) (λkind hk=>?_);walk_at"g";refine call1_ (c_dip H xs (spot+1) 3 hl (S1 1 (a5 rfl)) (by decide)) (λmany hm=>?_);have n9:((1:Int)+many).natAbs<=1000000:=leT (nabA nab1 (nabN (bf hm))) rfl;walk_at"g";refine accR_ (many+1) (λx:Nat=>V.int x) (·<5) (λa:Nat=>[(39,fdO xs a)]) (λi a=>a<=spot+(2+i)) (λi hi ds a Q' el ha hn=>?_) (λrow a el i2 ha=>?_) (spot+2) (aI _) (by rw[dB];exact range_int (many+1))
  ·have i2:i<=2:=bE (bH hi hm);have dl:ds.length<=100:=el▸a6 i2 (a5 rfl);walk_at"g";refine call1_ (c_dip H xs a 5 hl (a6 ha (S1 _ (a6 (ay i2 2) (a5 rfl)))) (by decide)) (λd hd=>?_);walk_at"g";exact hn d (a+1) _ hd (bj ha) rfl
  ·have ln:1<=row.length/\row.length<=3:=el▸⟨bj (aZ _),hm⟩;have ha:a<=spot+5:=a6 ha (ay (ay hm 2) spot);clear el;have A1:∀k,k<=95->a+k<=1000:=λk h=>a6 (ai ha k) (by rw[bh];exact S1 _ (ay h 5));have A2:∀k,k<=15->a+k<=spot+20:=λk h=>a6 (ai ha k) (by rw[bh];exact ay (ay h 5) spot);have vl:(vN row).length<=3:=szMap ln.2;have sn:∀n:Nat,vN (row++[n])=vN row++[.int n]:=λn=>by unfold vN;rw[ah];rfl
   rcases lt5 kind hk with rfl|rfl|rfl|rfl|rfl
   ·walk_at"g";exact q (.adv row) a ⟨ln,i2,trivial⟩ (A2 0 (aZ _))
   ·walk_at"g";exact q (.adb row) a ⟨ln,i2,trivial⟩ (A2 0 (aZ _))
   ·walk_at"g";refine call1_ (c_dip H xs a 4 hl (A1 0 (aZ _)) (by decide)) (λv hv=>?_);walk_at"g";refine call1_ (c_dip H xs (a+1) 5 hl (A1 1 (a5 rfl)) (by decide)) (λn hn=>?_);walk_at"g";have q:=q (.cnt row v n) (a+2) ⟨ln,i2,hv,hn⟩ (A2 2 (a5 rfl));rw[show TD.scope (.cnt row v n)=row++[n]from rfl,sn]at q;exact q
   ·walk_at"g";refine call1_ (c_dip H xs a 5 hl (A1 0 (aZ _)) (by decide)) (λn hn=>?_);walk_at"g";have q:=q (.nv row n) (a+1) ⟨ln,i2,hn⟩ (A2 1 (a5 rfl));rw[show TD.scope (.nv row n)=row++[n]from rfl,sn]at q;exact q
   ·walk_at"g";refine call1_ (c_dip H xs a 2 hl (A1 0 (aZ _)) (by decide)) (λm hm=>?_);have m9:((1:Int)+m).natAbs<=1000000:=leT (nabA nab1 (nabN (bf hm))) rfl;walk_at"g";refine accR_ (m+1) t3V RowR (λa:Nat=>[(39,fdO xs a)]) (λi a2=>a2<=a+(1+3*i)) (λi hi ds a2 Q' el h2 hn=>?_) (λrs a2 el j2 h2=>?_) (a+1) (aI _) (by rw[dB];exact range_int (m+1))
    ·have i1:i<=1:=bE (bH hi hm);have dl:ds.length<=100:=el▸a6 i1 (a5 rfl);have B:∀k,k<=20->a2+k<=1000:=λk h=>a6 (ai h2 k) (by rw[bh];exact A1 _ (a6 (bL (ay (aU 3 i1) 1) h) (a5 rfl)));walk_at"g";refine call1_ (c_dip H xs a2 4 hl (B 0 (aZ _)) (by decide)) (λd1 h1=>?_);walk_at"g";refine call1_ (c_dip H xs (a2+1) 3 hl (B 1 (a5 rfl)) (by decide)) (λd2 h3=>?_);walk_at"g";refine call1_ (c_dip H xs (a2+2) 4 hl (B 2 (a5 rfl)) (by decide)) (λd3 h4=>?_);walk_at"g";exact hn ((d1:Int),(d2:Int)-1,(d3:Int)-1) (a2+3) _ (rowR_of d1 h1 d2 h3 d3 h4) (ai h2 3) rfl
    ·have rl:1<=rs.length/\rs.length<=2:=el▸⟨bj (aZ _),hm⟩;have h2:a2<=spot+20:=a6 h2 (A2 _ (a6 (ay (aU 3 hm) 1) (a5 rfl)));walk_at"g";refine acc1 (ao 3) (λk:Nat=>V.int k) (λk=>.tup (rs.map λr=>.int (cmp3 r k))) (range_int 3) (λk hk acc Q' ha hq=>?_) (by decide) ?_
     ·have k3:=lt3 (aC.mp hk) (aI 3);walk_at"g";refine acc1 rs t3V (λr=>.int (cmp3 r k)) rfl (λr hr acc2 Q2 ha2 hq2=>?_) (a6 rl.2 (a5 rfl)) ?_
      ·have f1:itemAt [V.int r.1,V.int r.2.1,V.int r.2.2] (k:Int)=some (.int (cmp3 r k)):=by rcases k3 with rfl|rfl|rfl<;>rfl
       walk_at"g";exact hq2 _ rfl
      walk_at"g";exact hq _ rfl
     walk_at"g";have q:=q (.cd row rs) a2 ⟨ln,i2,rl,j2⟩ h2;rw[show TD.tup (.cd row rs)=.tup [.str (Str.ofString "cardinality"),.tup (vN row),.tup (rs.map λr=>.int (cmp3 r 0)),.tup (rs.map λr=>.int (cmp3 r 1)),.tup (rs.map λr=>.int (cmp3 r 2))] by unfold TD.tup iT;dsimp only;rw[av,av,av];rfl]at q;exact q)
theorem c_keeps(H:KF c):∀(t:TD) (p:Nat->Int),(t.Ok)->FS1 c 1 737 [.v t.tup,.v (iT ((ao 5).map p))] (λQ=>Q (.v (.bool (t.kb p))) [.v t.tup,.v (iT ((ao 5).map p))]):=
 λt p ok=>.ofBody1 H.gd (H.f 76 737 (stAt top 38) [137,109] rfl) (SS.cons (SS1.asg (SE.of (SV.comp (⟨rfl,rfl,by decide,by decide,by decide,by decide⟩:CompS _ _ [109]) (SV.item (SO.of (SE.name n_told)) (SO.ofV SV.int) (λ_ _=>rfl)) (show TgtOk _ (.Name _ _) (.one 151)from⟨n_x,(.inl rfl)⟩) (SL.last rfl rfl (show TgtOk _ (.Name _ _) (.one 151)from⟨n_x,(.inl rfl)⟩) .nil (SV.item (SO.of (SE.name n_point)) (SO.of (SE.name n_x)) (λ_ _=>rfl))) (λ_ _=>rfl) (by decide))) n_some (.inr rfl) (λe h=>by cases e;cases h;rfl)) (SS.cons (SS1.if_ (SB.cmp (SO.ofV (SV.item (SO.of (SE.name n_told)) (SO.ofV SV.int) (λ_ _=>rfl))) (SO.ofV SV.str) rfl) (SS.cons (SS1.ret (SE.of (SV.cmp (SO.ofV (SV.comp (⟨rfl,rfl,by decide,by decide,by decide,by decide⟩:CompS _ _ [126]) (SV.of (SE.bi biRange (CV.builtin (v:=.type "range") (H.b 5 "range" rfl) rfl (by decide) rfl rfl) (λenv pos A s Q _ h=>CallW.t (λ_=>rfl) (λ_ _=>rfl) env pos A s Q h) (SOs.cons (λ_=>rfl) (SO.of (SE.bi biLen (CV.builtin (v:=.builtin "len") (H.b 0 "len" rfl) rfl (by decide) rfl rfl) (λenv pos A s Q X h=>CallW.b (λ_=>rfl) (λ_ _=>rfl) env pos A s [] Q X h) (SOs.cons (λ_=>rfl) (SO.of (SE.name n_some)) SOs.nil) (λ_=>rfl))) SOs.nil) (λ_=>rfl))) (show TgtOk _ (.Name _ _) (.one 66)from⟨n_k,(.inl rfl)⟩) (SL.last rfl rfl (show TgtOk _ (.Name _ _) (.one 66)from⟨n_k,(.inl rfl)⟩) (.cons (SB.cmp (SO.ofV (SV.item (SO.of (SE.name n_some)) (SO.of (SE.name n_k)) (λ_ _=>rfl))) (SO.of (SE.slice (SO.of (SE.name n_some)) (SV.of (SE.name n_k)))) rfl) .nil) SV.int) (λ_ _=>rfl) (by decide))) (SO.of (SE.list SVs.nil (by decide))) rfl))) SS.nil) SS.nil) (SS.cons (SS1.if_ (SB.cmp (SO.ofV (SV.item (SO.of (SE.name n_told)) (SO.ofV SV.int) (λ_ _=>rfl))) (SO.ofV SV.str) rfl) (SS.cons (SS1.ret (SE.of (SV.cmp (SO.of (SE.bi biLen (CV.builtin (v:=.builtin "len") (H.b 0 "len" rfl) rfl (by decide) rfl rfl) (λenv pos A s Q X h=>CallW.b (λ_=>rfl) (λ_ _=>rfl) env pos A s [] Q X h) (SOs.cons (λ_=>rfl) (SO.ofV (SV.comp (⟨rfl,rfl,by decide,by decide,by decide,by decide⟩:CompS _ _ [137]) (SV.of (SE.name n_some)) (show TgtOk _ (.Name _ _) (.one 141)from⟨n_v,(.inl rfl)⟩) (SL.last rfl rfl (show TgtOk _ (.Name _ _) (.one 141)from⟨n_v,(.inl rfl)⟩) (.cons (SB.cmp (SO.of (SE.name n_v)) (SO.ofV (SV.item (SO.of (SE.name n_told)) (SO.ofV SV.int) (λ_ _=>rfl))) rfl) .nil) (SV.of (SE.name n_v))) (λ_ _=>rfl) (by decide))) SOs.nil) (λ_=>rfl))) (SO.ofV (SV.item (SO.of (SE.name n_point)) (SO.ofV (SV.item (SO.of (SE.name n_told)) (SO.ofV SV.int) (λ_ _=>rfl))) (λ_ _=>rfl))) rfl))) SS.nil) SS.nil) (SS.cons (SS1.if_ (SB.cmp (SO.ofV (SV.item (SO.of (SE.name n_told)) (SO.ofV SV.int) (λ_ _=>rfl))) (SO.ofV SV.str) rfl) (SS.cons (SS1.ret (SE.of (SV.cmp (SO.ofV (SV.lenN (CV.builtin (v:=.builtin "len") (H.b 0 "len" rfl) rfl (by decide) rfl rfl) (SN.set (CV.builtin (v:=.type "set") (H.b 8 "set" rfl) rfl (by decide) rfl rfl) (SO.of (SE.name n_some)) (λ_=>rfl) (λ_ _=>rfl) (λ_=>rfl)) (λ_=>rfl) (λ_ _=>rfl) (λ_=>rfl))) (SO.ofV (SV.item (SO.of (SE.name n_point)) (SO.ofV (SV.item (SO.of (SE.name n_told)) (SO.ofV SV.int) (λ_ _=>rfl))) (λ_ _=>rfl))) rfl))) SS.nil) SS.nil) (SS.cons (SS1.forZip (CV.builtin (v:=.type "zip") (H.b 9 "zip" rfl) rfl (by decide) rfl rfl) (SVs.cons (λ_=>rfl) (SV.item (SO.of (SE.name n_told)) (SO.ofV SV.int) (λ_ _=>rfl)) (SVs.cons (λ_=>rfl) (SV.item (SO.of (SE.name n_told)) (SO.ofV SV.int) (λ_ _=>rfl)) (SVs.cons (λ_=>rfl) (SV.item (SO.of (SE.name n_told)) (SO.ofV SV.int) (λ_ _=>rfl)) SVs.nil))) (λ_=>rfl) (λ_ _=>rfl) (λ_=>rfl) (show TgtOk _ (.Tuple _ _ _) (.tup [150,78,57])from⟨(.cons n_worth (.cons n_low (.cons n_high .nil))),⟨(.inr rfl),(.inl rfl),(.inl rfl),trivial⟩⟩) (SS.cons (SS1.if_ (SB.not (SB.cmp2 (SO.of (SE.name n_low)) (SO.of (SE.bi biLen (CV.builtin (v:=.builtin "len") (H.b 0 "len" rfl) rfl (by decide) rfl rfl) (λenv pos A s Q X h=>CallW.b (λ_=>rfl) (λ_ _=>rfl) env pos A s [] Q X h) (SOs.cons (λ_=>rfl) (SO.ofV (SV.comp (⟨rfl,rfl,by decide,by decide,by decide,by decide⟩:CompS _ _ [150]) (SV.of (SE.name n_some)) (show TgtOk _ (.Name _ _) (.one 141)from⟨n_v,(.inl rfl)⟩) (SL.last rfl rfl (show TgtOk _ (.Name _ _) (.one 141)from⟨n_v,(.inl rfl)⟩) (.cons (SB.cmp (SO.of (SE.name n_v)) (SO.of (SE.name n_worth)) rfl) .nil) (SV.of (SE.name n_v))) (λ_ _=>rfl) (by decide))) SOs.nil) (λ_=>rfl))) (SO.of (SE.name n_high)) rfl)) (SS.cons (SS1.ret (SE.of SV.bool)) SS.nil) SS.nil) SS.nil) (λ_ _=>rfl)) (SS.cons (SS1.ret (SE.of SV.bool)) SS.nil)))))) (by
  intro Q q;obtain⟨ln,x5,rg⟩:=ok;have pt:∀x:Nat,x<5->itemAt (((ao 5).map p).map V.int) (x:Int)=some (.int (p x)):=λx hx=>itemAt_nat (by rw[a7,a7];decide) (by rw[ae,ae,bI hx];rfl);have cs:(∃r w,t.tup=.tup [.str (Str.ofString "all_different"),.tup (vN r),.str w]/\t.row=r/\t.kb p=decide (r.map p).Nodup)∨(∃r v n,t=.cnt r v n)∨(∃r n,t=.nv r n)∨∃r rs,t=.cd r rs:=by
   cases t with
   |adv r=>exact .inl ⟨r,_,rfl,rfl,rfl⟩
   |adb r=>exact .inl ⟨r,_,rfl,rfl,rfl⟩
   |cnt r v n=>exact .inr (.inl ⟨r,v,n,rfl⟩)
   |nv r n=>exact .inr (.inr (.inl ⟨r,n,rfl⟩))
   |cd r rs=>exact .inr (.inr (.inr ⟨r,rs,rfl⟩))
  rcases cs with⟨r,w,e1,e2,e3⟩|⟨r,v,n,rfl⟩|⟨r,n,rfl⟩|⟨r,rs,rfl⟩
  ·rw[e2]at ln x5;rw[e1]at q⊢;rw[e3]at q;walk_at"g";refine acc1 r (λx:Nat=>V.int x) (λx=>.int (p x)) rfl (λx hxm acc Q' ha hq=>?_) (a6 ln.2 (a5 rfl)) ?_
   ·have f1:=pt x (x5 x hxm);walk_at"g";exact hq _ rfl
   rw[show(r.map λx=>V.int (p x))=(r.map p).map V.int by rw[av];rfl];have nl:(r.map p).length<=3:=by rw[a7];exact ln.2
   generalize r.map p=ns at *;walk_at"g";refine eqS_y ?_;walk_at"g";refine accF (ao ns.length) (λk:Nat=>V.int k) (λk=>(ns.take k).contains (ns.getD k 0)) (λ_=>.int 1) (by rw[a7];exact range_int _) (λk hk acc Q' ha hq hr=>?_) (by rw[be];exact a6 nl (a5 rfl)) ?_
   ·have hk:=aC.mp hk;have f1:itemAt (ns.map V.int) (k:Int)=some (.int (ns.getD k 0)):=itemAt_nat (szMap (a6 nl (a5 rfl))) (by rw[ae,a9,a8 hk];rfl);have f2:(ns.map V.int).take (cut (k:Int) (ns.map V.int).length)=(ns.take k).map V.int:=by
     rw[List.map_take,cut_k (by rw[a7];exact bf hk)]
    walk_at"g";rw[f2];refine inI_ (br_ (λe=>?_) (λe=>?_))
    ·walk_at"g";exact hq e _ rfl
    ·walk_at"g";exact hr e _ rfl
   rw[show((ao ns.length).filter λk=>(ns.take k).contains (ns.getD k 0))=dupM ns from rfl,show(dupM ns).map (λ_=>V.int 1)=((dupM ns).map λ_=>(1:Int)).map V.int by rw[av];rfl];have dl:(dupM ns).length<=3:=a6 (ak _ _) (by rw[be];exact nl);walk_at"g";refine eqNil_ ?_;rw[show decide (((dupM ns).map λ_=>(1:Int))=[])=decide ns.Nodup by rw[dC,decide_eq_true_eq,decide_eq_true_eq,fk];exact dup_nil];walk_at"g";exact q
  ·have ln:1<=r.length/\r.length<=3:=ln;have x5:∀x∈r,x<5:=x5;have rg:v<4/\n<5:=rg;have f2:=pt n rg.2;unfold TD.kb at q;dsimp only at q;walk_at"g";refine acc1 r (λx:Nat=>V.int x) (λx=>.int (p x)) rfl (λx hxm acc Q' ha hq=>?_) (a6 ln.2 (a5 rfl)) ?_
   ·have f1:=pt x (x5 x hxm);walk_at"g";exact hq _ rfl
   rw[show(r.map λx=>V.int (p x))=(r.map p).map V.int by rw[av];rfl];have nl:(r.map p).length<=3:=by rw[a7];exact ln.2
   generalize r.map p=ns at *;walk_at"g";refine eqS_n ?_;walk_at"g";refine eqS_y ?_;walk_at"g";refine accF ns V.int (λu=>decide (u=(v:Int))) V.int rfl (λu hu acc Q' ha hq hr=>?_) (a6 nl (a5 rfl)) ?_
   ·walk_at"g"
    ·rename_i e;exact hq (decide_eq_true e) _ rfl
    ·rename_i e;exact hr (decide_eq_false e) _ rfl
   have fl:=fil_cnt ns v;have cl:ns.count (v:Int)<=ns.length:=List.count_le_length;walk_at"g";rw[a7,fl];walk_at"g";exact q
  ·have ln:1<=r.length/\r.length<=3:=ln;have x5:∀x∈r,x<5:=x5;have rg:n<5:=rg;have f2:=pt n rg;unfold TD.kb at q;dsimp only at q;walk_at"g";refine acc1 r (λx:Nat=>V.int x) (λx=>.int (p x)) rfl (λx hxm acc Q' ha hq=>?_) (a6 ln.2 (a5 rfl)) ?_
   ·have f1:=pt x (x5 x hxm);walk_at"g";exact hq _ rfl
   rw[show(r.map λx=>V.int (p x))=(r.map p).map V.int by rw[av];rfl];have nl:(r.map p).length<=3:=by rw[a7];exact ln.2
   generalize r.map p=ns at *;walk_at"g";refine eqS_n ?_;walk_at"g";refine eqS_n ?_;walk_at"g";refine eqS_y ?_;walk_at"g";exact q
  ·have ln:1<=r.length/\r.length<=3:=ln;have x5:∀x∈r,x<5:=x5;have rg:(1<=rs.length/\rs.length<=2)/\∀r∈rs,RowR r:=rg;unfold TD.kb at q;dsimp only at q;walk_at"g";refine acc1 r (λx:Nat=>V.int x) (λx=>.int (p x)) rfl (λx hxm acc Q' ha hq=>?_) (a6 ln.2 (a5 rfl)) ?_
   ·have f1:=pt x (x5 x hxm);walk_at"g";exact hq _ rfl
   rw[show(r.map λx=>V.int (p x))=(r.map p).map V.int by rw[av];rfl];have nl:(r.map p).length<=3:=by rw[a7];exact ln.2
   generalize r.map p=ns at *;walk_at"g";refine eqS_n ?_;walk_at"g";refine eqS_n ?_;walk_at"g";refine eqS_n ?_;walk_at"g";refine pr_ ⟨by simp,by simp⟩ ?_;refine loop_ t3V (λ_:Unit=>[(137,_),(109,_),(126,_)]) (λus _=>us.all (rowOk ns)=rs.all (rowOk ns)) (λu us st Q2 hi hn2 hr2=>?_) (λst hi=>?_) rs () rfl (e:=zip3_t3 rs)
   ·obtain⟨v,lo,hi0⟩:=u;rw[bM]at hi;rw[show rowOk ns (v,lo,hi0)=(decide (lo<=(ns.count v:Int))&&decide ((ns.count v:Int)<=hi0))from rfl]at hi;have fl:=fil_cnt ns v;walk_at"g";refine accF ns V.int (λu=>decide (u=v)) V.int rfl (λu hu acc Q' ha hq hr=>?_) (a6 nl (a5 rfl)) ?_
    ·walk_at"g"
     ·rename_i e;exact hq (decide_eq_true e) _ rfl
     ·rename_i e;exact hr (decide_eq_false e) _ rfl
    have lb:(ns.filter λu=>decide (u=v)).length<=3:=a6 (ak _ _) nl;rw[←fl]at hi;generalize (ns.filter λu=>decide (u=v))=L at *;have Ll:(L.map V.int).length=L.length:=a7 _;rw[←Ll]at hi;walk_at"g"
    ·rename_i e1 e2;rw[(bO _).mp (show(!decide (((L.map V.int).length:Int)<=hi0))=true from e2),d8,d7]at hi;apply hr2;rw[←hi]at q;exact q
    ·rename_i e1 e2;rw[decide_eq_true (show lo<=((L.map V.int).length:Int)from e1),(Bool.not_eq_false' _).mp (show(!decide (((L.map V.int).length:Int)<=hi0))=false from e2),cu,dH]at hi;exact hn2 () _ hi rfl
    ·rename_i e1;rw[decide_eq_false (show¬lo<=((L.map V.int).length:Int)from e1),d7,d7]at hi;apply hr2;rw[←hi]at q;exact q
   ·walk_at"g";rw[←hi]at q;exact q)
end
noncomputable def lsD(D:List Nat):List (List Int):=(ao 5).map λx=>valsM (at_ D x)
noncomputable def atP(q:List Int)(x:Nat):Int:=q.getD x 0
theorem getD0_lt{α:Type}{l:List α}{d:α}{j:Nat}(h:j<l.length):l.getD j d=l[j]:=by simp only[a9,a8 h];rfl
theorem fold_pts:∀{ls f:List (List Int)} {q:List Int},q∈ls.foldl stepP f↔∃a∈f,∃b,q=a++b/\b.length=ls.length/\∀k<ls.length,b.getD k 0∈ls.getD k []:=by
 intro ls
 induction ls with
 |nil=>
  intro f q;constructor
  ·exact λh=>⟨q,h,[],(aM q).symm,rfl,λk hk=>absurd hk (bR _)⟩
  ·rintro⟨a,ha,b,rfl,hb,-⟩;cases b with
   |nil=>rw[aM];exact ha
   |cons _ _=>injection hb
 |cons l ls ih=>
  intro f q;simp only[cq,ih];constructor
  ·rintro⟨a,ha,b,rfl,hb,h⟩;refine oea (cg.mp ha) λa0 h0 ha=>?_;refine oea (au.mp ha) λv hv z_=>?_;refine z_▸?_;refine⟨a0,h0,v::b,bg _ _ _,congrArg bz hb,λk hk=>?_⟩;cases k with
   |zero=>exact hv
   |succ k=>exact h k (cM hk)
  ·rintro⟨a,ha,b,rfl,hb,h⟩;cases b with
   |nil=>injection hb
   |cons v b=>exact⟨a++[v],cg.mpr ⟨a,ha,au.mpr ⟨v,h 0 (ck _),rfl⟩⟩,b,by rw[bg];rfl,bz.inj hb,λk hk=>h (k+1) (dX hk)⟩
theorem fold_len:∀{ls f:List (List Int)},(∀l∈ls,l.length<=4)->(ls.foldl stepP f).length<=f.length*4^ls.length:=by
 intro ls
 induction ls with
 |nil=>intro f _;exact aJ (Nat.mul_one _).symm
 |cons l ls ih=>
  intro f h;refine a6 (ih λl hl=>h l (.tail _ hl)) ?_;simp only[stepP_len,am,Nat.pow_succ,Nat.mul_comm (4^ls.length),←Nat.mul_assoc];exact fh _ (aU _ (h l (.head _)))
theorem lsD_len{D:List Nat}:∀l∈lsD D,l.length<=4:=λl hl=>by
 refine oea (au.mp hl) λx _ z_=>?_;refine z_▸?_;exact ak _ _
theorem lsD_at{D:List Nat}{k:Nat}(h:k<5):(lsD D).getD k []=valsM (at_ D k):=by
 unfold lsD;simp only[a9,ae,bI h];rfl
theorem pts_len(D:List Nat):(pointsM (lsD D)).length<=1024:=fold_len (f:=[[]]) lsD_len
theorem pts_out{D:List Nat}{q:List Int}(h:q∈pointsM (lsD D)):q=(ao 5).map (atP q)/\InD D (atP q):=by
 obtain⟨a,ha,b,e,hb,hh⟩:=fold_pts.mp h;cases af.mp ha;obtain rfl:=(e);have hb:q.length=5:=hb;refine⟨cz (by simp only[a7,be];exact hb) λk h1 h2=>?_,λx hx=>hasM_iff.mpr ?_⟩
 ·simp only[ci,dK];exact(getD0_lt h1).symm
 ·have:=hh x hx;rw[lsD_at hx]at this;exact this
theorem pts_in{D:List Nat}{p:Nat->Int}(h:InD D p):(ao 5).map p∈pointsM (lsD D):=by
 refine(fold_pts (ls:=lsD D) (f:=[[]])).mpr ⟨[],.head _,(ao 5).map p,rfl,rfl,λk hk=>?_⟩;have hk:k<5:=hk;simp only[lsD_at hk,a9,ae,bI hk];exact hasM_iff.mp (h k hk)
theorem TD.kb_ext{t:TD}(ok:t.Ok){p p':Nat->Int}(h:∀x<5,p x=p' x):t.kb p=t.kb p':=by
 obtain⟨ln,x5,rg⟩:=ok;have e:t.row.map p=t.row.map p':=c8 λx hx=>h x (x5 x hx);cases t with
 |adv r=>show decide (r.map p).Nodup=decide (r.map p').Nodup;rw[show r.map p=r.map p' from e]
 |adb r=>show decide (r.map p).Nodup=decide (r.map p').Nodup;rw[show r.map p=r.map p' from e]
 |cnt r v n=>show decide (((r.map p).count (v:Int):Int)=p n)=decide (((r.map p').count (v:Int):Int)=p' n);simp only[show r.map p=r.map p' from e,h n rg.2]
 |nv r n=>show decide (((kinds (r.map p)).length:Int)=p n)=decide (((kinds (r.map p')).length:Int)=p' n);simp only[show r.map p=r.map p' from e,h n rg]
 |cd r rs=>show rs.all (rowOk (r.map p))=rs.all (rowOk (r.map p'));rw[show r.map p=r.map p' from e]
noncomputable def keptM(t:TD)(D:List Nat):List (List Int):=(pointsM (lsD D)).filter λq=>t.kb (atP q)
theorem kept_in{t:TD}(ok:t.Ok){D:List Nat}{p:Nat->Int}(h:InD D p)(k:t.K p):keptM t D≠[]:=λz=>by
 have:(ao 5).map p∈keptM t D:=aq.mpr ⟨pts_in h,by
  rw[TD.kb_ext ok (p:=atP ((ao 5).map p)) (p':=p) λx hx=>by
   unfold atP;simp only[a9,ae,bI hx];rfl]
  exact(t.kb_iff p).mpr k⟩
 replace this:=(z)▸this;cases this
theorem kept_out{t:TD}{D:List Nat}{q:List Int}(h:q∈keptM t D):q=(ao 5).map (atP q)/\InD D (atP q)/\t.K (atP q):=by
 obtain⟨h1,h2⟩:=aq.mp h;exact⟨(pts_out h1).1,(pts_out h1).2,(t.kb_iff _).mp h2⟩
theorem okIn(n:Nat)(l:List Int):(vDats (l.map V.int)).all (kqdOk (n+1))=true:=by
 induction l with
 |nil=>rfl
 |cons i l ih=>simp only[aD,vDats_c,bM,ih];rfl
theorem okTs(L:List (List Int)):okV (.lst (L.map iT))=true:=by
 show(vDats (L.map iT)).all (kqdOk 7)=true
 induction L with
 |nil=>rfl
 |cons l L ih=>simp only[aD,vDats_c,bM,ih,cu];exact okIn 5 l
theorem okLs(L:List (List Int)):okV (.lst (L.map iL))=true:=by
 show(vDats (L.map iL)).all (kqdOk 7)=true
 induction L with
 |nil=>rfl
 |cons l L ih=>simp only[aD,vDats_c,bM,ih,cu];exact okIn 5 l
theorem eqNilT{L:List (List Int)}{P:Bool->Prop}(h:P (decide (L=[]))):EqV (.lst (L.map iT)) (.lst []) P:=eqv_ _ (okTs L) rfl (by rw[decide_eq_true_eq];cases L<;>simp) h
theorem eqNilL{L:List (List Int)}{P:Bool->Prop}(h:P (decide (L=[]))):EqV (.lst (L.map iL)) (.lst []) P:=eqv_ _ (okLs L) rfl (by rw[decide_eq_true_eq];cases L<;>simp) h
theorem meth_{m f i C:Nat}{ks:List Nat}{vs:List MW}{lm:LMt}{args:Pw (List Ow)}{b2:Bool}{γ:Ct}{fr:FrL}{Q:Rw->FrL->Prop}(e:getF fr i=some (.obj C ks vs))(hm:methA C m=some f)(hn:memN m ks=false)(h:args γ fr λos fr2=>callOs γ f (.loc i::os) fr2 Q):fMeth m lm (fOp (fName i)) args b2 γ fr Q:=by
 delta fMeth fOp fName;rw[e];show(match plW fr (.loc i)with|some w=>_|none=>_);rw[show plW fr (.loc i)=some (.obj C ks vs)from e];show isLoc (.loc i) (sm (methA C m) _);rw[hm];rw[hn];exact h
theorem asgMeth_{j:Nat}{f:FE}{g:FS}{γ:Ct}{fr:FrL}{Q:Fw->FrL->Prop}(h:f γ fr λr fr1=>ownW r fr1 λz fr2=>Nx γ g (setF fr2 j z.mw) Q):fSeq (fAsg j f) g γ fr Q:=h
section
variable{c:Cx}
theorem c_led(H:KF c):∀(t:TD) (s:Sto),(t.Ok)->(s.Ok)->(s.fl=false)->FS1 c 9 764 [.v t.tup,s.w,t.obj] (λQ=>∀b s',Out t.K s b s'->(b=true->Fin_ t.K s')->Q (.v (.bool true)) [.v t.tup,s'.w,t.obj]):=
 λt s tok ok hf=>.ofChk1 H (H.f 81 764 (stAt top 43) [137,131,80] rfl) [33,32,131,13,34,33,13,1,137,109,30,29,137,109,109,67,111,5,80,131,130,130,63,131,130,67,33,32,131,73,67,1,73,109,5,0,2,73,109,151,109,151,73,151,151,109,67,130,73,0,126,0,0,126,126] (w:=by
  intro Q q;have io:=t.isObj;refine oaa t.hasM λz_ m2 z4_=>?_;obtain⟨m1,-⟩:=z_;obtain -:=z4_;have cp:=c_td_prop H t tok;rw[io]at q cp⊢;generalize objK t.obj=ks at *;generalize objV t.obj=vs at *;walk_at"g";refine call1_ (c_lists H s ok) ?_;rw[show((ao 5).map λx=>iL (valsM (at_ s.D x)))=(lsD s.D).map iL by unfold lsD;rw[av];rfl];walk_at"g";refine call1_ (c_points H (lsD s.D) ⟨show 1<=5 by decide,show 5<=5 by decide⟩ lsD_len) ?_;have pl:=pts_len s.D;walk_at"g";refine accF (pointsM (lsD s.D)) iT (λq=>t.kb (atP q)) iT rfl (λu hu acc Q' ha hq hr=>?_) (a6 pl (by decide)) ?_
  ·have hu1:=(pts_out hu).1;walk_at"g";refine call1e_ (c_keeps H t (atP u) tok) (by rw[←hu1]) ?_;walk_at"g"
   ·rename_i e;exact hq e _ rfl
   ·rename_i e;exact hr e _ rfl
  rw[show((pointsM (lsD s.D)).filter λq=>t.kb (atP q))=keptM t s.D from rfl];have kl:(keptM t s.D).length<=1024:=a6 (ak _ _) pl;walk_at"g";refine asgMeth_ (meth_ (i:=80) rfl m1 m2 ?_);refine call_ cp (ieaaa s rfl ok hf (λb s' o' fin=>?_));have ok':=o'.le.ok;have hfl:s'.fl= !b:=o'.fl;have sub:∀q∈keptM t s.D,InD s'.D (atP q):=λq hq=>o'.kept _ (kept_out hq).2.1 (kept_out hq).2.2;have kn:b=false->keptM t s.D=[]:=λeb=>by
   cases e:keptM t s.D with
   |nil=>rfl
   |cons u us=>
    have:=kept_out (t:=t) (D:=s.D) (q:=u) (by rw[e];exact .head _);exact absurd this.2.2 (o'.none eb _ this.2.1)
  have bk:keptM t s.D=[]->b=true->(lsD s'.D).filter (λl=>decide (1<(l.length:Int)))≠[]:=λe eb z=>by
   have one:∀x<5,∃v,valsM (at_ s'.D x)=[v]:=λx hx=>by
    have h1:=cI.mp z (valsM (at_ s'.D x)) (au.mpr ⟨x,aC.mpr hx,rfl⟩);rw[decide_eq_true_eq]at h1;cases ev:valsM (at_ s'.D x)with
    |nil=>exact absurd ev (t_vals _ (ok'.atD hx).2 (ok'.atD hx).1)
    |cons v vs=>cases vs with
     |nil=>exact⟨v,rfl⟩
     |cons _ _=>rw[ev,am,am]at h1;lia
   have ex:∀x:Nat,∃v:Int,x<5->valsM (at_ s'.D x)=[v]:=λx=>by
    by_cases hx:x<5
    ·obtain⟨v,e⟩:=one x hx;exact⟨v,λ_=>e⟩
    ·exact⟨0,λz=>absurd z hx⟩
   obtain⟨p,hp⟩:=Classical.skolem.mp ex;exact kept_in tok (λx hx=>o'.le.sub x hx _ (hasM_iff.mpr (by rw[hp x hx];exact .head _))) (fin eb p hp) e
  have q:=q b s' o' fin;have ptk:∀q∈keptM t s.D,q=(ao 5).map (atP q):=λq hq=>(kept_out hq).1;generalize keptM t s.D=kept at *;clear o' fin;refine nx_ (by walk_at"nf") ?_;apply cut_
  case m=>
   intro tail
   repeat'(first|exact tail|refine nx_ (by walk_at"nf") ?_|refine brT ?_|refine brF ?_|(refine brD ?_ ?_<;>set_option tactic.hygienic true in intro)|(refine br_ ?_ ?_<;>set_option tactic.hygienic true in intro))
   ·rename_i e;rw[hfl]at e;cases b<;>exact ff (by first|exact e|exact e.symm)
   ·rename_i _ e2;refine eqNilT ?_;rw[decide_eq_true (kn (nt_ e2))]
    repeat'(first|exact tail|refine nx_ (by walk_at"nf") ?_|refine brT ?_|refine brF ?_|(refine brD ?_ ?_<;>set_option tactic.hygienic true in intro)|(refine br_ ?_ ?_<;>set_option tactic.hygienic true in intro))
  walk_at"g";refine call1_ (c_lists H s' ok') ?_;rw[show((ao 5).map λx=>iL (valsM (at_ s'.D x)))=(lsD s'.D).map iL by unfold lsD;rw[av];rfl];walk_at"g";refine accF kept iT (λ_=>false) iT rfl (λu hu acc Q' ha hq hr=>?_) (a6 kl (a5 rfl)) ?_
  ·have hs:=sub u hu;have ku:=ptk u hu;have f1:∀x:Nat,x<5->itemAt (u.map V.int) (x:Int)=some (.int (atP u x)):=λx hx=>by
    have l5:u.length=5:=congrArg cy ku;exact itemAt_nat (by rw[a7,l5];decide) (by rw[ae,a8 (by rw[l5];exact hx)];unfold atP;rw[getD0_lt (by rw[l5];exact hx)];rfl)
   walk_at"g";refine accF (ao 5) (λx:Nat=>V.int x) (λ_=>false) (λx:Nat=>V.int x) (range_int 5) (λx hx acc2 Q2 ha2 hq2 hr2=>?_) (by decide) ?_
   ·have x5:=aC.mp hx;have f2:=f1 x x5;have f3:itemAt ((lsD s'.D).map iL) (x:Int)=some (iL (valsM (at_ s'.D x))):=itemAt_nat (by rw[a7];exact a5 rfl) (by unfold lsD;rw[ae,ae,bI x5];rfl);walk_at"g";refine inI_ ?_;rw[ax.mpr (hasM_iff.mp (hs x x5))];walk_at"g";exact hr2 rfl _ rfl
   walk_at"g";refine eqNil_ (ns:=[]) ?_;walk_at"g";exact hr rfl _ rfl
  rw[(cI (l:=kept) (p:=λ_=>false)).mpr λ_ _=>cE];walk_at"g";refine eqNilT (L:=[]) ?_;walk_at"g";refine eqNilT ?_;walk_at"g"
  ·exact q
  ·exact q
  rename_i e1 e2;refine accF (lsD s'.D) iL (λl=>decide (1<(l.length:Int))) iL rfl (λl hl acc Q' ha hq hr=>?_) (a5 rfl) ?_
  ·have l4:=lsD_len l hl;have lm:(l.map V.int).length=l.length:=a7 _;walk_at"g"
   ·rename_i e;exact hq (decide_eq_true (by rw[←lm];exact e)) _ rfl
   ·rename_i e;exact hr (decide_eq_false (by rw[←lm];exact e)) _ rfl
  walk_at"g";refine eqNilL ?_;rw[decide_eq_false (bk (of_decide_eq_true (nf_ e1)) (nf_ e2))];walk_at"g";exact q)
end
theorem t_mask2:∀a<4,∀b<4,(1<=mask2 a b/\mask2 a b<16)/\(∀v<4,hasM (mask2 a b) (v:Nat)=true->v=a∨v=b)/\hasM (mask2 a b) (a:Nat)=true:=by unfold hasM;decide+kernel
def Two(D:List Nat)(go:Nat->Int):Prop:=∀x<5,∃b:Int,∀v,hasM (at_ D x) v=true->v=go x∨v=b
theorem two_has{D:List Nat}{go:Nat->Int}(h:Two D go){x:Nat}(hx:x<5)(l:1<(valsM (at_ D x)).length):hasM (at_ D x) (go x)=true:=by
 refine oe (h x hx) λb hb=>?_;have nd:(valsM (at_ D x)).Nodup:=dh.filter _ (by decide);refine Classical.byContradiction λz=>?_;have al:∀v∈valsM (at_ D x),v=b:=λv hv=>(hb v (hasM_iff.mpr hv)).resolve_left λe=>z (e▸hasM_iff.mpr hv);cases e:valsM (at_ D x)with
 |nil=>rw[e]at l;exact absurd l (by decide)
 |cons v vs=>cases vs with
  |nil=>rw[e]at l;exact absurd l (bQ 1)
  |cons w vs=>
   rw[e]at nd al;have:=(aE.mp nd).1;rw[al v (.head _),al w (.tail _ (.head _))]at this;exact this (.head _)
theorem eqIs_{as bs:List Int}{P:Bool->Prop}(h:P (decide (as=bs))):EqV (.lst (as.map .int)) (.lst (bs.map .int)) P:=
 eqv_ _ okL okL (by
  rw[decide_eq_true_eq];refine⟨λe=>by rw[e],λe=>?_⟩;have:=V.lst.inj e;exact(fE λ_ _=>V.int.inj).mp this) h
structure Lap(K:(Nat->Int)->Prop)(go:Nat->Int)(F:List Nat)(begun n:Nat)(s:Sto):Prop where
 ok:s.Ok
 F:s.F=F
 mks:s.mks=[.int 0]
 two:Two s.D go
 no:s.fl=true->¬K go
 ind:K go->InD s.D go
 fin:s.fl=false->Fin_ K s
 one:s.fl=false->∀l<n,(valsM (at_ s.D ((begun+2*l) % 5))).length<=1
theorem sub_one{m m':Nat}(h:∀v,hasM m' v=true->hasM m v=true)(l:(valsM m).length<=1):(valsM m').length<=1:=by
 have nd:(valsM m').Nodup:=dh.filter _ (by decide);exact a6 (len_sub nd λv hv=>hasM_iff.mp (h v (hasM_iff.mpr hv))) l
theorem lap_led{K:(Nat->Int)->Prop}{go:Nat->Int}{F:List Nat}{begun n:Nat}{s s':Sto}{b:Bool}(h0:s.F=F)(h1:s.mks=[.int 0])(h2:Two s.D go)(h3:K go->InD s.D go)(h4:∀l<n,(valsM (at_ s.D ((begun+2*l) % 5))).length<=1)(o:Out K s b s')(f:b=true->Fin_ K s'):Lap K go F begun n s':=by
 refine⟨o.le.ok,o.le.F.trans h0,o.le.mks.trans h1,λx hx=>?_,λe k=>?_,λk=>o.kept _ (h3 k) k,λe=>f ?_,λ_ l hl=>sub_one (o.le.sub _ (fH _ (by decide))) (h4 l hl)⟩
 ·obtain⟨c,hc⟩:=h2 x hx;exact⟨c,λv hv=>hc v (o.le.sub x hx v hv)⟩
 ·clear f;rw[o.fl]at e;exact o.none (by cases b<;>first|rfl|exact ff e) _ (h3 k) k
 ·replace e:=(o.fl)▸e;cases b<;>first|rfl|injection e
theorem wt_le:∀D:List Nat,wt D<=4*D.length:=by
 intro D;unfold wt
 induction D with
 |nil=>exact aI _
 |cons m D ih=>
  have:(valsM m).length<=4:=ak _ _;simp only[aD,eE,am];lia
theorem ok_new{D:List Nat}{mks:List V}{spk:Int}{fl:Bool}{cl:V}(h:D.length=5)(r:∀m∈D,1<=m/\m<16):Sto.Ok ⟨D,D,[],mks,[],spk,fl,cl⟩:=
 ⟨h,h,r,r,by have:=wt_le D;show 0+wt D<=20;lia,by have:=wt_le D;show 0+wt D<=20;lia,(λe he=>nomatch he),rfl⟩
theorem laps_all(begun:Nat)(hb:begun<5):∀x<5,∃l<5,(begun+2*l) % 5=x:=by
 have:∀b<5,∀x<5,∃l<5,(b+2*l) % 5=x:=by decide
 exact this begun hb
theorem lap_end{t:TD}{go:Nat->Int}{F:List Nat}{begun:Nat}{s:Sto}(hb:begun<5)(L:Lap t.K go F begun 5 s)(hf:s.fl=false)(e:∀x<5,lowM (at_ s.D x)=go x):t.K go:=by
 refine L.fin hf go λx hx=>?_;refine oea (laps_all begun hb x hx) λl hl z_=>?_;subst z_;have h1:=L.one hf l hl;have h2:=e _ hx;unfold lowM at h2;cases ev:valsM (at_ s.D ((begun+2*l) % 5))with
 |nil=>exact absurd ev (t_vals _ (L.ok.atD hx).2 (L.ok.atD hx).1)
 |cons v vs=>cases vs with
  |nil=>rw[ev]at h2;rw[show v=_ from h2]
  |cons _ _=>simp only[ev,am,am]at h1;lia
theorem fmod5(b u:Nat):((b:Int)+2*(u:Int)).fmod 5=(((b+2*u) % 5:Nat):Int):=by rw[Int.fmod_eq_emod_of_nonneg _ (by decide)];rfl
theorem Lap.next{K:(Nat->Int)->Prop}{go:Nat->Int}{F:List Nat}{begun u:Nat}{s:Sto}(L:Lap K go F begun u s)(h:s.fl=false->(valsM (at_ s.D ((begun+2*u) % 5))).length<=1):Lap K go F begun (u+1) s:=⟨L.ok,L.F,L.mks,L.two,L.no,L.ind,L.fin,λe l hl=>by
 rcases cG (bE hl)with z|z
 ·exact L.one e l z
 ·refine(z).symm▸?_;exact h e⟩
theorem Lap.dec{K:(Nat->Int)->Prop}{go:Nat->Int}{F:List Nat}{begun u x:Nat}{s s2 s3:Sto}{b:Bool}(L:Lap K go F begun u s)(hf:s.fl=false)(x5:x<5)(hX:(begun+2*u) % 5=x)(hh:hasM (at_ s.D x) (go x)=true)(kg:k8 (go x))(le:Le s s2)(hat:∀y,at_ s2.D y=if y=x then at_ s.D x&&&lm .eq (go x)else at_ s.D y)(o:Out K s2 b s3)(f:b=true->Fin_ K s3):Lap K go F begun (u+1) s3:=by
 refine lap_led (le.F.trans L.F) (le.mks.trans L.mks) (λy hy=>?_) (λk y hy=>?_) (λl hl=>?_) o f
 ·obtain⟨d,hd⟩:=L.two y hy;exact⟨d,λv hv=>hd v (le.sub y hy v hv)⟩
 ·rw[hat];split
  ·subst y;exact(satM (L.ok.atD x5).2 kg).mpr ⟨hh,decide_eq_true rfl⟩
  ·exact L.ind k y hy
 ·rcases cG (bE hl)with z|z
  ·exact sub_one (le.sub _ (fH _ (by decide))) (L.one hf l z)
  ·rw[z,hX,hat,if_pos rfl];have nd:(valsM (at_ s.D x&&&lm .eq (go x))).Nodup:=dh.filter _ (by decide);exact len_sub (m:=[go x]) nd λv hv=>by
    have:=((satM (L.ok.atD x5).2 kg).mp (hasM_iff.mpr hv)).2;refine(of_decide_eq_true (this))▸?_;exact .head _
theorem Lap.not{K:(Nat->Int)->Prop}{go:Nat->Int}{F:List Nat}{begun u x:Nat}{s:Sto}(L:Lap K go F begun u s)(x5:x<5)(hh:hasM (at_ s.D x) (go x)=true)(kg:k8 (go x))(z:at_ s.D x&&&lm .eq (go x)=0):False:=by
 have:=(satM (g:=.eq) (k:=go x) (v:=go x) (L.ok.atD x5).2 kg).mpr ⟨hh,decide_eq_true rfl⟩;rw[z]at this;exact absurd (hasM_iff.mp this) (by rw[show valsM 0=[] by decide];exact aN)
theorem lap_kb{t:TD}{go:Nat->Nat}{D:List Nat}{begun:Nat}{s:Sto}(hb:begun<5)(L:Lap t.K (λx=>(go x:Int)) D begun 5 s)(hf:s.fl=false)(e:(lsD s.D).map (λl=>l.headD 0)=(ao 5).map (λx=>(go x:Int))):t.kb (λx=>(go x:Int))=true:=
 (t.kb_iff _).mpr (lap_end hb L hf λx hx=>by
   rw[show((lsD s.D).map λl=>l.headD 0)=(ao 5).map λx=>lowM (at_ s.D x) by unfold lsD;rw[av];rfl]at e;have:=congrArg (λl:List Int=>l.getD x 0) e;simp only[a9,ae,bI hx,dS,cN]at this;exact this)
theorem head_at{s:Sto}(ok:s.Ok){l:List Int}(hlm:l∈lsD s.D):itemAt (l.map V.int) 0=some (.int (l.headD 0)):=by
 refine itemAt_nat (n:=0) (szMap (a6 (lsD_len l hlm) (by decide))) ?_;refine oea (au.mp hlm) λx hx z_=>?_;refine z_▸?_;cases e:valsM (at_ s.D x)with
 |nil=>exact absurd e (t_vals _ (ok.atD (aC.mp hx)).2 (ok.atD (aC.mp hx)).1)
 |cons v vs=>rfl
theorem go_put{go:Nat->Nat}{D:List Nat}{i d:Nat}(h:D.length=i)(hd:d<4)(k:∀x<i,∃b<4,D.getD x 0=mask2 (go x) b):∀x<i+1,∃b<4,(D++[mask2 (go i) d]).getD x 0=mask2 (go x) b:=λx hx=>by
 rw[a9];rcases cG (bE hx)with z|z
 ·rw[aS (h▸z)];refine(a9)▸?_;exact k x z
 ·rw[z,←h,bt (aI _),cZ];exact⟨d,hd,rfl⟩
theorem go_rg{go:Nat->Nat}{D:List Nat}(hg:∀x,go x<4)(h:D.length=5)(k:∀x<5,∃b<4,D.getD x 0=mask2 (go x) b):(∀m∈D,1<=m/\m<16)/\Two D (λx=>(go x:Int))/\InD D (λx=>(go x:Int)):=by
 refine⟨λm hm=>?_,λx hx=>?_,λx hx=>?_⟩
 ·obtain⟨x,hx,rfl⟩:=List.mem_iff_getElem.mp hm;refine oea (k x (h▸hx)) λb hb4 e=>?_;rw[getD0_lt hx]at e;refine(e).symm▸?_;exact(t_mask2 _ (hg x) b hb4).1
 ·refine oea (k x hx) λb hb4 e=>?_;refine⟨b,λv hv=>?_⟩;replace hv:=(show at_ D x=_ from e)▸hv;refine oea (hasM_rg hv) λn hn z_=>?_;subst z_;rcases(t_mask2 _ (hg x) b hb4).2.1 n hn hv with rfl|rfl
  ·exact .inl rfl
  ·exact .inr rfl
 ·refine oea (k x hx) λb hb4 e=>?_;show hasM (at_ D x) _=true;rw[show at_ D x=_ from e];exact(t_mask2 _ (hg x) b hb4).2.2
section
variable{c:Cx}
theorem c_brought(H:KF c):∀(t:TD) (xs:List Int) (spot:Nat),(t.Ok)->(xs.length<=100)->(spot<=800)->FS1 c 10 769 [fdO xs spot,.v t.tup,t.obj] (λQ=>∀spot',spot'<=spot+20->Q (.v (.bool true)) [fdO xs spot',.v t.tup,t.obj]):=
 λt xs spot tok hl hs=>.ofChk1 H (H.f 82 769 (stAt top 44) [39,137,80] rfl) [31,30,39,17,16,28,27,39,49,131,14,5,0,151,94,5,131,1,2,49,151,32,31,39,151,49,151,33,32,131,42,112,5,131,35,34,137,131,80,5,0,71,14,71,151,63,131,148,5,131,151,28,5,131,151,49,151,35,34,137,131,80,63,131,33,32,131,0,126,126,49,30,29,137,6,0,49,63,131,30,29,137,6,0,49,110,1,131,33,32,131,42,63,131] (w:=by
  intro Q q;have io:=t.isObj;rw[io]at q⊢;generalize objK t.obj=ks at *;generalize objV t.obj=vs at *;walk_at"g";refine call1_ (c_goal H xs spot hl (a6 hs (a5 rfl))) (λgo hg=>?_);walk_at"g";refine call1_ (c_Store H) ?_;walk_at"g";refine call1_ (c_dip H xs (spot+5) 5 hl (a6 (ai hs 5) (a5 rfl)) (by decide)) (λbegun hb=>?_);walk_at"g";have gf:∀x:Nat,x<5->itemAt ((ao 5).map λx=>V.int (go x)) (x:Int)=some (.int (go x)):=λx hx=>itemAt_nat (by rw[a7];exact a5 rfl) (by simp only[ae,bI hx];rfl);refine loopR2_ 5 (λ(D:List Nat) (a:Nat)=>[(39,fdO xs a),(137,_),(80,_),(14,_),(131,Sto.w ⟨D,D,[],[],[],-1,false,.tup []⟩),(49,_)])
   (λi D a G=>D.length=i->a=spot+6+i->(∀x<i,∃b<4,D.getD x 0=mask2 (go x) b)->G) (λi hi D a Q2 i2 i3 i4 hn2 hr2=>?_) (λD a i2 i3 i4=>?_) [] (spot+5+1) (λR k=>k rfl rfl λx hx=>absurd hx (bR _)) (range_int 5)
  ·have f1:=gf i hi;have ha:a<=900:=i3▸a6 (bL (ai hs 6) (bf hi)) (a5 rfl);have hD:D.length<10:=i2▸eP hi (a5 rfl);walk_at"g";refine call1_ (c_beside H xs a (.int i) (.int (go i)) hl (a6 ha (a5 rfl))) (λd hd=>?_);walk_at"g";refine call1_ (c_from_values H (go i) d (hg _) hd) ?_;have tm:=(t_mask2 _ (hg i) _ hd).1;walk_at"g";refine call1_ (c_new_var H ⟨D,D,[],[],[],-1,false,.tup []⟩ (mask2 (go i) d) (bf hD) (bf hD) tm.1 tm.2) ?_;walk_at"g";exact hn2 (D++[mask2 (go i) d]) (a+1) _ (λR k=>k (by simp only[aa,i2];rfl) (congrArg (·+1) i3) (go_put i2 hd i4)) rfl
  have q:=q a (i3▸a6 (aJ (bh spot 6 5)) (ay (by decide) spot));clear i3;obtain⟨rgD,two,ind⟩:=go_rg hg i2 i4;have okD:∀mks,Sto.Ok ⟨D,D,[],mks,[],-1,false,.tup []⟩:=λmks=>ok_new i2 rgD;walk_at"g";refine call1_ (c_lists H _ (okD [])) ?_;rw[show((ao 5).map λx=>iL (valsM (at_ D x)))=(lsD D).map iL by unfold lsD;rw[av];rfl];walk_at"g";refine call1_ (c_push H ⟨D,D,[],[],[],-1,false,.tup []⟩ (aZ _) (aZ _)) ?_;walk_at"g";refine call1e_ (c_led H t ⟨D,D,[],[.int 0],[],-1,false,.tup []⟩ tok (okD _) rfl) (by rw[io];rfl) (λb s1 o1 fin1=>?_);have L1:Lap t.K (λx=>(go x:Int)) D begun 0 s1:=lap_led rfl rfl two (λ_=>ind) (λl hl=>absurd hl (bR _)) o1 fin1;clear o1 fin1;rw[io];walk_at"g";refine loopR1_ 5 (λst:Sto=>[(39,_),(137,_),(80,_),(14,_),(131,st.w),(49,_),(42,_)])
   (λi st G=>Lap t.K (λx=>(go x:Int)) D begun i st->G) (λu hu st Q2 L hn2 hr2=>?_) (λst L=>?_) s1 (λR k=>k L1) (range_int 5)
  ·have x5:(begun+2*u) % 5<5:=fH _ (by decide);have f1:=gf _ x5;have nx:=L.next;walk_at"g";refine pr_ (by decide) ?_;rw[fmod5];generalize hX:(begun+2*u) % 5=x at *;walk_at"g"
   ·rename_i e;have hf:st.fl=false:=nt_ e;refine call1_ (c_width H st x L.ok x5) ?_;walk_at"g"
    ·rename_i wd;have hh:=two_has L.two x5 (bq.mp wd);have kg:=k8_nat (hg x);refine call1_ (c_decide H st x .eq (go x) L.ok x5 kg) (ent_of L.ok x5 kg λb s2 le h1 h0=>?_);cases b with
     |false=>exact(L.not x5 hh kg (h0 rfl).2.2).elim
     |true=>
      obtain⟨hfl,hat⟩:=h1 rfl;walk_at"g";refine call1e_ (c_led H t s2 tok le.ok (hfl.trans hf)) (by rw[io]) (λb s3 o3 fin3=>?_);have L3:=L.dec hf x5 hX hh kg le hat o3 fin3;rw[io];walk_at"g";exact hn2 s3 _ (λR k=>k L3) rfl
    ·rename_i wd;exact hn2 st _ (λR k=>k (nx λ_=>aW.mp λz=>wd (bq.mpr z))) rfl
   ·rename_i e;exact hn2 st _ (λR k=>k (nx λz=>by rw[z]at e;exact ff e.symm)) rfl
  ·have gi:((ao 5).map λx=>V.int (go x))=((ao 5).map λx=>(go x:Int)).map V.int:=by rw[av];rfl
   have yes:=lap_kb hb L;have no:st.fl=true->t.kb (λx=>(go x:Int))=false:=λhf=>dO.mpr λe=>L.no hf ((t.kb_iff _).mp e);rw[gi];generalize hG:((ao 5).map λx=>(go x:Int))=gos at *;have gml:(gos.map V.int).length=5:=by rw[a7,←hG];rfl
   have okP:Sto.Ok {st with D:=st.F,tr:=[],mks:=[],nw:=[],fl:=false,cl:=.tup []}:=by
    rw[L.F];exact ok_new i2 rgD
   walk_at"g"
   ·rename_i e;have hf:st.fl=false:=nt_ e;refine call1_ (c_lists H st L.ok) ?_;rw[show((ao 5).map λx=>iL (valsM (at_ st.D x)))=(lsD st.D).map iL by unfold lsD;rw[av];rfl];walk_at"g";refine acc1 (lsD st.D) iL (λl=>.int (l.headD 0)) rfl (λl hlm acc Q' ha hq=>?_) (a5 rfl) ?_
    ·have f1:=head_at L.ok hlm;walk_at"g";exact hq _ rfl
    rw[show((lsD st.D).map λl=>V.int (l.headD 0))=((lsD st.D).map λl=>l.headD 0).map V.int by rw[av];rfl];walk_at"g";refine eqIs_ (br_ (λe1=>?_) (λe1=>?_))
    ·walk_at"g";refine call1e_ (c_keeps H t (λx=>(go x:Int)) tok) (by rw[hG];rfl) ?_;rw[yes hf (of_decide_eq_true e1)];walk_at"g"
     ·rename_i e2;rw[hf]at e2;exact ff e2
     refine call1_ (c_pop H st L.ok L.mks) ?_;walk_at"g";refine call1_ (c_lists H _ okP) ?_;rw[show((ao 5).map λx=>iL (valsM (at_ st.F x)))=(lsD D).map iL by rw[L.F];unfold lsD;rw[av];rfl];walk_at"g";refine eqv_ true (okLs _) (okLs _) ⟨λ_=>rfl,λ_=>rfl⟩ ?_;walk_at"g";exact q
    ·walk_at"g"
     ·rename_i e2;rw[hf]at e2;exact ff e2
     refine call1_ (c_pop H st L.ok L.mks) ?_;walk_at"g";refine call1_ (c_lists H _ okP) ?_;rw[show((ao 5).map λx=>iL (valsM (at_ st.F x)))=(lsD D).map iL by rw[L.F];unfold lsD;rw[av];rfl];walk_at"g";refine eqv_ true (okLs _) (okLs _) ⟨λ_=>rfl,λ_=>rfl⟩ ?_;walk_at"g";exact q
   ·rename_i e2;refine call1e_ (c_keeps H t (λx=>(go x:Int)) tok) (by rw[hG];rfl) ?_;rw[no e2];walk_at"g";refine call1_ (c_pop H st L.ok L.mks) ?_;walk_at"g";refine call1_ (c_lists H _ okP) ?_;rw[show((ao 5).map λx=>iL (valsM (at_ st.F x)))=(lsD D).map iL by rw[L.F];unfold lsD;rw[av];rfl];walk_at"g";refine eqv_ true (okLs _) (okLs _) ⟨λ_=>rfl,λ_=>rfl⟩ ?_;walk_at"g";exact q
   ·rename_i e1 e2;rw[e2]at e1;exact ff e1.symm)
end
theorem seqIf_u{t:FB}{A B R:FS}{γ:Ct}{fr:FrL}{Q:Fw->FrL->Prop}:fSeq (fIfS t A B) R γ fr Q=t γ fr λb fr1=>Br b (A γ fr1 λfl fr1=>match fl with|.nxt=>Nx γ R fr1 Q|.ret r=>Q (.ret r) fr1) (B γ fr1 λfl fr1=>match fl with|.nxt=>Nx γ R fr1 Q|.ret r=>Q (.ret r) fr1):=rfl
theorem or_u{s t:FB}{γ:Ct}{fr:FrL}{Q:Bool->FrL->Prop}:fOr s t γ fr Q=s γ fr λb fr1=>Br b (Q true fr1) (t γ fr1 Q):=rfl
theorem cmp_u{op:CmpOp}{f g:FO}{b2:Bool}{γ:Ct}{fr:FrL}{Q:Bool->FrL->Prop}:fCmp op f g b2 γ fr Q=f γ fr λo1 fr1=>g γ fr1 λo2 fr2=>deep b2 o1 (cmpW op fr2 o1 o2 λb=>Q b fr2):=rfl
theorem op_u{f:FE}{γ:Ct}{fr:FrL}{Q:Ow->FrL->Prop}:fOp f γ fr Q=f γ fr λr fr1=>toOW r fr1 Q:=rfl
theorem attr_{m i C:Nat}{ks:List Nat}{vs:List MW}{x:V}{γ:Ct}{fr:FrL}{Q:Rw->FrL->Prop}(e:getF fr i=some (.obj C ks vs))(ho:okAt C m=true)(hl:lookK ks vs m=some (.v x))(hx:∀v,x≠.cst v)(h:Q (.v x) fr):fAttr m (fName i) γ fr Q:=by
 unfold fAttr fName;rw[e];show objW (getF fr i) _;rw[e];show yes (okAt C m) (sm (lookK ks vs m) _);rw[ho,hl];cases x with
 |cst v=>exact absurd rfl (hx v)
 |_=>exact h
theorem okVN(r:List Nat):okV (.tup (vN r))=true:=by
 rw[show vN r=(r.map bp).map V.int by rw[av];rfl];exact okIn 6 _
theorem okW(t:TD):okV (.str t.word)=true:=by
 have s1:okV (.str (Str.ofString "values"))=true:=by decide+kernel
 cases t with
 |adb r=>show okV (.str (Str.ofString "bounds"))=true;decide+kernel
 |nv r n=>show okV (.str (Str.ofString "weak"))=true;decide+kernel
 |_=>exact s1
theorem sc5{t:TD}(ok:t.Ok):t.scope.length<=4/\∀x∈t.scope,x<5:=by
 obtain⟨ln,x5,rg⟩:=ok;have app:∀(r:List Nat) (n:Nat),r.length<=3->(∀x∈r,x<5)->n<5->(r++[n]).length<=4/\∀x∈r++[n],x<5:=λr n h1 h2 h3=>⟨by rw[aa,bn];exact a6 (bj ‹_›) (a5 rfl),λx hx=>by
  rcases aO.mp hx with hx|hx
  ·exact h2 x hx
  ·cases af.mp hx;exact h3⟩
 cases t with
 |cnt r v n=>exact app r n ln.2 x5 rg.2
 |nv r n=>exact app r n ln.2 x5 rg
 |adv r=>exact⟨a6 ln.2 (by decide),x5⟩
 |adb r=>exact⟨a6 ln.2 (by decide),x5⟩
 |cd r rs=>exact⟨a6 ln.2 (by decide),x5⟩
theorem okTup(t:TD):okV t.tup=true:=by
 have h:∀(n:Nat) (r:List Nat),kqdOk (n+2) (vDat (.tup (vN r)))=true:=λn r=>by
  rw[show vN r=(r.map bp).map V.int by rw[av];rfl];exact okIn n _
 have h2:∀(n:Nat) (r:List Int),kqdOk (n+2) (vDat (iT r))=true:=λn r=>okIn n _;have hi:∀i:Int,kqdOk 7 (vDat (.int i))=true:=λ_=>rfl;have s1:kqdOk 7 (vDat (.str (Str.ofString "all_different")))=true:=by decide+kernel
 have s2:kqdOk 7 (vDat (.str (Str.ofString "values")))=true:=by decide+kernel
 have s3:kqdOk 7 (vDat (.str (Str.ofString "bounds")))=true:=by decide+kernel
 have s4:kqdOk 7 (vDat (.str (Str.ofString "count")))=true:=by decide+kernel
 have s5:kqdOk 7 (vDat (.str (Str.ofString "nvalue")))=true:=by decide+kernel
 have s6:kqdOk 7 (vDat (.str (Str.ofString "cardinality")))=true:=by decide+kernel
 unfold okV;cases t<;>(unfold TD.tup;show List.all _ _=true;simp only[vDats,bM,List.all_nil,h,h2,hi,s1,s2,s3,s4,s5,s6,dH,cu])
theorem law_sp(u:Nat):200*u+(20+5*4)+20<=200*(u+1):=by lia
section
variable{c:Cx}
theorem c_law(H:KF c):∀ns:List Int,(ns.length<=63)->FS1 c 11 774 [.v (.arg (ns.map .int))] (λQ=>Q (.v (.bool true)) [.v (.arg (ns.map .int))]):=
 λns hl=>.ofChk1 H (H.f 83 774 (stAt top 45) [119] rfl) [119,0,19,19,39,5,0,139,29,28,39,137,118,149,27,26,137,80,137,5,80,137,118,80,118,132,80,149,5,0,71,6,0,5,0,1,39,151,28,27,39,109,20,5,80,6,0,118,1,109,151,109,151,30,29,137,109,36,35,39,137,80] (w:=by
  intro Q q;walk_at"g";have sl:((ns.map V.int).take (cut 60 (ns.map V.int).length))=(ns.take (cut 60 ns.length)).map V.int:=by rw[a7,List.map_take]
  rw[sl];generalize hT:ns.take (cut 60 ns.length)=ms;have ml:ms.length<=63:=by rw[←hT,fR];exact a6 (dr _ _) hl
  walk_at"g";refine acc1 ms V.int (λi=>.int (i.fmod 1000003)) rfl (λi him acc Q' ha hq=>?_) (a6 ml (a5 rfl)) ?_
  ·walk_at"g";refine pr_ (by decide) ?_;walk_at"g";exact hq _ rfl
  rw[show(ms.map λi=>V.int (i.fmod 1000003))=(ms.map λi=>i.fmod 1000003).map V.int by rw[av];rfl];have xl:(ms.map λi=>i.fmod 1000003).length<=100:=szMap (a6 ml (a5 rfl));generalize (ms.map λi=>i.fmod 1000003)=xs at *;walk_at"g";refine loopR1_ 2 (λa:Nat=>[(119,_),(39,fdO xs a)]) (λi a G=>a<=200*i->G) (λu hu a Q2 hi hn2 hr2=>?_) (λa hi=>?_) 0 (λR k=>k (aI 0)) (range_int 2)
  ·have a200:a<=200:=a6 hi (aU 200 (bE hu));walk_at"g";refine call1_ (c_told H xs a xl (a6 a200 (a5 rfl))) (λt a1 tok ha1=>?_);obtain⟨⟨-,m1,m3⟩,-,m2,m4⟩:=t.hasM;obtain⟨⟨o1,o2⟩,k1,k2⟩:=t.hasA;have io:=t.isObj;have ct:=c_td_told H t;have cc:=c_td_check H t tok;walk_at"g";refine call1_ (c_rule H t tok) ?_;have okt:=okTup t;obtain⟨l,il⟩:∃l,t.tup=.tup l:=by cases t<;>exact⟨_,rfl⟩
   rw[io]at ct cc⊢;rw[il]at ct okt⊢;generalize objK t.obj=ks at *;generalize objV t.obj=vs at *;walk_at"g";rw[seqIf_u,or_u,cmp_u,op_u];refine meth_ rfl m1 m2 ?_;walk_at"g";refine call1_ ct ?_;walk_at"g";refine eqv_ true okt okt ⟨λ_=>rfl,λ_=>rfl⟩ ?_;walk_at"g";rw[or_u,cmp_u,op_u];refine attr_ rfl o1 k1 (λv z=>nomatch z) ?_;walk_at"g";refine eqv_ true (okVN _) (okVN _) ⟨λ_=>rfl,λ_=>rfl⟩ ?_;walk_at"g";rw[or_u,cmp_u,op_u];refine attr_ rfl o2 k2 (λv z=>nomatch z) ?_;walk_at"g";refine eqv_ true (okW t) (okW t) ⟨λ_=>rfl,λ_=>rfl⟩ ?_;walk_at"g";refine loopR1_ 4 (λa:Nat=>[(119,_),(39,fdO xs a),(139,_),(137,_),(118,_),(149,_),(80,_)]) (λi b G=>b<=a+(20+5*i)->G) (λw hw b Q3 hi3 hn3 hr3=>?_) (λb hi3=>?_) a1 (λR k=>k ha1) (range_int 4)
   ·have b1:b<=900:=a6 hi3 (a6 (bL a200 (ay (aU 5 (bf hw)) 20)) (a5 rfl));walk_at"g";refine accR_ 5 (λn:Nat=>V.int n) (λ_=>True) (λa:Nat=>[(39,fdO xs a)]) (λi d=>d=b+i) (λi hi5 gs d Q' i1 hd hn=>?_) (λgs d i1 _ i3=>?_) b rfl (range_int 5)
    ·have dl:d<=1000:=hd▸a6 (bL b1 (bf hi5)) (a5 rfl);have gl:gs.length<=100:=i1▸a6 (bf hi5) (a5 rfl);walk_at"g";refine call1_ (c_dip H xs d 4 xl dl (by decide)) (λv hv=>?_);walk_at"g";exact hn v (d+1) _ trivial (congrArg (·+1) hd) rfl
    ·have dn:=i3▸ai hi3 5;clear i3;have pe:gs.map (λn:Nat=>V.int n)=((ao 5).map λx=>(gs.getD x 0:Int)).map V.int:=by
      refine cz (by rw[a7,i1];rfl) λk h1 h2=>?_;rw[a7]at h1;rw[ci,ci,ci,dK,a9,a8 h1];rfl
     rw[pe];generalize hp:(λx=>(gs.getD x 0:Int))=p at *;clear hp pe i1;have pt:∀x:Nat,x<5->itemAt (((ao 5).map p).map V.int) (x:Int)=some (.int (p x)):=λx hx=>itemAt_nat (by rw[a7,a7];decide) (by rw[ae,ae,bI hx];rfl);have pl:(((ao 5).map p).map V.int).length=5:=by rw[a7,a7];rfl
     generalize hpv:((ao 5).map p).map V.int=pv at *;have sc:=sc5 tok;walk_at"g";rw[seqIf_u,cmp_u,op_u];refine meth_ rfl m3 m4 ?_;walk_at"g";refine acc1 t.scope (λx:Nat=>V.int x) (λx=>.int (p x)) rfl (λx hxm acc Q' ha hq=>?_) (a6 sc.1 (a5 rfl)) ?_
     ·have f1:=pt x (sc.2 x hxm);walk_at"g";exact hq _ rfl
     rw[show(t.scope.map λx=>V.int (p x))=(t.scope.map p).map V.int by rw[av];rfl];have scl:(t.scope.map p).length<=4:=by rw[a7];exact sc.1
     walk_at"g";refine call1_ (cc p) ?_;walk_at"g";refine call1e_ (c_keeps H t p tok) (by unfold iT;rw[il,hpv]) ?_;walk_at"g"
     ·rename_i e;exact absurd e (by simp)
     ·exact hn3 d _ (λR k=>k dn) rfl
   ·walk_at"g";refine call1e_ (c_brought H t xs b tok xl (a6 hi3 (bL a200 (a5 rfl:20+5*4<=600)))) (by rw[il,io]) (λb2 hb2=>?_);rw[il,io];walk_at"g";exact hn2 b2 _ (λR k=>k (a6 hb2 (a6 (ai hi3 20) (a6 (ai (ai hi _) 20) (law_sp u))))) rfl
  ·walk_at"g";exact q)
end
noncomputable def fncOf:Data->Option FuncData
 |.func fd=>some fd
 |_=>none
theorem fncOf_out{d:Data}{fd:FuncData}(h:fncOf d=some fd):d=.func fd:=by
 cases d with
 |func g=>exact congrArg _ (ab.inj h)
 |_=>exact nos h
noncomputable def fnAt(K:Frag)(a:Addr):Option FuncData:=match K.lookup a with
 |some o=>fncOf o.data
 |none=>none
theorem fnAt_out{K:Frag}{a:Addr}{fd:FuncData}(h:fnAt K a=some fd):∃o,K.lookup a=some o/\o.data=.func fd:=by
 unfold fnAt at h;cases e:K.lookup a with
 |none=>rw[e]at h;exact nos h
 |some o=>rw[e]at h;exact iea o rfl (fncOf_out h)
noncomputable def fnKind:ScopeKind->Bool
 |.function=>true
 |_=>false
noncomputable def isK(k:NameKind)(o:Option NameKind):Bool:=match o with
 |some j=>decide (j=k)
 |none=>false
noncomputable def hpF(K:Frag)(ps:List Nat)(fd:FuncData):Bool:=
 codeIn K fd.code fd.qualname&&!fd.scope.isCoroutine&&!fd.scope.isGenerator&&fnKind fd.scope.kind&&aT fd.globals mainGlobals&&aT fd.builtins builtinsNs&&nodupN ps&&decide ((fd.scope.names.map (·.1)).Nodup)
noncomputable def hpFn(K:Frag)(ps:List Nat)(fd:FuncData):Bool:=hpF K ps fd&&fd.closure.isEmpty&&ps.all λi=>isK .local (fd.scope.names.lookup (nm i))||isK .cell (fd.scope.names.lookup (nm i))
def bindsTo(fd:FuncData)(ps:List Nat)(vals:List Value):Prop:=bindArgs fd ⟨vals,[]⟩=pure ((ps.map nm).zip vals)
noncomputable def hpA(K:Frag)(C k:Nat):Bool:=plainGet K C (nm k)&&hasDictIn K C&&(match findIn K (.ref C) (nm k)with|some attr=>noGet K attr|none=>false)&&(findIn K (.ref C) "__setattr__"==some (some (.builtin "object.__setattr__")))&&plainOver K C&&(takerIn K C (nm k)==some none)
noncomputable def refOf:Value->Option Addr
 |.ref a=>some a
 |_=>none
noncomputable def strOf:Value->Option Str
 |.str s _=>some s
 |_=>none
theorem refOf_out{v:Value}{a:Addr}(h:refOf v=some a):v=.ref a:=by
 cases v with
 |ref b=>rw[ab.inj h]
 |_=>exact nos h
theorem strOf_out{v:Value}{a:Str}(h:strOf v=some a):∃t,v=.str a t:=by
 cases v with
 |str b t=>exact⟨t,by rw[ab.inj h]⟩
 |_=>exact nos h
theorem any_out{α:Type}{o:Option α}{p:α->Bool}(h:o.any p=true){G:Prop}(k:∀x,o=some x->p x=true->G):G:=by
 cases o with
 |none=>exact ff h
 |some x=>exact k x rfl h
noncomputable def fldOf(o:Data):Option (Array Value):=match o with
 |.fields vs=>some vs
 |_=>none
noncomputable def celOf(o:Data):Option Addr:=match o with
 |.cell (some v)=>refOf v
 |_=>none
theorem fldOf_out{d:Data}{vs:Array Value}(h:fldOf d=some vs):d=.fields vs:=by
 cases d with
 |fields ws=>exact congrArg _ (ab.inj h)
 |_=>exact nos h
theorem celOf_out{d:Data}{a:Addr}(h:celOf d=some a):d=.cell (some (.ref a)):=by
 cases d with
 |cell v=>cases v with
  |none=>exact nos h
  |some v=>exact congrArg (λv=>Data.cell (some v)) (refOf_out h)
 |_=>exact nos h
noncomputable def supHd(o:Option Arg):Bool:=o.any λa=>decide (a.arg=nm 122)
noncomputable def supCd(K:Frag)(file:Str)(v:Value):Bool:=(refOf v).any λa=>(K.lookup a).any λo=>(fldOf o.data).any λvs=>(vs[2]?).any λx=>(strOf x).any λf=>file==f
noncomputable def supCl(K:Frag)(C:Nat)(l:List (Str×Addr)):Bool:=l.head?.any λp=>decide (p.1=("__class__":Str))&&(l.tail.isEmpty&&(K.lookup p.2).any λo=>(celOf o.data).any λd=>aT d C)
theorem supHd_out{o:Option Arg}(h:supHd o=true):∃a,o=some a/\a.arg=nm 122:=any_out h λa e h=>iea a e (of_decide_eq_true h)
theorem supCd_out{K:Frag}{file:Str}{v:Value}(h:supCd K file v=true):∃a,v=.ref a/\∃oc vs f tf,K.lookup a=some oc/\oc.data=.fields vs/\vs[2]?=some (.str f tf)/\(file==f)=true:=
 any_out h λa e1 h=>any_out h λo e2 h=>any_out h λvs e3 h=>any_out h λx e4 h=>any_out h λf e5 h=>by
  obtain⟨t,e⟩:=strOf_out e5;exact⟨a,refOf_out e1,o,vs,f,t,e2,fldOf_out e3,e4.trans (congrArg some e),h⟩
theorem supCl_out{K:Frag}{C:Nat}{l:List (Str×Addr)}(h:supCl K C l=true):∃cc,l=[(("__class__":Str),cc)]/\∃oc,K.lookup cc=some oc/\oc.data=.cell (some (.ref C)):=
 any_out h λp e1 h=>by
  obtain⟨h1,h⟩:=(aB _ _).mp h;obtain⟨h2,h⟩:=(aB _ _).mp h;refine any_out h λo e2 h=>any_out h λd e3 h=>⟨p.2,?_,o,e2,az h▸celOf_out e3⟩;cases l with
  |nil=>exact nos e1
  |cons q r=>
   rw[←of_decide_eq_true h1,←ab.inj e1,show r=[]from dU.mp h2]
theorem and14{b1 b2 b3 b4 b5 b6 b7 b8 b9 b10 b11 b12 b13 b14:Bool}(h:(b1&&b2&&b3&&b4&&b5&&b6&&b7&&b8&&b9&&b10&&b11&&b12&&b13&&b14)=true){G:Prop}
 (k:b1=true->b2=true->b3=true->b4=true->b5=true->b6=true->b7=true->b8=true->b9=true->b10=true->b11=true->b12=true->b13=true->b14=true->G):G:=by
 simp only[aB]at h;obtain⟨⟨⟨⟨⟨⟨⟨⟨⟨⟨⟨⟨⟨u1,u2⟩,u3⟩,u4⟩,u5⟩,u6⟩,u7⟩,u8⟩,u9⟩,u10⟩,u11⟩,u12⟩,u13⟩,u14⟩:=h;exact k u1 u2 u3 u4 u5 u6 u7 u8 u9 u10 u11 u12 u13 u14
theorem and6{b1 b2 b3 b4 b5 b6:Bool}(h:(b1&&b2&&b3&&b4&&b5&&b6)=true){G:Prop}(k:b1=true->b2=true->b3=true->b4=true->b5=true->b6=true->G):G:=by
 simp only[aB]at h;obtain⟨⟨⟨⟨⟨u1,u2⟩,u3⟩,u4⟩,u5⟩,u6⟩:=h;exact k u1 u2 u3 u4 u5 u6
theorem and4{b1 b2 b3 b4:Bool}(h:(b1&&b2&&b3&&b4)=true){G:Prop}(k:b1=true->b2=true->b3=true->b4=true->G):G:=by
 simp only[aB]at h;obtain⟨⟨⟨u1,u2⟩,u3⟩,u4⟩:=h;exact k u1 u2 u3 u4
theorem and3{b1 b2 b3:Bool}(h:(b1&&b2&&b3)=true){G:Prop}(k:b1=true->b2=true->b3=true->G):G:=by
 simp only[aB]at h;obtain⟨⟨u1,u2⟩,u3⟩:=h;exact k u1 u2 u3
noncomputable def hpSup(K:Frag)(file:Str)(C:Nat)(fd:FuncData):Bool:=
 supHd (fd.params.posonlyargs++fd.params.args).head?&&
 supCd K file fd.code&&
 supCl K C fd.closure&&
 (clsIn K C).isSome&&(mroIn K C (.ref C)==some true)&&(nsIn K mainGlobals "super"==some none)&&isK .globalImplicit (fd.scope.names.lookup ("super":Str))&&isK .free (fd.scope.names.lookup ("__class__":Str))&&(nsIn K cStatics "thirdparty.any"==some none)&&
 (ks_superIn K C C "__init__"==some (some (.ref 295)))&&(typeIn K (.ref 295)==some (.type "function"))&&fnIn K 295&&isK .local (fd.scope.names.lookup (nm 122))&&fd.scope.names.all (λx=>!decide (x.2=.cell))
structure Facts(file:Str)(K:Frag):Prop where
 b:(tB.all λn=>nsIn K mainGlobals (Str.ofString n)==some none)=true
 g:(tG.all λp=>nsIn K mainGlobals (Str.ofString p.1)==some (some (.ref p.2)))=true
 k:(tK.all λa=>keepIn K (.ref a))=true
 f1:(tF.map λe=>(fnAt K e.1).map λfd=>(fd.body,fd.scope))=tF.map λe=>some (.stmts (bodyOf e.2.1),scopeOf e.2.1)
 f2:(tF.all λe=>match fnAt K e.1 with|some fd=>hpFn K e.2.2 fd|none=>false)=true
 f3:∀vs:List Value,1<=vs.length/\vs.length<=6->(tF.filter λe=>aT e.2.2.length vs.length).map (λe=>(fnAt K e.1).map λfd=>bindArgs fd ⟨vs,[]⟩)=(tF.filter λe=>aT e.2.2.length vs.length).map λe=>some (pure ((e.2.2.map nm).zip vs))
 f4:(tF.all λe=>cA 1 e.2.2.length&&cA e.2.2.length 6)=true
 s1:(tS.map λe=>(fnAt K e.1).map λfd=>(fd.body,fd.scope))=tS.map λe=>some (.stmts (bodyOf e.2.1),scopeOf e.2.1)
 s3:∀vs:List Value,1<=vs.length/\vs.length<=6->(tS.filter λe=>aT e.2.2.1.length vs.length).map (λe=>(fnAt K e.1).map λfd=>bindArgs fd ⟨vs,[]⟩)=(tS.filter λe=>aT e.2.2.1.length vs.length).map λe=>some (pure ((e.2.2.1.map nm).zip vs))
 s4:(tS.all λe=>cA 1 e.2.2.1.length&&cA e.2.2.1.length 6)=true
 s2:(tS.all λe=>match fnAt K e.1 with|some fd=>hpF K e.2.2.1 fd&&(e.2.2.1.all λi=>isK .local (fd.scope.names.lookup (nm i)))&&hpSup K file e.2.2.2 fd|none=>false)=true
 a1:(tA.all λp=>(ao 153).all λk=>!f7 p.2 k||hpA K p.1 k)=true
 a2:(tA.all λp=>dz p.2 (2^153))=true
 m1:(tM.all λp=>p.2.all λq=>plainGet K p.1 (nm q.1)&&(findIn K (.ref p.1) (nm q.1)==some (some (.ref q.2)))&&isFn K (.ref q.2)&&keepIn K (.ref q.2))=true
 c1:(tC.all λp=>makesIn K p.1&&(findIn K (.ref p.1) "__init__"==some (some (.ref p.2)))&&(typeIn K (.ref p.2)==some (.type "function")))=true
theorem vals5{P:List Value->Prop}(h1:∀a,P [a])(h2:∀a b,P [a,b])(h3:∀a b c,P [a,b,c])(h4:∀a b c d,P [a,b,c,d])(h5:∀a b c d e,P [a,b,c,d,e])(h6:∀a b c d e f,P [a,b,c,d,e,f]):∀vs:List Value,1<=vs.length/\vs.length<=6->P vs
 |[],h=>absurd h.1 (by decide)
 |[a],_=>h1 a
 |[a,b],_=>h2 a b
 |[a,b,c],_=>h3 a b c
 |[a,b,c,d],_=>h4 a b c d
 |[a,b,c,d,e],_=>h5 a b c d e
 |[a,b,c,d,e,f],_=>h6 a b c d e f
 |a::b::c::d::e::f::g::r,h=>absurd h.2 (by simp only[am];lia)
theorem at_map{α β:Type}{l:List α}{f g:α->Option β}{i:Nat}{e:α}{x:β}(h:l.map f=l.map g)(hi:l[i]?=some e)(hg:g e=some x):f e=some x:=by
 have:=congrArg (·[i]?) h;simp only[ae,hi,dS]at this;refine(hg)▸?_;exact ab.inj this
theorem all_at{α:Type}{l:List α}{p:α->Bool}{i:Nat}{e:α}(h:l.all p=true)(hi:l[i]?=some e):p e=true:=aA.mp h e (aF hi)
theorem isK_out{k:NameKind}{o:Option NameKind}(h:isK k o=true):o=some k:=by
 cases o with
 |none=>cases h
 |some j=>rw[of_decide_eq_true (h)]
theorem nodupN_out:∀{l:List Nat},nodupN l=true->l.Nodup:=by
 intro l
 induction l with
 |nil=>intro _;exact .nil
 |cons i r ih=>intro h;obtain⟨h1,h2⟩:=nodupN_cons h;exact aE.mpr ⟨h1,ih h2⟩
set_option tactic.hygienic true in
theorem lookN_mem{α:Type}{i:Nat}{x:α}:∀{l:List (Nat×α)},lookN l i=some x->(i,x)∈l:=by
 intro l
 induction l with
 |nil=>intro h;cases h
 |cons p r ih=>
  obtain⟨j,y⟩:=p;intro h;rw[lookN_c]at h;cases e:aT j i with
  |true=>rw[e]at h;cases h;rw[az e];exact .head _
  |false=>rw[e]at h;exact .tail _ (ih h)
set_option tactic.hygienic true in
theorem fnKind_out{k:ScopeKind}(h:fnKind k=true):k=.function:=by cases k<;>first|rfl|cases h
structure HpF(K:Frag)(ps:List Nat)(fd:FuncData):Prop where
 code:codeIn K fd.code fd.qualname=true
 co:fd.scope.isCoroutine=false
 gen:fd.scope.isGenerator=false
 kind:fd.scope.kind=.function
 globals:fd.globals=mainGlobals
 builtins:fd.builtins=builtinsNs
 ps:ps.Nodup
 names:(fd.scope.names.map (·.1)).Nodup
set_option tactic.hygienic true in
theorem hpF_out{K:Frag}{ps:List Nat}{fd:FuncData}(h:hpF K ps fd=true):HpF K ps fd:=by
 unfold hpF at h;simp only[aB,bO,decide_eq_true_eq]at h;obtain⟨⟨⟨⟨⟨⟨⟨h1,h2⟩,h3⟩,h4⟩,h5⟩,h6⟩,h7⟩,h8⟩:=h;exact⟨h1,h2,h3,fnKind_out h4,az h5,az h6,nodupN_out h7,h8⟩
set_option tactic.hygienic true in
theorem bindsAt{α:Type}{l:List α}{K:Frag}{ad:α->Nat}{pp:α->List Nat}(f3:∀vs:List Value,1<=vs.length/\vs.length<=6->(l.filter λe=>aT (pp e).length vs.length).map (λe=>(fnAt K (ad e)).map λfd=>bindArgs fd ⟨vs,[]⟩)=(l.filter λe=>aT (pp e).length vs.length).map λe=>some (pure (((pp e).map nm).zip vs)))
 (f4:(l.all λe=>cA 1 (pp e).length&&cA (pp e).length 6)=true) {e:α} (he:e∈l) {fd:FuncData} (hf:fnAt K (ad e)=some fd) (vals:List Value) (hl:vals.length=(pp e).length):bindArgs fd ⟨vals,[]⟩=pure (((pp e).map nm).zip vals):=by
 have h4:=aA.mp f4 e he;rw[aB]at h4;have h:=List.map_inj_left.mp (f3 vals ⟨by rw[hl];exact a5 h4.1,by rw[hl];exact a5 h4.2⟩) e (aq.mpr ⟨he,by rw[hl];exact Nat.beq_refl _⟩);rw[hf]at h;exact ab.inj h
set_option tactic.hygienic true in
theorem kf_of{c:Cx}(F:Facts c.prog.main.file c.Kf)(ht:(c.prog.main.scope.names.lookup ("super":Str)).isSome=false)(gd:Gd c):KF c where
 gd:=gd
 b:=λi n e=>beq_iff_eq.mp (aA.mp F.b _ (aF e))
 g:=λi n a e=>beq_iff_eq.mp (aA.mp F.g _ (aF e))
 k:=λi a e=>aA.mp F.k a (aF e)
 f:=λi a S ps e=>by
  have h1:=at_map F.f1 e rfl;have h2:=all_at F.f2 e;cases q:fnAt c.Kf a with
  |none=>rw[q]at h1;cases h1
  |some fd=>
   rw[q]at h1 h2;have h1:=ab.inj h1;have h2:hpFn c.Kf ps fd=true:=h2;unfold hpFn at h2;refine and3 h2 λh2 h3 h4=>?_;have O:=hpF_out h2;exact iea fd (congrArg (·.2) h1) ⟨fnAt_out q,O.code,congrArg (·.1) h1,dU.mp h3,O.co,O.gen,O.kind,O.globals,O.builtins,bindsAt (pp:=λe=>e.2.2) F.f3 F.f4 (aF e) q,λi hi=>by
    have:=aA.mp h4 i hi;rw[e7]at this;exact this.imp isK_out isK_out,O.ps,O.names⟩
 s:=λi a S ps C e=>by
  have h1:=at_map F.s1 e rfl;have h2:=all_at F.s2 e;cases q:fnAt c.Kf a with
  |none=>rw[q]at h1;cases h1
  |some fd=>
   rw[q]at h1 h2;have h1:=ab.inj h1;have h2:(hpF c.Kf ps fd&&(ps.all λi=>isK .local (fd.scope.names.lookup (nm i)))&&hpSup c.Kf c.prog.main.file C fd)=true:=h2;refine and3 h2 λh2 h3 h4=>?_;have O:=hpF_out h2;unfold hpSup at h4;refine and14 h4 λu1 u2 u3 u4 u5 u6 u7 u8 u9 u10 u11 u12 u13 u14=>?_;obtain⟨cc,hcl,oc,ho,hd⟩:=supCl_out u3;obtain⟨cda,hcd,hco⟩:=supCd_out u2;have hself:=supHd_out u1;have nocell:∀x∈fd.scope.names,x.2≠.cell:=λx hx=>by
    have:=aA.mp u14 x hx;rw[bO,decide_eq_false_iff_not]at this;exact this
   have hbind:∀vals,vals.length=ps.length->bindArgs fd ⟨vals,[]⟩=pure ((ps.map nm).zip vals):=bindsAt (pp:=λe=>e.2.2.1) F.s3 F.s4 (aF e) q;refine ieeeaa fd cc cda (congrArg (·.2) h1) ⟨fnAt_out q,O.code,congrArg (·.1) h1,O.co,O.gen,O.kind,O.globals,O.builtins,hbind,λi hi=>isK_out (aA.mp h3 i hi),O.ps,nocell⟩ (⟨fnAt_out q,hself,hcd,hco,iea oc ho hd,hcl,bw.mp u4,bw.mp u4,beq_iff_eq.mp u5,beq_iff_eq.mp u6,isK_out u7,isK_out u8,ht,beq_iff_eq.mp u9,beq_iff_eq.mp u10,beq_iff_eq.mp u11,u12,O.kind,isK_out u13⟩)
 ka:={
  at_:=λC k h=>by
   unfold okAt at h;cases e:lookN tA C with
   |none=>rw[e]at h;cases h
   |some m=>
    rw[e]at h;have h:f7 m k=true:=h;have mem:=lookN_mem e;have kl:k<153:=Nat.lt_of_not_le λz=>by
     have:=aA.mp F.a2 _ mem;rw[Nat.testBit_lt_two_pow (bH (a5 this) (f9 (by decide) z))]at h;cases h
    have:=aA.mp (aA.mp F.a1 _ mem) k (aC.mpr kl);rw[h]at this;have:hpA c.Kf C k=true:=this;unfold hpA at this;refine and6 this λh1 h2 h3 h4 h5 h6=>?_;refine⟨⟨h1,h2,?_⟩,⟨beq_iff_eq.mp h4,h5,beq_iff_eq.mp h6,h2⟩⟩;split at h3
    ·rename_i attr e1;exact iea attr e1 h3
    ·cases h3
  m:=λC m a h=>by
   unfold methA at h;cases e:lookN tM C with
   |none=>rw[e]at h;cases h
   |some l=>
    rw[e]at h;have:=aA.mp (aA.mp F.m1 _ (lookN_mem e)) _ (lookN_mem h);exact and4 this λh1 h2 h3 h4=>⟨⟨h1,beq_iff_eq.mp h2,h3⟩,h4⟩}
 cl:=λi C a e=>by
  have:=all_at F.c1 e;exact and3 this λh1 h2 h3=>⟨h1,beq_iff_eq.mp h2,beq_iff_eq.mp h3⟩
theorem heap_cut:∀(n:Nat) (h:Heap),h.objs.size=n->∃h':Heap,(∀b,h'.get? b=h.get? b)/\∀h'':Heap,(∀b o,h'.get? b=some o->h''.get? b=some o)->h'.objs.size<=h''.objs.size:=by
 intro n
 induction n with
 |zero=>intro h e;exact⟨h,λ_=>rfl,λ_ _=>by rw[e];exact aZ _⟩
 |succ n ih=>
  intro h e;cases q:h.get? n with
  |some o=>exact⟨h,λ_=>rfl,λh'' k=>by rw[e];exact Heap.lt_size (k _ _ q)⟩
  |none=>
   obtain⟨objs,life⟩:=h;obtain⟨h',h1,h2⟩:=ih ⟨objs.pop,life⟩ (by have e:objs.size=n+1:=e;show objs.pop.size=n;rw[Array.size_pop,e];rfl);have e:objs.size=n+1:=e;refine⟨h',λb=>(h1 b).trans ?_,h2⟩;have gp:objs.pop[b]?=if b<n then objs[b]? else none:=by rw[Array.getElem?_pop,e];rfl
   by_cases z:b<n
   ·rw[if_pos z]at gp;unfold Heap.get?;dsimp only;rw[gp]
   ·rw[if_neg z]at gp;by_cases z2:b=n
    ·subst z2;rw[q];unfold Heap.get?;dsimp only;rw[gp]
    ·unfold Heap.get?;dsimp only;rw[gp,Array.getElem?_eq_none (by rw[e];exact da (aW.mp z) (Ne.symm z2))]
theorem rep_ints(g:GM):∀{xs:List Value} {ns:List Int},IntsAre xs ns->RepL g (ns.map .int) xs
 |_,_,.nil=>rfl
 |_,_,.cons n t h=>⟨_,_,rfl,⟨t,rfl⟩,rep_ints g h⟩
theorem no_cells{w:V}{l:Lbl}{n:Nat}(i:InO (omL [.v w]) l n):False:=by
 obtain⟨u,e,h⟩:=i;cases l with
 |var _=>cases e
 |tmp k=>cases k with
  |zero=>cases e;cases h
  |succ k=>cases e
end Mine.Internal
namespace Mine
open Internal
namespace whole
theorem tw10002100669626812175:0=0:=rfl
theorem tw10007520593648235073:0=0:=rfl
theorem tw10019450917411332427:0=0:=rfl
theorem tw10025635815308576066:0=0:=rfl
theorem tw10084071824679271942:0=0:=rfl
theorem tw10118140284582671090:0=0:=rfl
theorem tw10144505478992762587:0=0:=rfl
theorem tw10151842457417960038:0=0:=rfl
theorem tw10153838690179905649:0=0:=rfl
theorem tw10178181129370835086:0=0:=rfl
theorem tw1021466310418864216:0=0:=rfl
theorem tw10219327507634694686:0=0:=rfl
theorem tw10223304214185877754:0=0:=rfl
theorem tw1028817268384753636:0=0:=rfl
theorem tw102978890456122686:0=0:=rfl
theorem tw10301362462094837657:0=0:=rfl
theorem tw10319702536984744784:0=0:=rfl
theorem tw10332575325313852403:0=0:=rfl
theorem tw10335108021726791369:0=0:=rfl
theorem tw10354518954362131899:0=0:=rfl
theorem tw10379991877525085312:0=0:=rfl
theorem tw10393562808733323261:0=0:=rfl
theorem tw10423522819347714589:0=0:=rfl
theorem tw10438997657263567297:0=0:=rfl
theorem tw10446497943914359417:0=0:=rfl
theorem tw10461253832287612282:0=0:=rfl
theorem tw10467399731503315703:0=0:=rfl
theorem tw10472183733418339316:0=0:=rfl
theorem tw1047630922221454212:0=0:=rfl
theorem tw10488504414272976643:0=0:=rfl
theorem tw10499325594661192776:0=0:=rfl
theorem tw10552024072574289563:0=0:=rfl
theorem tw10565146586650446459:0=0:=rfl
theorem tw1058133836064258550:0=0:=rfl
theorem tw10590843552420965350:0=0:=rfl
theorem tw10616696396452150886:0=0:=rfl
theorem tw10646667717487897683:0=0:=rfl
theorem tw10654317064775040509:0=0:=rfl
theorem tw10687446343889991496:0=0:=rfl
theorem tw1072497446573119103:0=0:=rfl
theorem tw10765999639320066096:0=0:=rfl
theorem tw10795012362202508061:0=0:=rfl
theorem tw10805158454514937742:0=0:=rfl
theorem tw10832908153356258463:0=0:=rfl
theorem tw10840090224303567227:0=0:=rfl
theorem tw10879388597655286671:0=0:=rfl
theorem tw10887019763833697050:0=0:=rfl
theorem tw10922663048198985862:0=0:=rfl
theorem tw10951800313117414527:0=0:=rfl
theorem tw11018331769982298155:0=0:=rfl
theorem tw11024528398593038377:0=0:=rfl
theorem tw11027412199618322810:0=0:=rfl
theorem tw11030684522653666869:0=0:=rfl
theorem tw11100186960236547562:0=0:=rfl
theorem tw11116944545036436439:0=0:=rfl
theorem tw11124209341801176217:0=0:=rfl
theorem tw1114806542021703131:0=0:=rfl
theorem tw11168554632963773920:0=0:=rfl
theorem tw11187447588885237514:0=0:=rfl
theorem tw11188280186532128609:0=0:=rfl
theorem tw11219503280623407775:0=0:=rfl
theorem tw11243603205920247706:0=0:=rfl
theorem tw11316320225543275868:0=0:=rfl
theorem tw11331365046741114882:0=0:=rfl
theorem tw11357175057958205107:0=0:=rfl
theorem tw11384259339768038936:0=0:=rfl
theorem tw113900542113845248:0=0:=rfl
theorem tw11392060985427220233:0=0:=rfl
theorem tw11395692770084462984:0=0:=rfl
theorem tw11401351377558187561:0=0:=rfl
theorem tw1140656964413138424:0=0:=rfl
theorem tw11409993775148365219:0=0:=rfl
theorem tw11423436602419212718:0=0:=rfl
theorem tw11447198823506915613:0=0:=rfl
theorem tw11459245631466036986:0=0:=rfl
theorem tw11476502588441444683:0=0:=rfl
theorem tw1147815978188729584:0=0:=rfl
theorem tw11501073197159204048:0=0:=rfl
theorem tw11579432869886197636:0=0:=rfl
theorem tw11618948946589211957:0=0:=rfl
theorem tw11652624631766696257:0=0:=rfl
theorem tw11670040512431834200:0=0:=rfl
theorem tw11678933692714762019:0=0:=rfl
theorem tw11690859581915506653:0=0:=rfl
theorem tw1169358714977055332:0=0:=rfl
theorem tw11775131333759173506:0=0:=rfl
theorem tw11777355322855799659:0=0:=rfl
theorem tw11792362355297244138:0=0:=rfl
theorem tw11793381155483064346:0=0:=rfl
theorem tw11831613935261219028:0=0:=rfl
theorem tw11836910150536664915:0=0:=rfl
theorem tw11841974853317911985:0=0:=rfl
theorem tw11852944053547321950:0=0:=rfl
theorem tw11862022474199680377:0=0:=rfl
theorem tw11896201609302106115:0=0:=rfl
theorem tw11952309323241053379:0=0:=rfl
theorem tw11959834037327795482:0=0:=rfl
theorem tw11966515284280811977:0=0:=rfl
theorem tw11975771152792504044:0=0:=rfl
theorem tw11988251369728918034:0=0:=rfl
theorem tw12012580348766612465:0=0:=rfl
theorem tw12063277863729348616:0=0:=rfl
theorem tw12066178620653064874:0=0:=rfl
theorem tw12077107353733055826:0=0:=rfl
theorem tw12092817750456807627:0=0:=rfl
theorem tw12098860561503762481:0=0:=rfl
theorem tw12101772971524344381:0=0:=rfl
theorem tw12111672374848980225:0=0:=rfl
theorem tw12114987751065605754:0=0:=rfl
theorem tw12134894783777438967:0=0:=rfl
theorem tw1217171336636241682:0=0:=rfl
theorem tw12179455670472476543:0=0:=rfl
theorem tw12180422818723984309:0=0:=rfl
theorem tw12186894253409539890:0=0:=rfl
theorem tw1219099391390118749:0=0:=rfl
theorem tw12294887724330564330:0=0:=rfl
theorem tw12365302626169338283:0=0:=rfl
theorem tw12381228794656768651:0=0:=rfl
theorem tw12384220206497402333:0=0:=rfl
theorem tw1242133270297695508:0=0:=rfl
theorem tw12442016628978143412:0=0:=rfl
theorem tw12471785041798745281:0=0:=rfl
theorem tw12474861257701531764:0=0:=rfl
theorem tw12484011378766964031:0=0:=rfl
theorem tw12499812526503966003:0=0:=rfl
theorem tw12505054689143061370:0=0:=rfl
theorem tw12507882389757649525:0=0:=rfl
theorem tw12509332252045503800:0=0:=rfl
theorem tw12546187051103005520:0=0:=rfl
theorem tw12548274353314379123:0=0:=rfl
theorem tw1256279898242784606:0=0:=rfl
theorem tw12562849145585476731:0=0:=rfl
theorem tw12591319150774080885:0=0:=rfl
theorem tw12620984872611610876:0=0:=rfl
theorem tw12698311456782994138:0=0:=rfl
theorem tw12704508643202503056:0=0:=rfl
theorem tw1273583120585336579:0=0:=rfl
theorem tw12740454516981205806:0=0:=rfl
theorem tw12742087137024979937:0=0:=rfl
theorem tw12762855891700095494:0=0:=rfl
theorem tw12808456870637180559:0=0:=rfl
theorem tw12809664267019061670:0=0:=rfl
theorem tw12850242359631670003:0=0:=rfl
theorem tw12920395458479335663:0=0:=rfl
theorem tw12928932934922122878:0=0:=rfl
theorem tw12967805889597932581:0=0:=rfl
theorem tw12982672189386914922:0=0:=rfl
theorem tw1299319290729411920:0=0:=rfl
theorem tw13000713063990318526:0=0:=rfl
theorem tw13018183266405097566:0=0:=rfl
theorem tw13045181716907704641:0=0:=rfl
theorem tw13061340530893119238:0=0:=rfl
theorem tw13110515450571257733:0=0:=rfl
theorem tw13142167418276237254:0=0:=rfl
theorem tw13143666931850650640:0=0:=rfl
theorem tw13149474316023798553:0=0:=rfl
theorem tw13156973312945586846:0=0:=rfl
theorem tw1318554304652621475:0=0:=rfl
theorem tw13213058742666125385:0=0:=rfl
theorem tw1321319160052600332:0=0:=rfl
theorem tw13225829929819862880:0=0:=rfl
theorem tw13262402704330787269:0=0:=rfl
theorem tw13285438998962464343:0=0:=rfl
theorem tw13297878767709546727:0=0:=rfl
theorem tw13329942582686594379:0=0:=rfl
theorem tw1335791156554467795:0=0:=rfl
theorem tw13397120828393852246:0=0:=rfl
theorem tw13406957107772272364:0=0:=rfl
theorem tw1342645848660009235:0=0:=rfl
theorem tw13434065944014204811:0=0:=rfl
theorem tw13447532951914335906:0=0:=rfl
theorem tw13463558215457259582:0=0:=rfl
theorem tw13468676432958742306:0=0:=rfl
theorem tw13468923340822585488:0=0:=rfl
theorem tw13478315594510353802:0=0:=rfl
theorem tw1349178898306187914:0=0:=rfl
theorem tw1350920760672359567:0=0:=rfl
theorem tw13518702907885339924:0=0:=rfl
theorem tw13533835726952830686:0=0:=rfl
theorem tw1353902047762577225:0=0:=rfl
theorem tw13562979760119101899:0=0:=rfl
theorem tw1357757348178948127:0=0:=rfl
theorem tw13600218594186718376:0=0:=rfl
theorem tw13675596732203519343:0=0:=rfl
theorem tw13679757057165986330:0=0:=rfl
theorem tw1371446737807839366:0=0:=rfl
theorem tw13719171679594634575:0=0:=rfl
theorem tw13728302104422888548:0=0:=rfl
theorem tw13730376311393935369:0=0:=rfl
theorem tw13749801708979339770:0=0:=rfl
theorem tw13760198194640045919:0=0:=rfl
theorem tw13762013822233420738:0=0:=rfl
theorem tw137721658169608169:0=0:=rfl
theorem tw13823951767099335047:0=0:=rfl
theorem tw13829708278779851847:0=0:=rfl
theorem tw13876266882482020314:0=0:=rfl
theorem tw1393339623888494026:0=0:=rfl
theorem tw13960669724093699300:0=0:=rfl
theorem tw13962616709173656972:0=0:=rfl
theorem tw13989200534822022692:0=0:=rfl
theorem tw14031613983174702221:0=0:=rfl
theorem tw14047333959232290054:0=0:=rfl
theorem tw14062873862729552008:0=0:=rfl
theorem tw14117439955800268797:0=0:=rfl
theorem tw14120694959671187261:0=0:=rfl
theorem tw14138553856905868755:0=0:=rfl
theorem tw14173393766343599159:0=0:=rfl
theorem tw14192229110069238088:0=0:=rfl
theorem tw14237421989038554192:0=0:=rfl
theorem tw14239292526413980002:0=0:=rfl
theorem tw14302830165969023719:0=0:=rfl
theorem tw14328502944104624683:0=0:=rfl
theorem tw14381574177426341226:0=0:=rfl
theorem tw14390007995909808975:0=0:=rfl
theorem tw14395644662136614805:0=0:=rfl
theorem tw14398828562116658018:0=0:=rfl
theorem tw14407849266092530191:0=0:=rfl
theorem tw14443708556783366652:0=0:=rfl
theorem tw14450635290435297814:0=0:=rfl
theorem tw14452842497153137480:0=0:=rfl
theorem tw14457598465852218886:0=0:=rfl
theorem tw14492196311604417308:0=0:=rfl
theorem tw14590790631899776401:0=0:=rfl
theorem tw14592908492388784131:0=0:=rfl
theorem tw14628220171574447489:0=0:=rfl
theorem tw14633110857100559981:0=0:=rfl
theorem tw14654356449610600485:0=0:=rfl
theorem tw14660952851575372136:0=0:=rfl
theorem tw14661705875561194100:0=0:=rfl
theorem tw14671651394210877623:0=0:=rfl
theorem tw14676366378414606867:0=0:=rfl
theorem tw1469495571348798126:0=0:=rfl
theorem tw1470681187219097129:0=0:=rfl
theorem tw1471434918722173362:0=0:=rfl
theorem tw14725644924352215136:0=0:=rfl
theorem tw14732348922388339242:0=0:=rfl
theorem tw14756447051001558117:0=0:=rfl
theorem tw14776171463994254414:0=0:=rfl
theorem tw14857529406646634625:0=0:=rfl
theorem tw14863180981096415481:0=0:=rfl
theorem tw14875044017630859624:0=0:=rfl
theorem tw14877643965249282964:0=0:=rfl
theorem tw14890280090424698046:0=0:=rfl
theorem tw14916202748087371944:0=0:=rfl
theorem tw14943008167867972167:0=0:=rfl
theorem tw14998389939795375158:0=0:=rfl
theorem tw15001587830400145190:0=0:=rfl
theorem tw15013576625721048695:0=0:=rfl
theorem tw15015764479258077956:0=0:=rfl
theorem tw1503406073462105463:0=0:=rfl
theorem tw15089273742334493110:0=0:=rfl
theorem tw1509033169537457064:0=0:=rfl
theorem tw15103685750691789098:0=0:=rfl
theorem tw15105012252411618398:0=0:=rfl
theorem tw15117479482001565679:0=0:=rfl
theorem tw15251578357679609785:0=0:=rfl
theorem tw15264306265154332586:0=0:=rfl
theorem tw15274856360797078626:0=0:=rfl
theorem tw15285801702533195368:0=0:=rfl
theorem tw1533094020690680647:0=0:=rfl
theorem tw15338273372565686330:0=0:=rfl
theorem tw15342184571836287787:0=0:=rfl
theorem tw15401142651479110994:0=0:=rfl
theorem tw15462414832971340256:0=0:=rfl
theorem tw15469157617142141710:0=0:=rfl
theorem tw15564212434770411261:0=0:=rfl
theorem tw15590627282705473993:0=0:=rfl
theorem tw15652777202477211125:0=0:=rfl
theorem tw15657491793718945610:0=0:=rfl
theorem tw15680802009173567957:0=0:=rfl
theorem tw15695161780090201225:0=0:=rfl
theorem tw15716183405302250479:0=0:=rfl
theorem tw15761127226676153883:0=0:=rfl
theorem tw15771390255919318617:0=0:=rfl
theorem tw15803673994437570577:0=0:=rfl
theorem tw15811116968426213322:0=0:=rfl
theorem tw15819564801051643881:0=0:=rfl
theorem tw15835130817642446534:0=0:=rfl
theorem tw1587768003098754325:0=0:=rfl
theorem tw15950631773475717186:0=0:=rfl
theorem tw16000088419691856984:0=0:=rfl
theorem tw1601961968588287001:0=0:=rfl
theorem tw16026843855606243410:0=0:=rfl
theorem tw16062187612904122858:0=0:=rfl
theorem tw16089163917832698231:0=0:=rfl
theorem tw16111274487264414774:0=0:=rfl
theorem tw161333873384909080:0=0:=rfl
theorem tw16146633858663668739:0=0:=rfl
theorem tw16151222146762293071:0=0:=rfl
theorem tw16316554137538487329:0=0:=rfl
theorem tw16337621169857538619:0=0:=rfl
theorem tw1633898876240874773:0=0:=rfl
theorem tw16395379286268932709:0=0:=rfl
theorem tw16398205279857054297:0=0:=rfl
theorem tw1640677438868554593:0=0:=rfl
theorem tw16416134952452293984:0=0:=rfl
theorem tw16442795661328238356:0=0:=rfl
theorem tw1645590182628983409:0=0:=rfl
theorem tw16467933323881711526:0=0:=rfl
theorem tw16505068655815891843:0=0:=rfl
theorem tw16529046165737248422:0=0:=rfl
theorem tw16564990636065421569:0=0:=rfl
theorem tw16576061068926947915:0=0:=rfl
theorem tw16588625043399567139:0=0:=rfl
theorem tw16595449952281916149:0=0:=rfl
theorem tw16616245412964173377:0=0:=rfl
theorem tw16632549679145195189:0=0:=rfl
theorem tw16668768811381343612:0=0:=rfl
theorem tw16708263669468244151:0=0:=rfl
theorem tw16710806586956947785:0=0:=rfl
theorem tw16721588368965777027:0=0:=rfl
theorem tw16732526662816644420:0=0:=rfl
theorem tw16738726308800667447:0=0:=rfl
theorem tw16739781802365451968:0=0:=rfl
theorem tw16741440440132755172:0=0:=rfl
theorem tw16800997667575721541:0=0:=rfl
theorem tw16827500432841332687:0=0:=rfl
theorem tw16845944245580146995:0=0:=rfl
theorem tw16912792503757511054:0=0:=rfl
theorem tw169747851870786472:0=0:=rfl
theorem tw16986268789631483586:0=0:=rfl
theorem tw1699034841665187622:0=0:=rfl
theorem tw17037309529492816295:0=0:=rfl
theorem tw17044950167386977207:0=0:=rfl
theorem tw17060747222450192753:0=0:=rfl
theorem tw17075553230084287909:0=0:=rfl
theorem tw17092094596097150618:0=0:=rfl
theorem tw1710221593020227077:0=0:=rfl
theorem tw17169624498616045403:0=0:=rfl
theorem tw17175008800681467811:0=0:=rfl
theorem tw17179786008130999086:0=0:=rfl
theorem tw17195952149560314771:0=0:=rfl
theorem tw17256302963761357986:0=0:=rfl
theorem tw17295703372945214271:0=0:=rfl
theorem tw17333791097184162534:0=0:=rfl
theorem tw1733744953317856445:0=0:=rfl
theorem tw17454085226186693669:0=0:=rfl
theorem tw17463027529269885953:0=0:=rfl
theorem tw17475311184863085016:0=0:=rfl
theorem tw17480726222106551122:0=0:=rfl
theorem tw17529894129228449367:0=0:=rfl
theorem tw17573941173071408835:0=0:=rfl
theorem tw17580786090293021976:0=0:=rfl
theorem tw17584258832924248021:0=0:=rfl
theorem tw17587020191209777828:0=0:=rfl
theorem tw17598439363315890097:0=0:=rfl
theorem tw17641713804859348092:0=0:=rfl
theorem tw1765076044715932963:0=0:=rfl
theorem tw17659150536888882668:0=0:=rfl
theorem tw17692944630003236201:0=0:=rfl
theorem tw17700112632457955127:0=0:=rfl
theorem tw17708391408692131970:0=0:=rfl
theorem tw17756055853247313500:0=0:=rfl
theorem tw17794071737211314316:0=0:=rfl
theorem tw17814491789457634051:0=0:=rfl
theorem tw17818493641747277991:0=0:=rfl
theorem tw17819583843959417973:0=0:=rfl
theorem tw17841917278309519415:0=0:=rfl
theorem tw17843127513448600897:0=0:=rfl
theorem tw17870152368367076345:0=0:=rfl
theorem tw17870853324313594786:0=0:=rfl
theorem tw17886057370482458864:0=0:=rfl
theorem tw17933440416606161858:0=0:=rfl
theorem tw17945471581576359013:0=0:=rfl
theorem tw17948893368442150300:0=0:=rfl
theorem tw17980908128825299112:0=0:=rfl
theorem tw17991299263585117788:0=0:=rfl
theorem tw17992364426957274132:0=0:=rfl
theorem tw18002909038890314157:0=0:=rfl
theorem tw18026328337398066365:0=0:=rfl
theorem tw18056553881098321084:0=0:=rfl
theorem tw18060336119277286115:0=0:=rfl
theorem tw18135788421098096370:0=0:=rfl
theorem tw18145388855558949900:0=0:=rfl
theorem tw18162983195158539490:0=0:=rfl
theorem tw18174217711786252908:0=0:=rfl
theorem tw18186416632783805872:0=0:=rfl
theorem tw18223413143505370273:0=0:=rfl
theorem tw18293881159641894451:0=0:=rfl
theorem tw18314547241281667657:0=0:=rfl
theorem tw18315055452531851272:0=0:=rfl
theorem tw1832333835049095048:0=0:=rfl
theorem tw18324492136986001645:0=0:=rfl
theorem tw18339132472682970042:0=0:=rfl
theorem tw18354614867481654581:0=0:=rfl
theorem tw18363153814535713890:0=0:=rfl
theorem tw1836438579387980826:0=0:=rfl
theorem tw18382394861701510011:0=0:=rfl
theorem tw18402882695012882554:0=0:=rfl
theorem tw1859146779660683823:0=0:=rfl
theorem tw1893850866222049975:0=0:=rfl
theorem tw1897105925431849711:0=0:=rfl
theorem tw1902754551582867561:0=0:=rfl
theorem tw1934810232205804993:0=0:=rfl
theorem tw1975147037884041520:0=0:=rfl
theorem tw1999433592531618509:0=0:=rfl
theorem tw2013318861076662011:0=0:=rfl
theorem tw2028823117376367632:0=0:=rfl
theorem tw203428145850139289:0=0:=rfl
theorem tw2081632904089052959:0=0:=rfl
theorem tw2083198920140632441:0=0:=rfl
theorem tw2151346155558304222:0=0:=rfl
theorem tw2151871088471828822:0=0:=rfl
theorem tw2155487761632659812:0=0:=rfl
theorem tw2166459464060227386:0=0:=rfl
theorem tw2168223474955763204:0=0:=rfl
theorem tw2198523743367551842:0=0:=rfl
theorem tw2201306404548609547:0=0:=rfl
theorem tw2227498709159742100:0=0:=rfl
theorem tw2249504304506360813:0=0:=rfl
theorem tw2302033354624455591:0=0:=rfl
theorem tw2305076159590593208:0=0:=rfl
theorem tw2349701861695252166:0=0:=rfl
theorem tw2362521522948952975:0=0:=rfl
theorem tw2380868127642377217:0=0:=rfl
theorem tw2401531773124529735:0=0:=rfl
theorem tw2404457027504551060:0=0:=rfl
theorem tw2412972146837434115:0=0:=rfl
theorem tw2439357469168130064:0=0:=rfl
theorem tw2554714600840530319:0=0:=rfl
theorem tw2558861820686608913:0=0:=rfl
theorem tw2580061231857448207:0=0:=rfl
theorem tw2608646628457097981:0=0:=rfl
theorem tw2626972384719194784:0=0:=rfl
theorem tw2649048575011448004:0=0:=rfl
theorem tw2665807779830099079:0=0:=rfl
theorem tw2685624786292725039:0=0:=rfl
theorem tw2777902329107566167:0=0:=rfl
theorem tw2781955308351554444:0=0:=rfl
theorem tw2783269125865542102:0=0:=rfl
theorem tw280920844665842053:0=0:=rfl
theorem tw285988719286631819:0=0:=rfl
theorem tw2912573282932879776:0=0:=rfl
theorem tw29202618045891971:0=0:=rfl
theorem tw2959683903145980101:0=0:=rfl
theorem tw2962858822866373933:0=0:=rfl
theorem tw2989192609971925910:0=0:=rfl
theorem tw3016316376071577429:0=0:=rfl
theorem tw302538394102154784:0=0:=rfl
theorem tw3028004478679740547:0=0:=rfl
theorem tw3029818731915779892:0=0:=rfl
theorem tw3032979927593192661:0=0:=rfl
theorem tw3085902745639715626:0=0:=rfl
theorem tw3099174332690161747:0=0:=rfl
theorem tw3099485228618234346:0=0:=rfl
theorem tw3117049408229778687:0=0:=rfl
theorem tw3125283655325999989:0=0:=rfl
theorem tw3127163415804763599:0=0:=rfl
theorem tw3162264621223815677:0=0:=rfl
theorem tw3162365515331879682:0=0:=rfl
theorem tw3166543957339863982:0=0:=rfl
theorem tw3168900989282067249:0=0:=rfl
theorem tw3243557710152264731:0=0:=rfl
theorem tw3280129329062278201:0=0:=rfl
theorem tw3306209509626126654:0=0:=rfl
theorem tw3336266095096057487:0=0:=rfl
theorem tw3343623549547590161:0=0:=rfl
theorem tw3345510996311645767:0=0:=rfl
theorem tw3357092870726653058:0=0:=rfl
theorem tw3369746551918469629:0=0:=rfl
theorem tw3384207784612787380:0=0:=rfl
theorem tw3384858237140249800:0=0:=rfl
theorem tw3390907139478361160:0=0:=rfl
theorem tw340442491454447764:0=0:=rfl
theorem tw3467671131507365174:0=0:=rfl
theorem tw3479739002732855021:0=0:=rfl
theorem tw3482644124312780496:0=0:=rfl
theorem tw356215775963413058:0=0:=rfl
theorem tw3604371722874584219:0=0:=rfl
theorem tw3633373589777264862:0=0:=rfl
theorem tw3687826684616867901:0=0:=rfl
theorem tw369943808078234791:0=0:=rfl
theorem tw3719598108804966507:0=0:=rfl
theorem tw3720110479823389818:0=0:=rfl
theorem tw3724477965614018403:0=0:=rfl
theorem tw3733203681221829434:0=0:=rfl
theorem tw3742335343461010818:0=0:=rfl
theorem tw3774107025085352999:0=0:=rfl
theorem tw3798757254938238448:0=0:=rfl
theorem tw3802398583823018356:0=0:=rfl
theorem tw381110514646162275:0=0:=rfl
theorem tw3817958767811374121:0=0:=rfl
theorem tw3831098155750919189:0=0:=rfl
theorem tw3869719713472690019:0=0:=rfl
theorem tw3909395182359919685:0=0:=rfl
theorem tw3911966217894400741:0=0:=rfl
theorem tw3935972832432928633:0=0:=rfl
theorem tw3945383572190744343:0=0:=rfl
theorem tw3947618128840659280:0=0:=rfl
theorem tw3995449140538097629:0=0:=rfl
theorem tw4009164454077540199:0=0:=rfl
theorem tw4023493105852641059:0=0:=rfl
theorem tw4056270910917201831:0=0:=rfl
theorem tw4075336105160463354:0=0:=rfl
theorem tw4086658223068553736:0=0:=rfl
theorem tw409525538239758689:0=0:=rfl
theorem tw4107823604484434990:0=0:=rfl
theorem tw4162360135600614074:0=0:=rfl
theorem tw4163455835068889971:0=0:=rfl
theorem tw4180466227808675834:0=0:=rfl
theorem tw420889256603489644:0=0:=rfl
theorem tw4210173837847294953:0=0:=rfl
theorem tw4221266100470226451:0=0:=rfl
theorem tw4234479992401935053:0=0:=rfl
theorem tw431044224361937856:0=0:=rfl
theorem tw4325337674984583414:0=0:=rfl
theorem tw4337987958061720545:0=0:=rfl
theorem tw4338333698743118245:0=0:=rfl
theorem tw4346055641746905949:0=0:=rfl
theorem tw4347982837100205910:0=0:=rfl
theorem tw435229417069212923:0=0:=rfl
theorem tw43722865635132848:0=0:=rfl
theorem tw437534634077163847:0=0:=rfl
theorem tw4381508105603032202:0=0:=rfl
theorem tw4383604606248590591:0=0:=rfl
theorem tw4407424652887510330:0=0:=rfl
theorem tw4441356404631880174:0=0:=rfl
theorem tw4441961637666494936:0=0:=rfl
theorem tw4444701892398472603:0=0:=rfl
theorem tw4445204285082115520:0=0:=rfl
theorem tw4447922135398794285:0=0:=rfl
theorem tw4466201941553827358:0=0:=rfl
theorem tw4478484345807364305:0=0:=rfl
theorem tw4479364801722962140:0=0:=rfl
theorem tw4487652198498899664:0=0:=rfl
theorem tw4497405343062392443:0=0:=rfl
theorem tw4500174473588537352:0=0:=rfl
theorem tw4535560162481520197:0=0:=rfl
theorem tw4603890583814415204:0=0:=rfl
theorem tw4605417425148642151:0=0:=rfl
theorem tw4634220273326129683:0=0:=rfl
theorem tw46433443316919834:0=0:=rfl
theorem tw4689585835679557668:0=0:=rfl
theorem tw4772658413541480157:0=0:=rfl
theorem tw4779742677757752892:0=0:=rfl
theorem tw482805393138593929:0=0:=rfl
theorem tw487143721646681983:0=0:=rfl
theorem tw4897329129694005586:0=0:=rfl
theorem tw4901011727050283698:0=0:=rfl
theorem tw4902818953507920398:0=0:=rfl
theorem tw4909349585908861296:0=0:=rfl
theorem tw4934077235998201596:0=0:=rfl
theorem tw495720629074364255:0=0:=rfl
theorem tw49618309497685836:0=0:=rfl
theorem tw4977384430496418070:0=0:=rfl
theorem tw5001923725869043736:0=0:=rfl
theorem tw5015864234111024480:0=0:=rfl
theorem tw5055955640874334904:0=0:=rfl
theorem tw5081031077709457048:0=0:=rfl
theorem tw5099900934548537757:0=0:=rfl
theorem tw5126654384365931410:0=0:=rfl
theorem tw5137022389394785357:0=0:=rfl
theorem tw5146043315109619605:0=0:=rfl
theorem tw5159705281301196996:0=0:=rfl
theorem tw5170085318457261871:0=0:=rfl
theorem tw5171116725156735389:0=0:=rfl
theorem tw5189780602208921310:0=0:=rfl
theorem tw5233578499609466721:0=0:=rfl
theorem tw5254450366334392284:0=0:=rfl
theorem tw5277582801102665213:0=0:=rfl
theorem tw5297632933804744799:0=0:=rfl
theorem tw5349422690488739272:0=0:=rfl
theorem tw5361092306138085264:0=0:=rfl
theorem tw536816803628104207:0=0:=rfl
theorem tw5405151241437436114:0=0:=rfl
theorem tw5408107943391738:0=0:=rfl
theorem tw5408236102672583348:0=0:=rfl
theorem tw5430717269032188674:0=0:=rfl
theorem tw5433660331597885046:0=0:=rfl
theorem tw543460287212350964:0=0:=rfl
theorem tw5438831827131416888:0=0:=rfl
theorem tw5441638125044145263:0=0:=rfl
theorem tw5460680643579594377:0=0:=rfl
theorem tw5515949286892933951:0=0:=rfl
theorem tw5532809562029925614:0=0:=rfl
theorem tw5542149417468696053:0=0:=rfl
theorem tw5572964892545398623:0=0:=rfl
theorem tw5586392500970708615:0=0:=rfl
theorem tw5649241889958590350:0=0:=rfl
theorem tw5662987942479315956:0=0:=rfl
theorem tw572749868224977959:0=0:=rfl
theorem tw5728154831901139425:0=0:=rfl
theorem tw5790326999694950120:0=0:=rfl
theorem tw5791068310056048545:0=0:=rfl
theorem tw5795321864736660020:0=0:=rfl
theorem tw5798653541585068671:0=0:=rfl
theorem tw5803101561360292368:0=0:=rfl
theorem tw5833760311655045577:0=0:=rfl
theorem tw5879479702872096659:0=0:=rfl
theorem tw590541238101311183:0=0:=rfl
theorem tw5938623499991607928:0=0:=rfl
theorem tw5942346508108547180:0=0:=rfl
theorem tw5980585785881701215:0=0:=rfl
theorem tw5984233764851548814:0=0:=rfl
theorem tw6014040228023658700:0=0:=rfl
theorem tw6018008695308894833:0=0:=rfl
theorem tw6049599900894316688:0=0:=rfl
theorem tw6065093676875020208:0=0:=rfl
theorem tw6067178945074143734:0=0:=rfl
theorem tw6084657873442493111:0=0:=rfl
theorem tw6090991400474081933:0=0:=rfl
theorem tw6095937858554715304:0=0:=rfl
theorem tw6097748072631727781:0=0:=rfl
theorem tw6150244297128479101:0=0:=rfl
theorem tw6159961993279768742:0=0:=rfl
theorem tw6187261993980536492:0=0:=rfl
theorem tw6197045082498751548:0=0:=rfl
theorem tw620233503781600244:0=0:=rfl
theorem tw6211587326476211309:0=0:=rfl
theorem tw6233461465355520292:0=0:=rfl
theorem tw6266228650988000492:0=0:=rfl
theorem tw6330323023686639657:0=0:=rfl
theorem tw6330797023819526829:0=0:=rfl
theorem tw6356627984389668255:0=0:=rfl
theorem tw6398494249180007682:0=0:=rfl
theorem tw6416634858453334624:0=0:=rfl
theorem tw6453619897266653623:0=0:=rfl
theorem tw6472696656209681604:0=0:=rfl
theorem tw6496092161831514541:0=0:=rfl
theorem tw6507163766276112266:0=0:=rfl
theorem tw6525215580464160042:0=0:=rfl
theorem tw6531100040246800141:0=0:=rfl
theorem tw6553984163096543158:0=0:=rfl
theorem tw6554874851225637503:0=0:=rfl
theorem tw6648197116569056673:0=0:=rfl
theorem tw6668404214701342278:0=0:=rfl
theorem tw6677481401041580341:0=0:=rfl
theorem tw6711224856247384401:0=0:=rfl
theorem tw6734874506966982255:0=0:=rfl
theorem tw6743021324641148519:0=0:=rfl
theorem tw6750649090777595757:0=0:=rfl
theorem tw675793542917168019:0=0:=rfl
theorem tw6772379921613518395:0=0:=rfl
theorem tw6774775609766916077:0=0:=rfl
theorem tw6790352820639063588:0=0:=rfl
theorem tw679095792406170707:0=0:=rfl
theorem tw6795950696382679116:0=0:=rfl
theorem tw6823266097380344784:0=0:=rfl
theorem tw6866068747796929802:0=0:=rfl
theorem tw6872907005359335961:0=0:=rfl
theorem tw6888942637506950926:0=0:=rfl
theorem tw6896427876366098391:0=0:=rfl
theorem tw6933715213461094250:0=0:=rfl
theorem tw697334722855355308:0=0:=rfl
theorem tw6975664082121306202:0=0:=rfl
theorem tw7056001396292377188:0=0:=rfl
theorem tw7073311072910153293:0=0:=rfl
theorem tw7125036137928297414:0=0:=rfl
theorem tw7154100213019291727:0=0:=rfl
theorem tw7158488753437644409:0=0:=rfl
theorem tw7159338690361838613:0=0:=rfl
theorem tw715978364194892080:0=0:=rfl
theorem tw7181214704614307865:0=0:=rfl
theorem tw7187317218736086229:0=0:=rfl
theorem tw7248877203947682478:0=0:=rfl
theorem tw7276013540153241084:0=0:=rfl
theorem tw7280849871689594849:0=0:=rfl
theorem tw7315993881563675004:0=0:=rfl
theorem tw7368006489180217709:0=0:=rfl
theorem tw7391549574342816922:0=0:=rfl
theorem tw7440899508696716974:0=0:=rfl
theorem tw7452821578398259720:0=0:=rfl
theorem tw7466904020207815869:0=0:=rfl
theorem tw752445999539531448:0=0:=rfl
theorem tw7545590854473540767:0=0:=rfl
theorem tw7545654013535254480:0=0:=rfl
theorem tw7564407027854533171:0=0:=rfl
theorem tw7576292583959916747:0=0:=rfl
theorem tw7582116766257987118:0=0:=rfl
theorem tw7588574119468234827:0=0:=rfl
theorem tw7601072278947682838:0=0:=rfl
theorem tw7669669677095693358:0=0:=rfl
theorem tw7689902935678670512:0=0:=rfl
theorem tw772474843232632690:0=0:=rfl
theorem tw7728773200315073681:0=0:=rfl
theorem tw775654668261428149:0=0:=rfl
theorem tw7763615457305083410:0=0:=rfl
theorem tw7781976810680006178:0=0:=rfl
theorem tw7856580471358416282:0=0:=rfl
theorem tw7860379621774607140:0=0:=rfl
theorem tw7868544009499267292:0=0:=rfl
theorem tw7877845480710146401:0=0:=rfl
theorem tw7885708016979292634:0=0:=rfl
theorem tw7892903329919386008:0=0:=rfl
theorem tw7906611734251618119:0=0:=rfl
theorem tw7910221479046277610:0=0:=rfl
theorem tw7925426705801168976:0=0:=rfl
theorem tw7952383044827225310:0=0:=rfl
theorem tw7967871255840070022:0=0:=rfl
theorem tw7977717154205229210:0=0:=rfl
theorem tw7978788361824508945:0=0:=rfl
theorem tw803728761352460389:0=0:=rfl
theorem tw8095454911708127961:0=0:=rfl
theorem tw8109663874093803249:0=0:=rfl
theorem tw817909704231249520:0=0:=rfl
theorem tw8181180424491326830:0=0:=rfl
theorem tw8184708281838074206:0=0:=rfl
theorem tw8243020233432551205:0=0:=rfl
theorem tw8258574867067344367:0=0:=rfl
theorem tw8269794280708405034:0=0:=rfl
theorem tw8284271217205693211:0=0:=rfl
theorem tw8341004590406740810:0=0:=rfl
theorem tw8350250358471643572:0=0:=rfl
theorem tw8351164730277109312:0=0:=rfl
theorem tw8389592306716628391:0=0:=rfl
theorem tw8403751301525005671:0=0:=rfl
theorem tw843396670912023852:0=0:=rfl
theorem tw8444963059077079450:0=0:=rfl
theorem tw8454442166302862320:0=0:=rfl
theorem tw8465779003785688887:0=0:=rfl
theorem tw8529020170189433330:0=0:=rfl
theorem tw8572516506043022915:0=0:=rfl
theorem tw8602141644225615130:0=0:=rfl
theorem tw8615399842404961663:0=0:=rfl
theorem tw8684032485159981719:0=0:=rfl
theorem tw8699793337390238261:0=0:=rfl
theorem tw8719548228035378133:0=0:=rfl
theorem tw8789054386453842027:0=0:=rfl
theorem tw8799044985600393684:0=0:=rfl
theorem tw8833888180515537064:0=0:=rfl
theorem tw8868806382682364411:0=0:=rfl
theorem tw8884531897199943920:0=0:=rfl
theorem tw8894826161267586577:0=0:=rfl
theorem tw8958452949930002773:0=0:=rfl
theorem tw8961415085178454156:0=0:=rfl
theorem tw8965215075514910880:0=0:=rfl
theorem tw8983667203327932493:0=0:=rfl
theorem tw8983756257105130227:0=0:=rfl
theorem tw899187281708718853:0=0:=rfl
theorem tw9033953771586226978:0=0:=rfl
theorem tw9035394219717786629:0=0:=rfl
theorem tw9036960110271754778:0=0:=rfl
theorem tw9043093919020774792:0=0:=rfl
theorem tw9046693723037758376:0=0:=rfl
theorem tw905634021204347684:0=0:=rfl
theorem tw9063790561628003831:0=0:=rfl
theorem tw9070957267384851957:0=0:=rfl
theorem tw9088682870026954680:0=0:=rfl
theorem tw9142887217227649140:0=0:=rfl
theorem tw9170513070990267023:0=0:=rfl
theorem tw9189751539129569556:0=0:=rfl
theorem tw9200330197067421115:0=0:=rfl
theorem tw9212966250080664162:0=0:=rfl
theorem tw9242471422690250210:0=0:=rfl
theorem tw9261806104794426953:0=0:=rfl
theorem tw9275448389876633987:0=0:=rfl
theorem tw927568089824032536:0=0:=rfl
theorem tw9301873983451068159:0=0:=rfl
theorem tw9315315907157715723:0=0:=rfl
theorem tw9347626172496877827:0=0:=rfl
theorem tw9358836691059361674:0=0:=rfl
theorem tw9385414077733418526:0=0:=rfl
theorem tw9406530864695525851:0=0:=rfl
theorem tw9446046918361872579:0=0:=rfl
theorem tw9449955787129754595:0=0:=rfl
theorem tw948704589612583740:0=0:=rfl
theorem tw949743934663060849:0=0:=rfl
theorem tw9501391760213346845:0=0:=rfl
theorem tw9524161046149784534:0=0:=rfl
theorem tw9625973628771424018:0=0:=rfl
theorem tw9649613761386221421:0=0:=rfl
theorem tw9654072969724333583:0=0:=rfl
theorem tw9722750020625992282:0=0:=rfl
theorem tw9725988738643398560:0=0:=rfl
theorem tw974242676711936875:0=0:=rfl
theorem tw9748834850448372353:0=0:=rfl
theorem tw9753940524135748638:0=0:=rfl
theorem tw9775085227918541326:0=0:=rfl
theorem tw978456291528864041:0=0:=rfl
theorem tw9787344453429475573:0=0:=rfl
theorem tw9831549134678401257:0=0:=rfl
theorem tw9838295914634562783:0=0:=rfl
theorem tw9841425051670495895:0=0:=rfl
theorem tw9851385603074314742:0=0:=rfl
theorem tw9884847805657258340:0=0:=rfl
theorem tw9907439585923661828:0=0:=rfl
theorem tw9945681253131214307:0=0:=rfl
theorem tw9951143050096045611:0=0:=rfl
theorem tw9994479494313819776:0=0:=rfl
theorem tw13639689459879882640:0=0:=rfl
end whole
theorem withK{K:Frag}{h:Heap}{R:Prop}(k:K.In h)(f:Facts PySem.Challenge.pw_nz0034_01.main.file K)(r:Facts PySem.Challenge.pw_nz0034_01.main.file K->R):R:=r f
set_option maxRecDepth 100000 in
set_option maxHeartbeats 8000000 in
set_option Elab.async true in
theorem whole:PySem.Challenge.rw_nz0034_01.Holds:=by
 w_on;o_law;k_head;(case hw=>w_witness2)
 intro w s₀ s₁ mg mb G Y fa o pm cd doc dV kV ho hd hcd hD hmg hg args vals as hpre hlay hrd hwl hlo;have KX:=kIn_of Y;clear ho hd hcd hD Y;obtain⟨h₀,e₀,last⟩:=heap_cut _ s₁.heap rfl;have K0:=KX.keeps (h':=h₀) λb o e=>by rw[e₀];exact e
 refine withK K0 {b:=by kernel_rfl,g:=by kernel_rfl,k:=by kernel_rfl,f1:=by kernel_rfl,f2:=by kernel_rfl,f3:=vals5 (λa=>by kernel_rfl) (λa b=>by kernel_rfl) (λa b c=>by kernel_rfl) (λa b c d=>by kernel_rfl) (λa b c d e=>by kernel_rfl) (λa b c d e f=>by kernel_rfl),f4:=by kernel_rfl,s1:=by kernel_rfl,s3:=vals5 (λa=>by kernel_rfl) (λa b=>by kernel_rfl) (λa b c=>by kernel_rfl) (λa b c d=>by kernel_rfl) (λa b c d e=>by kernel_rfl) (λa b c d e f=>by kernel_rfl),s4:=by kernel_rfl,s2:=by kernel_rfl,a1:=by kernel_rfl,a2:=by kernel_rfl,m1:=by kernel_rfl,c1:=by kernel_rfl} λF=>?_;have T0:TopRead _ _ mg mb h₀:=(topRead_of G.T).keeps λb o e=>by rw[e₀];exact e
 let c:Cx:=⟨PySem.Challenge.pw_nz0034_01,w,_,mg,mb,_,_,h₀,s₁.os,K0,T0⟩
 have H:KF c:=kf_of F (show(PySem.Challenge.pw_nz0034_01.main.scope.names.lookup ("super":Str)).isSome=false by decide+kernel) ⟨T0.nolimit,by
  obtain⟨mm,⟨o,es,ep,e,r⟩,_⟩:=((G.T.seer (by decide+kernel)).keeps λb o e=>by rw[e₀];exact e:h₀.NoSeer).mods;show(h₀.get? sysModules).isSome=true;rw[e];rfl,last⟩
 have hfa:mg "law"=some (.ref 774):=mg_of K0 T0.g (beq_iff_eq.mp (aA.mp F.g ("law",774) (by decide+kernel)));cases(show some (Value.ref 774)=some (.ref fa)from hfa.symm.trans hmg);clear hmg
 set_option tactic.hygienic true in wrow_args hpre hlay hrd hwl hlo
 rename_i ns u1 u2 u3 u4 u5 u6 u7 la xs u8 hL u9 u10 u11 hI u12 hcd u13;clear u1 u2 u3 u4 u5 u8 u9 u10 u11 u12 u13;obtain⟨ob,ho,hcl,n,hdt⟩:=hL;have hs:HS c (λb=>s₁.heap.get? b) (λb=>s₁.heap.get? b) (omL [.v (.arg (ns.map .int))]) (λ_ _=>0) (λ_=>False) s₁:=
  ⟨λb o e=>(e₀ b).symm.trans e,λ_ _ e=>e,λ_ _ e=>e,hg,rfl,(λl w e=>by
    cases l with
    |var _=>cases e
    |tmp k=>cases k with
     |zero=>cases e;trivial
     |succ k=>cases e),λl n l' n' i=>(no_cells i).elim,λl n i=>(no_cells i).elim,λa z=>z.elim⟩
 have hv:VsOk (λb=>s₁.heap.get? b) (λ_ _=>0) 0 [.v (.arg (ns.map .int))] [.ref la]:=⟨_,_,rfl,⟨la,ob,xs,n,rfl,ho,hcl,hdt,rep_ints _ hI⟩,rfl⟩;refine wpAny_call (codeAny_mono (c_law H ns (by omega) _ _ _ _ _ callerA s₁ (λz _=>z=.v (.bool true)) ⟨rfl,by decide,by decide⟩ hs hv ⟨rfl,rfl⟩) λr s' h=>?_);obtain⟨val,rfl,g',L',ws',z,ge,sm,ad,hs',rv,rfl⟩:=h;cases(show val=.bool true from rv);exact GoodW.toG ⟨.inl ⟨.bool true,.bool true,[],rfl,λ_=>rfl,.bool _,by with_unfolding_all rfl,λ_=>⟨.nil,λ_ h=>nomatch h⟩⟩,hs'.keepK,hs'.os,hs'.gens⟩
end Mine
theorem PySem.Challenge.cw_nz0034_01_holds : PySem.Challenge.rw_nz0034_01.Holds :=
 Mine.whole
