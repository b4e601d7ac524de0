/- A part of the proof for HistoryApplies: F43 to F68. Printed from longer texts. -/
import Derived.Test.YtjhpceooekjbfaaGreatDoorD
set_option linter.all false
set_option maxHeartbeats 64000000
open And renaming intro->afm
open Array renaming getElem?_eq_getElem->bz
open Bool renaming and_eq_true->dc,and_false->sf,and_true->Ip,eq_iff_iff->Uh,false->ag,false_and->fh,false_eq_true->gp,not_eq_true'->ot,not_false->Mz,not_true->a8s,or_eq_false_iff->K4,or_eq_true->Oi,true->ah,true_and->rv
open Go.IntKind renaming i64->aj,signed->ae8,wrap->Qy
open Go.Proofs.SlLaysF renaming n6->afc
open Go.Shelf renaming Ren->aed
open Int renaming add_zero->JI,le_of_lt->ach,le_of_mul_le_mul_right->Ug,le_total->adk,lt_or_gt_of_ne->JH,lt_or_le->Qz,lt_trichotomy->Xu,mul_comm->Af,mul_eq_zero->Bi,mul_le_mul_of_nonneg_left->Q8,mul_neg->afa,mul_neg_of_neg_of_pos->sG,mul_nonneg->wM,mul_nonneg_of_nonpos_of_nonpos->Ek,mul_nonpos_of_nonneg_of_nonpos->Ar,mul_pos->Ck,mul_pos_of_neg_of_neg->sF,mul_zero->ae9,natCast_add->mu,natCast_nonneg->aw,neg_mul->af9,nonneg_of_mul_nonneg_left->a0s,nonneg_of_mul_nonneg_right->VP,reduceLE->ft,reduceLT->dw,reduceNeg->cu,reduceToNat->fk,zero_mul->Wv
open List renaming all_cons->X8,all_eq_false->iJ,all_eq_true->dg,all_nil->adh,any_eq_true->Bm,append_assoc->uy,append_nil->pt,concat_eq_append->ad3,cons_append->qc,drop->afk,drop_eq_getElem_cons->jx,drop_eq_nil_of_le->Oo,drop_length->Qa,drop_zero->wK,eq_nil_of_length_eq_zero->jf,eraseIdx_eq_take_drop_succ->ta,exists_cons_of_ne_nil->a5m,ext_getElem->Xt,ext_getElem?->wJ,filterMap_some->adv,flatMap_cons->a8x,flatten_cons->VK,flatten_nil->acg,foldl_append->qu,foldl_cons->yb,getD->cz,getD_cons_zero->a1t,getD_eq_getElem?_getD->Bj,getElem?_append_left->kq,getElem?_append_right->l9,getElem?_cons_zero->iw,getElem?_drop->pv,getElem?_eq_getElem->bh,getElem?_map->dn,getElem?_set->u7,getElem_append_left->a8w,getElem_map->Gy,getElem_mem->dj,getElem_take->a8v,length->Ae,length_append->dz,length_cons->cq,length_drop->A0,length_eraseIdx_of_lt->a5k,length_filter_le->tu,length_map->al,length_nil->ew,length_pos_iff->W8,length_reverse->fX,length_set->J8,length_take->ey,map->afi,map_append->fj,map_congr_left->Nj,map_cons->du,map_drop->a1s,map_eq_nil_iff->fw,map_id->af8,map_map->JE,map_nil->ic,map_set->aey,map_take->Mm,mem_append->jz,mem_append_right->nP,mem_cons->fa,mem_cons_of_mem->sD,mem_flatMap->K3,mem_iff_getElem->j0,mem_map->j6,mem_of_getElem?->pw,mem_of_mem_take->sC,mem_or_eq_of_mem_set->a8p,mem_range->er,nil_append->ub,nodup_append->Xs,nodup_iff_pairwise_ne->yi,not_lt->af7,not_mem_nil->kz,pairwise_cons->yh,pairwise_iff_getElem->Cy,pairwise_reverse->ad1,perm_append_singleton->a5j,range->fc,reduceReplicate->cw,replicate->jq,reverse_append->W6,reverse_cons->oq,reverse_nil->rZ,reverse_reverse->ue,set_append_right->nO,sum_append->a8n,sum_cons->a1r,take->afl,take_add_one->j3,take_append_drop->Ej,take_left'->ada,take_length->fm,take_of_length_le->D0,take_zero->My
open List.Perm renaming refl->ae7
open List.cons renaming injEq->iI
open Nat renaming add_assoc->tc,add_left_cancel_iff->i7,add_sub_cancel_left->ac2,add_zero->Ad,le_of_lt->aep,le_refl->bm,le_trans->jg,lt_or_ge->iZ,lt_succ_iff_lt_or_eq->Xq,min_eq_left->rY,mod_add_mod->VL,mod_eq_of_lt->zz,mod_lt->Ht,mod_self->acb,not_lt_zero->a8m,reduceAdd->ak,reduceEqDiff->ab,reduceLeDiff->ao,reduceMul->fp,reducePow->Qw,sub_self->Wu,sub_zero->Wt,zero_add->gj,zero_le->aei
open Option renaming getD_some->jj,isSome->cy,map_eq_some_iff->ax,map_some->jc,none->ae,some->aa,toList_some->JA
open Option.some renaming inj->a8l,injEq->av
open Prod renaming ext->tq,fst->afq
namespace Go.PI
open Go Go.Proofs
def okL(l:List Sp):Bool:=decide (3<=l.length)&&l.all Gl
def D2(ls:List (List Sp)):List (List Sp):=ls.map (Gs (xa (dm ls)) (D5 (dm ls)))
def Hr(ls:List (List Sp)):List (List Sp):=(yp (dm ls) (dm ls).length).2
def eK(ls:List (List Sp)):Bool:=decide (uc ls<=60)&&decide (ls.length<=60)
def w8(ls:List (List Sp)):Bool:=eK ls&&(ls.all okL&&(Ov (dm ls)&&(Qr (dm ls)&&decide (we (D2 ls)=we (Hr ls)))))
def AZ(ls:List (List Sp)):D:=if Hr ls=[]then .cj else kh (we (Hr ls))
theorem Ia{ls:List (List Sp)}(h:∀l∈ls,3<=l.length):zt (dm ls):=by
 have at_:∀(l:List Sp) (k:Nat),l∈ls->k<l.length->u9 l k∈dm ls:=by
  intro l k b c;unfold dm;rw[K3];exact⟨l,b,by unfold jb;exact j6.2 ⟨k,er.2 c,rfl⟩⟩
 have of:∀e∈dm ls,∃l∈ls,∃k,k<l.length/\e=u9 l k:=by
  intro e a;unfold dm at a;obtain⟨l,b,a⟩:=K3.1 a;unfold jb at a;obtain⟨k,c,rfl⟩:=j6.1 a;exact⟨l,b,k,er.1 c,rfl⟩
 refine⟨λe a=>?_,λe a=>?_⟩
 ·obtain⟨l,b,k,c,rfl⟩:=of e a;exact⟨_,at_ l ((k+1)%l.length) b (Ht _ (by lia)),rfl⟩
 obtain⟨l,b,k,c,rfl⟩:=of e a;refine⟨_,at_ l ((k+(l.length-1))%l.length) b (Ht _ (by lia)),?_⟩;have d:=h l b
 have:((k+(l.length-1))%l.length+1)%l.length=k:=by
  rw[VL,show k+(l.length-1)+1=k+l.length by lia,Nat.add_mod_right];exact zz c
 show l.getD (((k+(l.length-1))%l.length+1)%l.length) (0,0)=l.getD k (0,0);rw[this]
theorem GA(es:List Ed)(x:List Ed×List (List Sp))(l:List Ed):x.2.length<=(l.foldl (yn es) x).2.length:=by
 induction l generalizing x with
 |nil=>exact bm _
 |cons e r a=>
  rw[yb];refine jg ?_ (a _);unfold yn;split
  ·exact bm _
  simp
theorem UI{es:List Ed}(h:es≠[]):(yp es es.length).2≠[]:=by
 cases es with
 |nil=>exact absurd rfl h
 |cons e r=>
  intro a;have:=GA (e::r) (yn (e::r) ([],[]) e) r;unfold yp at a;rw[fm,yb]at a;rw[a]at this;simp[yn,Md]at this
theorem TV{ls:List (List Sp)}(h:ls≠[])(c:∀l∈ls,3<=l.length):dm ls≠[]:=by
 intro b;have a:=P5 ls;rw[b]at a
 cases ls with
 |nil=>exact h rfl
 |cons l r=>
  have:=c l (by simp);simp[uc]at a;lia
theorem rT{ls:List (List Sp)}(b:∀l∈ls,3<=l.length):Hr ls=[]<->ls=[]:=by
 constructor
 ·intro h;by_cases a:ls=[]
  ·exact a
  exact absurd h (UI (TV a b))
 rintro rfl;rfl
theorem uD{ls:List (List Sp)}{l:List Sp}(h:l∈ls):l.length<=uc ls:=by
 unfold uc
 induction ls with
 |nil=>simp at h
 |cons x r a=>
  simp only[du,a1r];rcases fa.1 h with rfl|h
  ·lia
  have:=a h;lia
theorem RS{ls:List (List Sp)}{l:List Sp}{s:Sp}(b:l∈ls)(hs:s∈l):∃e∈dm ls,e.1=s:=by
 obtain⟨k,a,rfl⟩:=j0.1 hs;refine⟨u9 l k,?_,?_⟩
 ·unfold dm;rw[K3];exact⟨l,b,by unfold jb;exact j6.2 ⟨k,er.2 a,rfl⟩⟩
 unfold u9;simp[cz,a]
theorem LL(l:List Sp):((fc l.length).any λi=> !Gl (l.getD i (0,0)))= !(l.all Gl):=by
 rw[Uh];simp only[Bm,er,ot,iJ];constructor
 ·rintro⟨i,a,h⟩;refine⟨l[i],dj _,?_⟩
  have:l.getD i (0,0)=l[i]:=by simp[cz,a]
  rw[this]at h;simp[h]
 rintro⟨x,hx,h⟩;obtain⟨i,a,rfl⟩:=j0.1 hx;refine⟨i,a,?_⟩
 have:l.getD i (0,0)=l[i]:=by simp[cz,a]
 rw[this];simpa using h
def VF(ls:List (List Sp))(s':PS):Prop:=
 s'.base=0/\s'.tmp 1= .gz 1 (s'.ba 1) 0/\s'.di 1=aa (.loc [.d (.gd 1 (ls.map λl=>[uu l]))])/\s'.tmp 2= .gz 2 (s'.ba 2) 0/\s'.di 2=aa (.loc [.d .cj])
section
variable{P:Program}(A:Pr3 P){ρ:aed}
theorem a2j(L:afc P ρ)(hρ:ρ.f 6=A.ia)(ls:List (List Sp))(h1:ls.length<=2^30)(h2:∀l∈ls,l.length<=2^30):
  iv P A.zg [.agg [kh ls]] (.Bb [if w8 ls then .agg [AZ ls]else .agg [.cj],.int aj (if w8 ls then 0 else 170)]):=by
 refine ez A.mo A.lM (by simp) ?_;show l7 P (Pk A.uv A.og A.Ao A.qo A.Cf A.Cg A.xf A.ve A.qa A.ny A.iu A.j7) (ly _ _) _;have a3:=WL A.toPr ls h1 h2;have eL:kh ls= .gd 1 (ls.map λl=>[uu l]):=rfl;simp only[eL]at a3;rw[eL];simp only[Pk,go_sem,ab];refine gq a3 ?_
 have a4:eK ls=ag->w8 ls=false:=λh=>by unfold w8;rw[h];rfl
 by_cases c1:(uc ls:Int)>60
 ·have hb:=a4 (by unfold eK;rw[decide_eq_false (by lia)];rfl);rw[hb];simp only[go_sem,ab,reduceCtorEq,c1]
 by_cases c2:(ls.length:Int)>60
 ·have hb:=a4 (by unfold eK;rw[decide_eq_false (show¬ls.length<=60 by lia),sf]);rw[hb];simp only[go_sem,ab,reduceCtorEq,c1,c2,al]
 simp only[go_sem,ab,reduceCtorEq,c1,c2,al];refine wv (λs'=>VF ls s'/\∀l∈ls,okL l=ah) ?_ ?_
 ·refine gf ls.length (λi s'=>VF ls s'/\s'.tmp 23= .d (.gd 1 (ls.map λl=>[uu l]))/\s'.tmp 24= .d (.int aj ls.length)/\s'.tmp 25= .d (.int aj i)/\∀k (h:k<ls.length),k<i->okL ls[k]=ah) ?_ ?_
  ·simp only[VF,go_sem,ab];exact λk _ h=>absurd h (a8m _)
  rintro i s' hi ⟨⟨n,w,v,c,b2⟩,f23,f24,f25,hI⟩;by_cases N:(i:Int)<ls.length
  ·have C:i<ls.length:=by lia
   have wi:=dr ((i:Int)+1) (by lia) (by lia);have hg:=Fo C;have d2:=h2 _ (dj C)
   have ZT:okL ls[i]=ag->w8 ls=false:=λh=>by
    have:ls.all okL=false:=iJ.2 ⟨_,dj C,by rw[h];simp⟩;unfold w8;rw[this];simp
   have EJ:=QC A.toPr (l:=ls[i]) (g:=A.Ao) (j9:=[]) (p:=λk=> !Gl (ls[i].getD k (0,0))) (λk K=>by
    have:ls[i].getD k (0,0)=ls[i][k]:=by simp[cz,K]
    rw[this]
    exact WQ A.toPr _) (by lia)
   rw[LL]at EJ;simp only[uu]at EJ;simp only[go_sem,ab,reduceCtorEq,n,f23,f24,f25,N,hg,bn,aw,al];by_cases c3:(ls[i].length:Int)<3
   ·rw[ZT (by unfold okL;rw[decide_eq_false (show¬3<=ls[i].length by lia)];rfl)];simp only[go_sem,ab,c,b2,c3]
   simp only[go_sem,ab,c3];refine ir EJ ?_;cases c4:ls[i].all Gl
   ·rw[ZT (by unfold okL;rw[c4,sf])];simp only[go_sem,ab,c,b2]
   simp only[VF,go_sem,ab,reduceCtorEq,w,v,c,b2,f23,f24,f25,wi,C];refine⟨by rw[mu];rfl,λk K c0=>?_⟩;rcases Xq.1 c0 with h|rfl
   ·exact hI k K h
   unfold okL;rw[c4,decide_eq_true (show 3<=ls[k].length by lia)];rfl
  have:i=ls.length:=by lia
  subst this;simp only[VF,go_sem,ab,reduceCtorEq,n,w,v,c,b2,f24,f25,N];intro l u;obtain⟨k,K,rfl⟩:=j0.1 u;exact hI k K K
 rintro s' ⟨⟨n,w,v,c,b2⟩,G⟩
 have h3:∀l∈ls,3<=l.length:=λl u=>by
  have:=G l u;unfold okL at this;simp only[dc,decide_eq_true_eq]at this;exact this.1
 have y:∀e∈dm ls,SmL e.1/\SmL e.2:=λe E=>by
  obtain⟨l,u,m1,m2⟩:=qZ E;have:=G l u;unfold okL at this;simp only[dc,dg]at this;exact⟨Sj (this.2 _ m1),Sj (this.2 _ m2)⟩
 have F:=Ia h3
 have b5:(dm ls).length<=60:=by rw[P5];lia
 have W:ls.all okL=true:=dg.2 G
 have En:eK ls=true:=by unfold eK;rw[decide_eq_true (by lia),decide_eq_true (by lia)];rfl
 have j:w8 ls=(Ov (dm ls)&&(Qr (dm ls)&&decide (we (D2 ls)=we (Hr ls)))):=by unfold w8;rw[W,En];rfl
 have J:=CK A.toPr ls h1 (by lia);have a2:=PG A.toPr (dm ls) (by lia) y;have Y:=PR A.toPr (dm ls) (by lia) y;rw[eL]at J;simp only[T3]at J a2 Y;simp only[go_sem,n,w,v];refine gq J ?_;simp only[go_sem,ab];refine gq a2 ?_;cases c5:Ov (dm ls)
 ·rw[c5]at j;rw[j];simp only[go_sem,ab,c,b2,fh]
 simp only[go_sem,ab];refine gq Y ?_;cases c6:Qr (dm ls)
 ·rw[c5,c6]at j;rw[j];simp only[go_sem,ab,c,b2,fh,rv]
 rw[c5,c6]at j;simp only[rv]at j;have Z:=xI A L hρ (dm ls) (by lia) F y;have l8:=HB A (dm ls) (by lia);obtain⟨mo,a1⟩:∃m,Tz (xa (dm ls))= .map m:=⟨_,rfl⟩;obtain⟨mi,a0⟩:∃m,Tz (D5 (dm ls))= .map m:=⟨_,rfl⟩;simp only[T3,a09,a1,a0]at Z l8;have ZS:iv P A.xf [.gd 4 ((dm ls).map Ep)] (.agg [AZ ls]):=Z
 have b4:∀l∈ls,iv P A.qa [.agg [.map mo,.map mi],.gd 2 (l.map Ci)] (.gd 2 ((Gs (xa (dm ls)) (D5 (dm ls)) l).map Ci)):=by
  intro l u
  have N:l.length<=60:=by
   have:=uD u;lia
  have:=HF A (O:=xa (dm ls)) (I:=D5 (dm ls)) l (λh=>by have:=h3 l u;rw[h]at this;simp at this) (by lia) (λp M=>?_) (λp M=>⟨jg ((Wg (dm ls)).2 p M) (by lia),λq hq=>?_⟩) (λp M q hq=>?_)
  ·rw[a1,a0]at this;exact this
  ·obtain⟨e,E,rfl⟩:=RS u M;refine⟨(y e E).1,?_⟩;obtain⟨gg,b9,b6⟩:=F.2 e E;obtain⟨k1,k2⟩:=EP e.1 (dm ls) ⟨gg,b9,b6⟩;obtain⟨a,li,b3⟩:=a5m k2;exact⟨a,li,by rw[k1,b3]⟩
  ·obtain⟨e,E,rfl⟩:=iU (λe=>(e.1,e.2)) (dm ls) p M q hq;exact(y e E).2
  obtain⟨e,E,rfl⟩:=iU (λe=>(e.2,e.1)) (dm ls) p M q hq;exact(y e E).1
 rcases(show(ls=[]/\AZ ls= .cj)\/(ls≠[]/\AZ ls= .gd 1 ((we (Hr ls)).map λl=>[uu l]))by
  unfold AZ;by_cases r:ls=[]
  ·exact .inl ⟨r,bc ((rT h3).2 r)⟩
  exact .inr ⟨r,aq λh=>r ((rT h3).1 h)⟩)with ⟨r,hX⟩|⟨r,hX⟩
 ·rw[hX]at ZS|-;simp only[go_sem,ab];refine gq ZS ?_;simp only[go_sem,ab];refine gq l8 ?_;simp only[go_sem,ab,ak,w,v]
  have a5:ls.length=0:=by rw[r];rfl
  simp only[al,a5];refine wv (λb=>b.base=0/\b.tmp 2= .gz 2 (b.ba 2) 0/\b.di 2=aa (.loc [.d .cj])/\b.tmp 7= .gz 7 (b.ba 7) 0/\b.di 7=aa (.loc [.d .cj])/\b.tmp 9= .d .cj) ?_ ?_
  ·refine gf 0 (λi b=>b.base=0/\b.tmp 2= .gz 2 (b.ba 2) 0/\b.di 2=aa (.loc [.d .cj])/\b.tmp 7= .gz 7 (b.ba 7) 0/\b.di 7=aa (.loc [.d .cj])/\b.tmp 9= .d .cj/\b.tmp 55= .d (.int aj 0)/\b.tmp 56= .d (.int aj 0)) ?_ ?_
   ·simp only[go_sem,ab,c,b2]
   clear n w v c b2;rintro i b hi ⟨n,c,b2,t,s,D,z,B⟩;simp only[go_sem,ab,reduceCtorEq,n,c,b2,t,s,D,z,B]
  clear n w v c b2;rintro b ⟨n,c,b2,t,s,D⟩
  have hd:decide (we (D2 ls)=we (Hr ls))=true:=by subst r;exact decide_eq_true rfl
  rw[hd]at j;rw[j];simp only[go_sem];refine jV (λo=>o.base=0/\o.tmp 2= .gz 2 (o.ba 2) 0/\o.di 2=aa (.loc [.d .cj])/\o.tmp 7= .gz 7 (o.ba 7) 0/\o.di 7=aa (.loc [.d .cj])/\o.tmp 72= .d (.bool ag)) ?_ ?_
  ·simp only[BW,go_sem,ab,n,t,s,D]
   repeat' apply afm
   all_goals
    refine nh (eN A L hρ _ 1000) ?_;simp only[go_sem,ab,PS.ke,PS.mem,t,s];refine Fw (CT A) ?_;simp only[go_sem,ab,c,b2,t,s]
  clear n c b2 t s D;rintro o ⟨n,c,b2,t,s,x⟩;simp only[go_sem,ab,n,c,b2,t,s,x]
 rw[hX]at ZS|-;simp only[go_sem,ab];refine gq ZS ?_;simp only[go_sem,ab];refine gq l8 ?_;simp only[go_sem,ab,ak,w,v,al]
 refine wv (λb=>b.base=0/\b.tmp 2= .gz 2 (b.ba 2) 0/\b.di 2=aa (.loc [.d .cj])/\b.tmp 7= .gz 7 (b.ba 7) 0/\b.di 7=aa (.loc [.d (.gd 1 ((we (Hr ls)).map λl=>[uu l]))])/\
  u0 b 65 1 ((D2 ls).map λl=>[uu l]) (b.tmp 9)) ?_ ?_
 ·refine gf ls.length (λi b=>b.base=0/\b.tmp 1= .gz 1 (b.ba 1) 0/\b.di 1=aa (.loc [.d (.gd 1 (ls.map λl=>[uu l]))])/\b.tmp 2= .gz 2 (b.ba 2) 0/\b.di 2=aa (.loc [.d .cj])/\b.tmp 7= .gz 7 (b.ba 7) 0/\b.di 7=aa (.loc [.d (.gd 1 ((we (Hr ls)).map λl=>[uu l]))])/\
   b.tmp 8= .gz 8 (b.ba 8) 0/\b.di 8=aa (.loc [.d (.map mo),.d (.map mi)])/\b.tmp 54= .d (.gd 1 (ls.map λl=>[uu l]))/\b.tmp 55= .d (.int aj ls.length)/\b.tmp 56= .d (.int aj i)/\
   u0 b 65 1 ((D2 (ls)|>.take i).map λl=>[uu l]) (b.tmp 9)) ?_ ?_
  ·simp only[go_sem,ab,w,v,c,b2,ic];exact u0.nil
  clear n w v c b2;rintro i b hi ⟨n,w,v,c,b2,t,s,f8,b8,R,z,B,acc⟩;by_cases N:(i:Int)<ls.length
  ·have C:i<ls.length:=by lia
   have wi:=dr ((i:Int)+1) (by lia) (by lia);have hg:=Fo C;have hb:=b4 ls[i] (dj _)
   have c8:(D2 ls).take (i+1)=(D2 ls).take i++[Gs (xa (dm ls)) (D5 (dm ls)) ls[i]]:=by
    unfold D2;rw[<-Mm,<-Mm,j3,fj];simp[C]
   have H:(D2 ls).length=ls.length:=by unfold D2;simp
   simp only[go_sem,ab,ak,reduceCtorEq,n,f8,b8,R,z,B,N,hg,bn,aw];refine ir hb ?_;simp only[go_sem,ab,cw];refine r4 (dv:=((D2 ls).take i).map λl=>[uu l]) (ys:=[[uu (Gs (xa (dm ls)) (D5 (dm ls)) ls[i])]]) (osz:=aa 1) ?_ ?_ rfl rfl ?_ (by simp) ?_
   ·simp only[go_sem,ab];exact acc.mono (by simp[ar]) (by simp[ar])
   ·simp only[go_sem,ab,pj];rfl
   ·simp only[al,cq,ew,ey];lia
   intro o g;have Fs:=g.acc (by simp);rw[g.tmp,de]at Fs;simp only[gj]at Fs;have S:=g.ba 1 (by simp[]);have T:=g.ba 2 (by simp[]);have U:=g.ba 7 (by simp[]);have V:=g.ba 8 (by simp[])
   have a6:o.di 1=b.di 1:=by rw[g.di];simp[ar]
   have a7:o.di 2=b.di 2:=by rw[g.di];simp[ar]
   have a8:o.di 7=b.di 7:=by rw[g.di];simp[ar]
   have a9:o.di 8=b.di 8:=by rw[g.di];simp[ar]
   simp only[ar,ab,reduceIte]at S T U V;simp only[go_sem,ab,reduceCtorEq,g.tmp,g.base,w,v,c,b2,t,s,f8,b8,R,z,B,S,T,U,V,a6,a7,a8,a9,wi,C,c8,fj];exact⟨by rw[mu];rfl,Fs.mono rfl rfl⟩
  have:i=ls.length:=by lia
  subst this
  have H:(D2 ls).length=ls.length:=by unfold D2;simp
  rw[<-H,fm]at acc;simp only[go_sem,ab,reduceCtorEq,n,c,b2,t,s,z,B,N];exact acc.mono rfl rfl
 clear n w v c b2;rintro b ⟨n,c,b2,t,s,acc⟩
 have H:(D2 ls).length=ls.length:=by unfold D2;simp
 have X:∀l∈D2 ls,l.length<=2^20:=λl u=>by
  unfold D2 at u;obtain⟨l',c7,rfl⟩:=j6.1 u;unfold Gs;rw[Qu];have:=uD c7;exact jg (tu _ _) (by lia)
 obtain⟨_,_,k3,k4⟩:=U1 F (dm ls).length (bm _);have d1:(Hr ls).length<=60:=jg k3 b5;have c9:=(C2 (D2 ls)).length_eq;have d3:=(C2 (Hr ls)).length_eq;have b0:=xQ A (we (D2 ls)) (we (Hr ls)) (by lia) (by lia) (λl u=>jg (X l ((C2 _).mem_iff.1 u)) (by lia)) (λl u=>jg (k4 l ((C2 _).mem_iff.1 u)) (by lia));rcases acc with ⟨h0,_⟩|⟨_,D,Q⟩
 ·exact absurd (by simpa[D2]using h0) r
 simp only[go_sem]
 refine jV (λo=>o.base=0/\o.tmp 2= .gz 2 (o.ba 2) 0/\o.di 2=aa (.loc [.d .cj])/\o.tmp 7= .gz 7 (o.ba 7) 0/\o.di 7=aa (.loc [.d (.gd 1 ((we (Hr ls)).map λl=>[uu l]))])/\
  o.tmp 72= .d (.bool (!decide (we (D2 ls)=we (Hr ls))))) ?_ ?_
 ·have d0:=λm hb=>xG A L hρ (D2 ls) (by lia) X (m:=m) (id:=65) (ba:=b.ba 65) hb;simp only[al]at D;simp only[BW,go_sem,ab,n,t,s,D]
  repeat' apply afm
  all_goals
   refine nh (d0 _ ?_ rfl 1000) ?_
   ·exact Q
   simp only[go_sem,ab,PS.ke,PS.mem,Wa,t,s];refine jn (ds:=[kh (we (D2 ls)),kh (we (Hr ls)),.qb A.j7 []]) ?_ b0 rfl ?_
   ·simp only[go_sem,al,c9,kh]
   simp only[go_sem,ab,c,b2,t,s]
 clear n c b2 t s D Q;rintro o ⟨n,c,b2,t,s,x⟩;cases hd:decide (we (D2 ls)=we (Hr ls))
 ·rw[hd]at x j;rw[j];simp only[go_sem,ab,n,c,b2,x]
 rw[hd]at x j;rw[j];simp only[go_sem,ab,n,c,b2,t,s,x]
theorem QY(ls:List (List Sp)):(AZ ls).one=true:=by unfold AZ;split<;>rfl
theorem QR(L:afc P ρ)(g:ρ.f 6=A.ia):Mk A.toPr w8:=by
 intro ls d e;have a:=a2j A L g ls d e;refine ez A.mo A.gX (by simp) ?_;show l7 P (O1 A.zg) (ly _ _) _;have c:kh ls= .gd 1 (ls.map λl=>[uu l]):=rfl;rw[c]at a|-;have b:=QY ls;generalize AZ ls=X at a b;simp only[O1,go_sem,ab];refine gq a ?_;cases h:w8 ls
 ·simp only[go_sem,ab]
 cases X<;>first|(cases b;done)|simp only[go_sem,ab]
end
end Go.PI
namespace Go.PI
def gE(p q:Sp):Int:=if(p.1<=0/\0<q.1)/\cn p q<0 then-1 else if(q.1<=0/\0<p.1)/\0<cn p q then 1 else 0
def tT(p q:Sp):Int:=if(0<p.2<->0<q.2)then 0 else if(0<cn p q<->p.2<q.2)then(if p.2<q.2 then 1 else-1)else 0
def nY(p:Sp):Int:=if 0<p.1/\0<p.2 then 1 else 0
def oB(p:Sp):Int:=if p.2=0/\0<p.1 then 1 else 0
def Sg(x s:Int):Prop:=(s= -1/\x<0)\/(s=0/\x=0)\/(s=1/\0<x)
theorem Lo(x:Int):∃s,Sg x s:=by
 rcases Xu x 0 with h|h|h
 ·exact⟨-1,.inl ⟨rfl,h⟩⟩
 ·exact⟨0,.inr (.inl ⟨rfl,h⟩)⟩
 exact⟨1,.inr (.inr ⟨rfl,h⟩)⟩
theorem Ev{x y s t:Int}(a:Sg x s)(b:Sg y t):Sg (x*y) (s*t):=by
 rcases a with ⟨rfl,a⟩|⟨rfl,a⟩|⟨rfl,a⟩<;>rcases b with ⟨rfl,b⟩|⟨rfl,b⟩|⟨rfl,b⟩
 ·exact .inr (.inr ⟨rfl,sF a b⟩)
 ·exact .inr (.inl ⟨rfl,by rw[b,ae9]⟩)
 ·exact .inl ⟨rfl,sG a b⟩
 ·exact .inr (.inl ⟨rfl,by rw[a,Wv]⟩)
 ·exact .inr (.inl ⟨rfl,by rw[a,Wv]⟩)
 ·exact .inr (.inl ⟨rfl,by rw[a,Wv]⟩)
 ·exact .inl ⟨rfl,Int.mul_neg_of_pos_of_neg a b⟩
 ·exact .inr (.inl ⟨rfl,by rw[b,ae9]⟩)
 exact .inr (.inr ⟨rfl,Ck a b⟩)
theorem Tc{x:Int}(h:Sg x 1):0<x:=by unfold Sg at h;lia
theorem Td{x:Int}(h:Sg x (-1)):x<0:=by unfold Sg at h;lia
theorem Tb{x:Int}(h:Sg x 0):x=0:=by unfold Sg at h;lia
theorem XN(p q:Sp)(h:cn p q=0->0<p.1*q.1+p.2*q.2):tT p q-gE p q=nY q-nY p:=by
 obtain⟨a,b⟩:=p;obtain⟨c,d⟩:=q;unfold tT gE nY;unfold cn at h|-;simp only at h|-;obtain⟨m,e⟩:=Lo a;obtain⟨n,hb⟩:=Lo b;obtain⟨o,f⟩:=Lo c;obtain⟨r,g⟩:=Lo d;have i:=Ev e g;have j:=Ev hb f;have k:=Ev e f;have l:=Ev hb g
 generalize a*d=X at*
 generalize b*c=Y at*
 generalize a*c=Z at*
 generalize b*d=W at*
 rcases e with ⟨rfl,e⟩|⟨rfl,e⟩|⟨rfl,e⟩<;>rcases hb with ⟨rfl,hb⟩|⟨rfl,hb⟩|⟨rfl,hb⟩<;>rcases f with ⟨rfl,f⟩|⟨rfl,f⟩|⟨rfl,f⟩<;>rcases g with ⟨rfl,g⟩|⟨rfl,g⟩|⟨rfl,g⟩<;>
  (first|replace i:=Tc i|replace i:=Td i|replace i:=Tb i)<;>(first|replace j:=Tc j|replace j:=Td j|replace j:=Tb j)<;>(first|replace k:=Tc k|replace k:=Td k|replace k:=Tb k)<;>(first|replace l:=Tc l|replace l:=Td l|replace l:=Tb l)<;>
  (repeat' split)<;>lia
theorem DA(p q:Sp)(h:cn p q=0->0<p.1*q.1+p.2*q.2): -(tT (p.2,p.1) (q.2,q.1))=gE p q:=by
 obtain⟨a,b⟩:=p;obtain⟨c,d⟩:=q;unfold tT gE;unfold cn at h|-;simp only at h|-;obtain⟨m,e⟩:=Lo a;obtain⟨n,hb⟩:=Lo b;obtain⟨o,f⟩:=Lo c;obtain⟨r,g⟩:=Lo d;have i:=Ev e g;have j:=Ev hb f;have k:=Ev e f;have l:=Ev hb g
 generalize a*d=X at*
 generalize b*c=Y at*
 generalize a*c=Z at*
 generalize b*d=W at*
 rcases e with ⟨rfl,e⟩|⟨rfl,e⟩|⟨rfl,e⟩<;>rcases hb with ⟨rfl,hb⟩|⟨rfl,hb⟩|⟨rfl,hb⟩<;>rcases f with ⟨rfl,f⟩|⟨rfl,f⟩|⟨rfl,f⟩<;>rcases g with ⟨rfl,g⟩|⟨rfl,g⟩|⟨rfl,g⟩<;>
  (first|replace i:=Tc i|replace i:=Td i|replace i:=Tb i)<;>(first|replace j:=Tc j|replace j:=Td j|replace j:=Tb j)<;>(first|replace k:=Tc k|replace k:=Td k|replace k:=Tb k)<;>(first|replace l:=Tc l|replace l:=Td l|replace l:=Tb l)<;>
  (repeat' split)<;>lia
theorem QL(p q:Sp)(h:cn p q=0->0<p.1*q.1+p.2*q.2):tT p q-gE (-p.2,p.1) (-q.2,q.1)=oB p-oB q:=by
 obtain⟨a,b⟩:=p;obtain⟨c,d⟩:=q;unfold tT gE oB;unfold cn at h|-;simp only at h|-;obtain⟨n,e⟩:=Lo a;obtain⟨o,hb⟩:=Lo b;obtain⟨r,f⟩:=Lo c;obtain⟨s,g⟩:=Lo d;have i:=Ev e g;have j:=Ev hb f;have k:=Ev e f;have l:=Ev hb g;have m: -b*c= -(b*c):=af9 ..;have e2:a* -d= -(a*d):=afa ..;rw[m,e2];clear m e2
 generalize a*d=X at*
 generalize b*c=Y at*
 generalize a*c=Z at*
 generalize b*d=W at*
 rcases e with ⟨rfl,e⟩|⟨rfl,e⟩|⟨rfl,e⟩<;>rcases hb with ⟨rfl,hb⟩|⟨rfl,hb⟩|⟨rfl,hb⟩<;>rcases f with ⟨rfl,f⟩|⟨rfl,f⟩|⟨rfl,f⟩<;>rcases g with ⟨rfl,g⟩|⟨rfl,g⟩|⟨rfl,g⟩<;>
  (first|replace i:=Tc i|replace i:=Td i|replace i:=Tb i)<;>(first|replace j:=Tc j|replace j:=Td j|replace j:=Tb j)<;>(first|replace k:=Tc k|replace k:=Td k|replace k:=Tb k)<;>(first|replace l:=Tc l|replace l:=Td l|replace l:=Tb l)<;>
  (repeat' split)<;>lia
def rel(m p:Sp):Sp:=(2*p.1-m.1,2*p.2-m.2)
theorem S7(m:Sp)(f:Ed):K6 m f=gE (rel m f.1) (rel m f.2):=by
 have e:gu (dbl f.1) (dbl f.2) m=cn (rel m f.1) (rel m f.2):=by
  unfold gu dbl cn rel;simp only[Int.sub_mul,Int.mul_sub];have b:=Af (2*f.2.2) m.1;have c:=Af (2*f.1.2) m.1;have a:=Af (2*f.1.2) (2*f.2.1);have d:=Af (2*f.1.2) (2*f.1.1);have g:=Af (2*f.2.2) (2*f.1.1);have h:=Af m.2 (2*f.2.1);have i:=Af m.2 m.1;lia
 unfold K6 gE;rw[e];simp only[rel]
 congr 1
 ·rw[eq_iff_iff];constructor<;>rintro⟨⟨b,c⟩,a⟩<;>exact⟨⟨by lia,by lia⟩,a⟩
 congr 1
 rw[eq_iff_iff];constructor<;>rintro⟨⟨b,c⟩,a⟩<;>exact⟨⟨by lia,by lia⟩,a⟩
theorem Yz(a:Bool)(m:Sp)(f:Ed):gD a m f=tT (seen a m f.1) (seen a m f.2):=by
 unfold gD tT;generalize seen a m f.1=p;generalize seen a m f.2=q;by_cases b:0<p.2<;>by_cases c:0<q.2<;>by_cases d:0<cn p q<;>by_cases e:p.2<q.2<;>simp[b,c,d,e]
theorem sY(m p:Sp):seen ag m p=rel m p:=rfl
theorem PD(m p:Sp):seen ah m p=((rel m p).2,(rel m p).1):=rfl
theorem Ze(e:Ed)(p:Sp):rel (qd (yw e)) (-p.2,p.1)=(-(rel (qd e) p).2,(rel (qd e) p).1):=by
 unfold rel qd yw;refine tq ?_ ?_
 ·show 2* -p.2-(-e.1.2+ -e.2.2)= -(2*p.2-(e.1.2+e.2.2));lia
 rfl
theorem W9(f g:Nat->Int):∀n,pb f n-pb g n=pb (λk=>f k-g k) n:=by
 intro n
 induction n with
 |zero=>rfl
 |succ n a=>simp only[pb];rw[<-a];lia
theorem pW(f:Nat->Int):∀n,-(pb f n)=pb (λk=> -(f k)) n:=by
 intro n
 induction n with
 |zero=>rfl
 |succ n a=>simp only[pb];rw[<-a];lia
theorem Dg{f g:Nat->Int}:∀n,(∀k,k<n->f k=g k)->pb f n=pb g n:=by
 intro n
 induction n with
 |zero=>intro _;rfl
 |succ n a=>intro h;simp only[pb];rw[a λk b=>h k (by lia),h n (by lia)]
theorem JS(f:Nat->Int)(i:Nat):∀n,i<n->pb (λk=>if k=i then 0 else f k) n=pb f n-f i:=by
 intro n
 induction n with
 |zero=>intro h;lia
 |succ n a=>
  intro h;simp only[pb];by_cases e:n=i
  ·subst e;rw[bc rfl,Dg n (λk b=>aq (by lia))];lia
  rw[aq e,a (by lia)];lia
def Hu(g:Ed->Int)(l:List Ed):Int:=(l.map g).sum
theorem Y0(g:Ed->Int)(l:List Ed):pb (λk=>g (l.getD k e0)) l.length=Hu g l:=by
 have:∀n,n<=l.length->pb (λk=>g (l.getD k e0)) n=Hu g (l.take n):=by
  intro n
  induction n with
  |zero=>intro _;rfl
  |succ n a=>
   intro h;simp only[pb,a (by lia)];unfold Hu;rw[j3,fj,a8n];have:l[n]? =aa l[n]:=bh (by lia);simp[cz,this]
 rw[this _ (bm _),fm]
theorem JR(g:Sp->Int)(l:List Sp):Hu (λe=>g e.2-g e.1) (jb l)=0:=by
 have c:Hu (λe=>g e.2-g e.1) (jb l)=pb (λk=>g (l.getD ((k+1)%l.length) (0,0))-g (l.getD k (0,0))) l.length:=by
  rw[<-Y0,qh];refine Dg _ λk d=>?_
  have:(jb l).getD k e0=u9 l k:=by
   unfold jb;simp[cz,d]
  rw[this];rfl
 rw[c,<-W9]
 cases f:l.length with
 |zero=>rfl
 |succ n=>
  have a1:∀m,m<=n->pb (λk=>g (l.getD ((k+1)%(n+1)) (0,0))) m=pb (λk=>g (l.getD k (0,0))) (m+1)-g (l.getD 0 (0,0)):=by
   intro m
   induction m with
   |zero=>intro _;simp only[pb];lia
   |succ m b=>
    intro h;simp only[pb]at b|-;rw[b (by lia),zz (show m+1<n+1 by lia)];lia
  have a:=a1 n (bm _);simp only[pb]at a|-;rw[a,acb];lia
theorem eH(g:Ed->Int)(a b:List Ed):Hu g (a++b)=Hu g a+Hu g b:=by unfold Hu;rw[fj,a8n]
theorem a2f(g:Sp->Int)(ls:List (List Sp)):Hu (λe=>g e.2-g e.1) (dm ls)=0:=by
 induction ls with
 |nil=>rfl
 |cons l r a=>
  have:dm (l::r)=jb l++dm r:=by unfold dm;rw[a8x]
  rw[this,eH,a,JR];rfl
def wH(es:List Ed)(i:Nat):Prop:=∀k,k<es.length->k≠i->cn (rel (qd (es.getD i e0)) (es.getD k e0).1) (rel (qd (es.getD i e0)) (es.getD k e0).2)=0->
 0<(rel (qd (es.getD i e0)) (es.getD k e0).1).1*(rel (qd (es.getD i e0)) (es.getD k e0).2).1+(rel (qd (es.getD i e0)) (es.getD k e0).1).2*(rel (qd (es.getD i e0)) (es.getD k e0).2).2
theorem G9(es:List Ed)(k:Nat):(es.map yw).getD k e0=yw (es.getD k e0):=by
 simp only[cz,dn]
 cases es[k]? with
 |none=>simp[yw,e0]
 |some e=>rfl
theorem BJ{ls:List (List Sp)}(g:Sp->Int){i:Nat}(a:i<(dm ls).length):
  pb (λk=>if k=i then 0 else g ((dm ls).getD k e0).2-g ((dm ls).getD k e0).1) (dm ls).length=g ((dm ls).getD i e0).1-g ((dm ls).getD i e0).2:=by
 rw[JS (λk=>g ((dm ls).getD k e0).2-g ((dm ls).getD k e0).1) i _ a,Y0 (λe=>g e.2-g e.1),a2f];lia
theorem rA{ls:List (List Sp)}{i:Nat}(r:i<(dm ls).length)(n:wH (dm ls) i)(s:((dm ls).getD i e0).1≠((dm ls).getD i e0).2):Zt (dm ls) i=U9 (dm ls) i:=by
 have hb:=λg=>BJ (ls:=ls) g r
 generalize dm ls=es at*
 have x:∀l k,k<es.length->(if k=i then(0:Int)else gD l (qd (es.getD i e0)) (es.getD k e0))=if k=i then 0 else tT (seen l (qd (es.getD i e0)) (es.getD k e0).1) (seen l (qd (es.getD i e0)) (es.getD k e0).2):=λl k _=>by rw[Yz]
 unfold Zt U9;by_cases q:(es.getD i e0).1.1=(es.getD i e0).2.1
 ·have a:swE (es.getD i e0)=false:=by
   unfold swE;simp only[beq_eq_false_iff_ne];intro h;exact s (tq q h)
  rw[bc q,a];unfold Tn;rw[al,G9];have o:=hb λp=>oB (rel (qd (es.getD i e0)) p)
  have c:pb (wAt es i) es.length-pb (Ta (es.map yw) i) es.length=pb (λk=> -(if k=i then 0 else oB (rel (qd (es.getD i e0)) (es.getD k e0).2)-oB (rel (qd (es.getD i e0)) (es.getD k e0).1))) es.length:=by
   rw[W9];refine Dg _ λk f=>?_;unfold wAt Ta;rw[a,G9,G9];by_cases e:k=i
   ·simp only[e,da];rfl
   simp only[aq e];rw[Yz,S7,sY,sY];have:=QL _ _ (n k f e);have t1:rel (qd (yw (es.getD i e0))) (yw (es.getD k e0)).1=(-(rel (qd (es.getD i e0)) (es.getD k e0).1).2,(rel (qd (es.getD i e0)) (es.getD k e0).1).1):=Ze _ _;have t2:rel (qd (yw (es.getD i e0))) (yw (es.getD k e0)).2=(-(rel (qd (es.getD i e0)) (es.getD k e0).2).2,(rel (qd (es.getD i e0)) (es.getD k e0).2).1):=Ze _ _;rw[t1,t2];lia
  rw[<-pW,o]at c
  have u:oB (rel (qd (es.getD i e0)) (es.getD i e0).1)=0:=by
   unfold oB rel qd;rw[aq];simp only;lia
  have v:oB (rel (qd (es.getD i e0)) (es.getD i e0).2)=0:=by
   unfold oB rel qd;rw[aq];simp only;lia
  rw[u,v]at c
  have t:(if(decide ((vw ag (es.getD i e0).1).2<(vw ag (es.getD i e0).2).2)== !ag)=ah then(1:Int)else 0)=if(yw (es.getD i e0)).2.1<(yw (es.getD i e0)).1.1 then 1 else 0:=by
   have:(yw (es.getD i e0)).2.1<(yw (es.getD i e0)).1.1<->(es.getD i e0).1.2<(es.getD i e0).2.2:=by
    show-(es.getD i e0).2.2< -(es.getD i e0).1.2<->_;lia
   simp only[vw,this];by_cases h:(es.getD i e0).1.2<(es.getD i e0).2.2<;>simp[]
  rw[t];simp only[gp,bp];lia
 rw[aq q];unfold Tn;cases a:swE (es.getD i e0)
 ·have w:(es.getD i e0).1.2≠(es.getD i e0).2.2:=by
   unfold swE at a;simpa using a
  have o:=hb λp=>nY (rel (qd (es.getD i e0)) p)
  have c:pb (wAt es i) es.length-pb (Ta es i) es.length=pb (λk=>(if k=i then 0 else nY (rel (qd (es.getD i e0)) (es.getD k e0).2)-nY (rel (qd (es.getD i e0)) (es.getD k e0).1))) es.length:=by
   rw[W9];refine Dg _ λk f=>?_;unfold wAt Ta;rw[a];by_cases e:k=i
   ·simp only[e,da];rfl
   simp only[aq e];rw[Yz,S7,sY,sY];exact XN _ _ (n k f e)
  rw[o]at c;simp only[gp,bp,vw]
  have q1:nY (rel (qd (es.getD i e0)) (es.getD i e0).1)=if(es.getD i e0).2.1<(es.getD i e0).1.1/\(es.getD i e0).2.2<(es.getD i e0).1.2 then 1 else 0:=by
   unfold nY rel qd;simp only
   congr 1
   rw[eq_iff_iff];lia
  have q2:nY (rel (qd (es.getD i e0)) (es.getD i e0).2)=if(es.getD i e0).1.1<(es.getD i e0).2.1/\(es.getD i e0).1.2<(es.getD i e0).2.2 then 1 else 0:=by
   unfold nY rel qd;simp only
   congr 1
   rw[eq_iff_iff];lia
  rw[q1,q2]at c;by_cases d:(es.getD i e0).1.1<(es.getD i e0).2.1<;>by_cases j:(es.getD i e0).1.2<(es.getD i e0).2.2
  ·have b:¬(es.getD i e0).2.1<(es.getD i e0).1.1:=by lia
   simp only[d,j,b,decide_true,and_self,false_and,da,bp,Mz,ff]at c|-;lia
  ·have b:¬(es.getD i e0).2.1<(es.getD i e0).1.1:=by lia
   simp only[d,j,b,decide_false,and_false,false_and,bp,Mz]at c|-;simp;lia
  ·have b:(es.getD i e0).2.1<(es.getD i e0).1.1:=by lia
   have m:¬(es.getD i e0).2.2<(es.getD i e0).1.2:=by lia
   simp only[d,j,b,m,decide_true,and_true,and_false,da,bp,Mz,ff]at c|-;lia
  have b:(es.getD i e0).2.1<(es.getD i e0).1.1:=by lia
  have m:(es.getD i e0).2.2<(es.getD i e0).1.2:=by lia
  simp only[d,j,b,m,decide_false,and_self,da,bp,Mz]at c|-;simp;lia
 have c: -(pb (wAt es i) es.length)=pb (Ta es i) es.length:=by
  rw[pW];refine Dg _ λk f=>?_;unfold wAt Ta;rw[a];by_cases e:k=i
  ·simp only[e,da];rfl
  simp only[aq e];rw[Yz,S7,PD,PD];exact DA _ _ (n k f e)
 simp only[da,c,vw,a8s];by_cases d:(es.getD i e0).1.1<(es.getD i e0).2.1
 ·have b:¬(es.getD i e0).2.1<(es.getD i e0).1.1:=by lia
  rw[decide_eq_true d,aq (show¬(((ah:Bool)==ag)=ah)by decide),aq b]
 have b:(es.getD i e0).2.1<(es.getD i e0).1.1:=by lia
 rw[decide_eq_false d,bc (show(((ag:Bool)==ag)=ah)by decide),bc b]
theorem XU(u v:Sp)(h:cn u v=0)(m:u.1*v.1+u.2*v.2<0):((u.1<=0/\0<=v.1)\/(v.1<=0/\0<=u.1))/\((u.2<=0/\0<=v.2)\/(v.2<=0/\0<=u.2)):=by
 obtain⟨a,b⟩:=u;obtain⟨c,d⟩:=v;unfold cn at h;simp only at h m|-;obtain⟨n,f⟩:=Lo a;obtain⟨o,hb⟩:=Lo b;obtain⟨p,g⟩:=Lo c;obtain⟨q,e⟩:=Lo d;have i:=Ev f e;have j:=Ev hb g;have k:=Ev f g;have l:=Ev hb e
 generalize a*d=X at*
 generalize b*c=Y at*
 generalize a*c=Z at*
 generalize b*d=W at*
 rcases f with ⟨rfl,f⟩|⟨rfl,f⟩|⟨rfl,f⟩<;>rcases hb with ⟨rfl,hb⟩|⟨rfl,hb⟩|⟨rfl,hb⟩<;>rcases g with ⟨rfl,g⟩|⟨rfl,g⟩|⟨rfl,g⟩<;>rcases e with ⟨rfl,e⟩|⟨rfl,e⟩|⟨rfl,e⟩<;>
  (first|replace i:=Tc i|replace i:=Td i|replace i:=Tb i)<;>(first|replace j:=Tc j|replace j:=Td j|replace j:=Tb j)<;>(first|replace k:=Tc k|replace k:=Td k|replace k:=Tb k)<;>(first|replace l:=Tc l|replace l:=Td l|replace l:=Tb l)<;>
  lia
theorem Wn(a b p:Sp):gu a b p=cn (dq a p) (dq b p):=by
 unfold gu cn dq;simp only[Int.sub_mul,Int.mul_sub];have c:=Af b.1 p.2;have d:=Af b.2 p.1;have e:=Af a.1 p.2;have f:=Af a.2 p.1;have g:=Af a.1 b.2;have h:=Af a.2 b.1;have i:=Af p.1 p.2;have j:=Af a.1 a.2;lia
theorem SZ{e:Ed}{p:Sp}(h:lF e p=ah):onB e p=ah/\p≠e.1/\p≠e.2:=by
 unfold lF at h;simp only[dc,beq_iff_eq,decide_eq_true_eq]at h;obtain⟨b,a⟩:=h;have hb:=XU (dq e.1 p) (dq e.2 p) b a;refine⟨?_,?_,?_⟩
 ·unfold onB;simp only[dc,beq_iff_eq,decide_eq_true_eq];refine⟨by rw[Wn];exact b,?_⟩;simp only[dq]at hb;unfold mn mx;refine⟨?_,?_,?_,?_⟩<;>split<;>lia
 ·rintro rfl;simp at a
 rintro rfl;simp at a
theorem rp{es:List Ed}(h:ye es=ah){i:Nat}(b:i<es.length):(es.getD i e0).1≠(es.getD i e0).2/\∀k,k<es.length->Zy (es.getD i e0) (es.getD k e0)=ag/\X7 i k (es.getD i e0) (es.getD k e0)=false:=by
 unfold ye at h;have a:=dg.1 h i (er.2 b);unfold Ty at a;simp only[dc,ot]at a;refine⟨λq=>?_,λk c=>?_⟩
 ·have:=a.1;rw[r9.2 q]at this;cases this
 have:=dg.1 a.2 k (er.2 c);simpa using this
theorem JX{es:List Ed}(h:ye es=ah):Ov es=true:=by
 unfold Ov;rw[dc];refine⟨dg.2 λi a=>?_,dg.2 λi a=>dg.2 λk b=>?_⟩
 ·have a:=er.1 a;obtain⟨l,d⟩:=rp h a
  have get:∀f,f∈es.take i->∃k,k<i/\k<es.length/\es.getD k e0=f:=λf m=>by
   obtain⟨k,b,rfl⟩:=j0.1 m;simp only[ey]at b;refine⟨k,by lia,by lia,?_⟩;simp[cz,show k<es.length by lia]
  unfold Xb;simp only[dc,ot];refine⟨?_,?_,?_⟩
  ·cases hs:w9 (es.getD i e0).1 (es.getD i e0).2
   ·rfl
   exact absurd (r9.1 hs) l
  ·cases j:Md (es.take i) (es.getD i e0)
   ·rfl
   obtain⟨k,b,c,g⟩:=get _ (F3.1 j);have:=(d k c).2;rw[g]at this;unfold X7 at this;rw[decide_eq_true (show i≠k by lia)]at this;simp[X6]at this
  cases j:Md (es.take i) (nW (es.getD i e0))
  ·rfl
  obtain⟨k,b,c,g⟩:=get _ (F3.1 j);have:=(d k c).2;rw[g]at this;unfold X7 at this;rw[decide_eq_true (show i≠k by lia)]at this;simp[nW,w9]at this
 have a:=er.1 a;have b:=er.1 b;obtain⟨l,d⟩:=rp h a;have e:=(d k b).1;unfold Zy at e;rw[K4]at e;unfold Uy;simp only[dc,ot];refine⟨?_,?_⟩
 ·cases n:lF (es.getD i e0) (es.getD k e0).1
  ·rfl
  obtain⟨o,p,r⟩:=SZ n;have:=e.1;rw[o]at this
  have n1:w9 (es.getD k e0).1 (es.getD i e0).1=false:=by
   cases q:w9 (es.getD k e0).1 (es.getD i e0).1
   ·rfl
   exact absurd (r9.1 q) p
  have n2:w9 (es.getD k e0).1 (es.getD i e0).2=false:=by
   cases q:w9 (es.getD k e0).1 (es.getD i e0).2
   ·rfl
   exact absurd (r9.1 q) r
  rw[n1,n2]at this;cases this
 rw[e.2,sf]
theorem DR(a b A:Sp):2*gu a b A=cn (dq b a) (rel (a.1+b.1,a.2+b.2) A):=by
 unfold gu cn dq rel;simp only
 grind
theorem a3x(a b A B:Sp):4*gu A B a=cn (dq b a) (rel (a.1+b.1,a.2+b.2) B)-cn (dq b a) (rel (a.1+b.1,a.2+b.2) A)+cn (rel (a.1+b.1,a.2+b.2) A) (rel (a.1+b.1,a.2+b.2) B):=by
 unfold gu cn dq rel;simp only
 grind
theorem a6l(a b A B:Sp):4*gu A B b=cn (dq b a) (rel (a.1+b.1,a.2+b.2) A)-cn (dq b a) (rel (a.1+b.1,a.2+b.2) B)+cn (rel (a.1+b.1,a.2+b.2) A) (rel (a.1+b.1,a.2+b.2) B):=by
 unfold gu cn dq rel;simp only
 grind
theorem plu(d p q:Sp)(h:cn p q=0):cn d p*q.1=cn d q*p.1/\cn d p*q.2=cn d q*p.2:=by
 unfold cn at*
 constructor<;>grind
theorem GX{X Y p q:Int}(e:0<X)(f:0<Y)(h:X*q=Y*p):(p=0/\q=0)\/0<p*q:=by
 obtain⟨s,hs⟩:=Lo p;obtain⟨t,b⟩:=Lo q;have a:=Ev (x:=X) (s:=1) (.inr (.inr ⟨rfl,e⟩)) b;have c:=Ev (x:=Y) (s:=1) (.inr (.inr ⟨rfl,f⟩)) hs;have d:=Ev hs b;rw[h]at a
 generalize Y*p=Z at*
 generalize p*q=W at*
 rcases hs with ⟨rfl,hs⟩|⟨rfl,hs⟩|⟨rfl,hs⟩<;>rcases b with ⟨rfl,b⟩|⟨rfl,b⟩|⟨rfl,b⟩<;>
  (first|replace a:=Tc a|replace a:=Td a|replace a:=Tb a)<;>(first|replace c:=Tc c|replace c:=Td c|replace c:=Tb c)<;>(first|replace d:=Tc d|replace d:=Td d|replace d:=Tb d)<;>lia
theorem yO{d p q:Sp}(h:cn p q=0)(i:p.1*q.1+p.2*q.2<=0)(f:0<cn d p)(g:0<cn d q):False:=by
 obtain⟨j,e2⟩:=plu d p q h;have k:=GX f g j;have l:=GX f g e2
 have z:p.1=0/\p.2=0:=by
  rcases k with ⟨a,b⟩|a<;>rcases l with ⟨c,e⟩|c
  ·exact⟨a,c⟩
  ·rw[a,Wv]at i;lia
  ·rw[c,Wv]at i;lia
  lia
 unfold cn at f;rw[z.1,z.2]at f;simp at f
theorem mR(d p:Sp):cn (-d.1,-d.2) p= -(cn d p):=by
 unfold cn;simp only
 grind
theorem MA{a b A B:Sp}(h:cn (rel (a.1+b.1,a.2+b.2) A) (rel (a.1+b.1,a.2+b.2) B)=0)
  (g:(rel (a.1+b.1,a.2+b.2) A).1*(rel (a.1+b.1,a.2+b.2) B).1+(rel (a.1+b.1,a.2+b.2) A).2*(rel (a.1+b.1,a.2+b.2) B).2<=0)(hx:Cx (a,b) (A,B)=ag):
  gu a b A=0\/gu a b B=0:=by
 have m:=DR a b A;have e2:=DR a b B;have k:=a3x a b A B;have l:=a6l a b A B;rw[h]at k l;by_cases i:gu a b A=0
 ·exact .inl i
 by_cases j:gu a b B=0
 ·exact .inr j
 exfalso;have n1:¬(0<gu a b A/\0<gu a b B):=λ⟨q1,q2⟩=>yO (d:=dq b a) h g (by lia) (by lia);have n2:¬(gu a b A<0/\gu a b B<0):=λ⟨q1,q2⟩=>yO (d:=(-(dq b a).1,-(dq b a).2)) h g (by rw[mR];lia) (by rw[mR];lia);unfold Cx sgn at hx;simp only at hx;rcases JH i with c|c<;>rcases JH j with e|e
 ·exact n2 ⟨c,e⟩
 ·have c1:gu A B a>0:=by lia
  have f:gu A B b<0:=by lia
  rw[bc c,aq (show¬gu a b B<0 by lia),bc e,aq (show¬gu A B a<0 by lia),bc c1,bc f]at hx;simp at hx
 ·have c1:gu A B a<0:=by lia
  have f:gu A B b>0:=by lia
  rw[aq (show¬gu a b A<0 by lia),bc c,bc e,bc c1,aq (show¬gu A B b<0 by lia),bc f]at hx;simp at hx
 exact n1 ⟨c,e⟩
theorem RO{a b A:Sp}(c:a≠b)(e:2*A.1=a.1+b.1)(f:2*A.2=a.2+b.2)(d:gu a b A=0):onB (a,b) A=ah/\A≠a/\A≠b:=by
 refine⟨?_,?_,?_⟩
 ·unfold onB mn mx;simp only[dc,beq_iff_eq,decide_eq_true_eq];refine⟨d,?_,?_,?_,?_⟩<;>split<;>lia
 ·rintro rfl;exact c (tq (by lia) (by lia))
 rintro rfl;exact c (tq (by lia) (by lia))
theorem HT{a b A B:Sp}(h:cn (rel (a.1+b.1,a.2+b.2) A) (rel (a.1+b.1,a.2+b.2) B)=0)(f:gu a b A=0)(j:gu a b B≠0):2*A.1=a.1+b.1/\2*A.2=a.2+b.2:=by
 have e:=DR a b A;have e2:=DR a b B;obtain⟨c,d⟩:=plu (dq b a) _ _ h;rw[<-e,f]at c d;rw[<-e2]at c d;simp only[ae9,Wv]at c d
 have n:2*gu a b B≠0:=by lia
 have g:=(Bi.1 c.symm).resolve_left n;have i:=(Bi.1 d.symm).resolve_left n;simp only[rel]at g i;lia
theorem along{a b A:Sp}(h:gu a b A=0):cn (dq b a) (rel (a.1+b.1,a.2+b.2) A)=0:=by
 rw[<-DR,h];rfl
theorem IT{d1 d2 x1 x2:Int}(h:d1*x2=d2*x1)(a:0<=x1)(b:x1<=d1)(c:0<d1)(g:0<d2):0<=x2/\x2<=d2:=by
 constructor
 ·have d:0<=d1*x2:=by rw[h];exact wM (by lia) a
  exact VP d c
 have e:d1*x2<=d1*d2:=by rw[h,Af d1 d2];exact Q8 b (by lia)
 exact Int.le_of_mul_le_mul_left e c
theorem a0h{d1 d2 x1 x2:Int}(h:d1*x2=d2*x1)(j:d1≠0)(k:(0<=x1/\x1<=d1)\/(d1<=x1/\x1<=0)):(0<=x2/\x2<=d2)\/(d2<=x2/\x2<=0):=by
 have a:∀(b c:Int),0<b->0<=c->c<=b->b*x2=d2*c->(0<=x2/\x2<=d2)\/(d2<=x2/\x2<=0):=by
  intro b c e f i d;rcases Xu d2 0 with g|g|g
  ·have:=IT (d1:=b) (d2:= -d2) (x1:=c) (x2:= -x2) (by rw[afa,af9,d]) f i e (by lia);lia
  ·subst g;rw[Wv]at d;have:=(Bi.1 d).resolve_left (by lia);lia
  exact .inl (IT d f i e g)
 rcases JH j with g|g
 ·exact a (-d1) (-x1) (by lia) (by lia) (by lia) (by rw[af9,afa,h])
 exact a d1 x1 g (by lia) (by lia) h
theorem a3f{a b x:Sp}(h:gu a b x=0)(c:(a.1<=x.1/\x.1<=b.1)\/(b.1<=x.1/\x.1<=a.1))(d:(a.2<=x.2/\x.2<=b.2)\/(b.2<=x.2/\x.2<=a.2)):onB (a,b) x=true:=by
 unfold onB mn mx;simp only[dc,beq_iff_eq,decide_eq_true_eq];refine⟨h,?_,?_,?_,?_⟩<;>split<;>lia
theorem tY{a b x:Sp}(h:onB ((a.2,a.1),(b.2,b.1)) (x.2,x.1)=ah):onB (a,b) x=true:=by
 unfold onB at*
 simp only[dc,beq_iff_eq,decide_eq_true_eq]at*
 obtain⟨g,c,d,e,f⟩:=h;refine⟨?_,e,f,c,d⟩
 have:gu (a.2,a.1) (b.2,b.1) (x.2,x.1)= -(gu a b x):=by
  unfold gu;simp only
  grind
 lia
theorem uM{a b x:Sp}(h:gu a b x=0)(d:a.1≠b.1)(c:(a.1<x.1/\x.1<b.1)\/(b.1<x.1/\x.1<a.1)):onB (a,b) x=ah/\x≠a/\x≠b:=by
 have e:(b.1-a.1)*(x.2-a.2)=(b.2-a.2)*(x.1-a.1):=by
  unfold gu at h
  grind
 have:=a0h e (by lia) (by lia);refine⟨a3f h (by lia) (by lia),?_,?_⟩
 ·rintro rfl;lia
 rintro rfl;lia
theorem kK{a b A B:Sp}(i:a.1≠b.1)(d:gu a b A=0)(f:gu a b B=0)
  (y:(rel (a.1+b.1,a.2+b.2) A).1*(rel (a.1+b.1,a.2+b.2) B).1+(rel (a.1+b.1,a.2+b.2) A).2*(rel (a.1+b.1,a.2+b.2) B).2<=0):
  (onB (a,b) A=ah/\A≠a/\A≠b)\/(onB (a,b) B=ah/\B≠a/\B≠b)\/(onB (A,B) a=ah/\a≠A/\a≠B)\/(onB (A,B) b=ah/\b≠A/\b≠B)\/(A=a/\B=b)\/(A=b/\B=a):=by
 have z:=along d;have C:=along f;have m:=a3x a b A B;have n:=a6l a b A B;rw[z,C]at m n
 have w:cn (rel (a.1+b.1,a.2+b.2) A) (rel (a.1+b.1,a.2+b.2) B)=0:=by
  have:(b.1-a.1)*cn (rel (a.1+b.1,a.2+b.2) A) (rel (a.1+b.1,a.2+b.2) B)=0:=by
   unfold cn dq at*
   simp only at*
   grind
  exact(Bi.1 this).resolve_left (by lia)
 rw[w]at m n
 have s:gu A B a=0:=by lia
 have t:gu A B b=0:=by lia
 have F:(rel (a.1+b.1,a.2+b.2) A).1*(rel (a.1+b.1,a.2+b.2) B).1<=0:=by
  have e:(b.1-a.1)*(b.1-a.1)*((rel (a.1+b.1,a.2+b.2) A).1*(rel (a.1+b.1,a.2+b.2) B).1+(rel (a.1+b.1,a.2+b.2) A).2*(rel (a.1+b.1,a.2+b.2) B).2)=((b.1-a.1)*(b.1-a.1)+(b.2-a.2)*(b.2-a.2))*((rel (a.1+b.1,a.2+b.2) A).1*(rel (a.1+b.1,a.2+b.2) B).1):=by
   unfold cn dq at*
   simp only at*
   grind
  have D:0<(b.1-a.1)*(b.1-a.1):=by
   rcases JH i with g|g
   ·exact Ck (by lia) (by lia)
   exact sF (by lia) (by lia)
  have G:0<=(b.2-a.2)*(b.2-a.2):=by
   rcases adk a.2 b.2 with g|g
   ·exact wM (by lia) (by lia)
   exact Ek (by lia) (by lia)
  have E:=Ar (ach D) y;rw[e]at E;rcases Qz 0 ((rel (a.1+b.1,a.2+b.2) A).1*(rel (a.1+b.1,a.2+b.2) B).1)with g|g
  ·have:=Ck (show 0<(b.1-a.1)*(b.1-a.1)+(b.2-a.2)*(b.2-a.2)by lia) g;lia
  exact g
 have hs:((rel (a.1+b.1,a.2+b.2) A).1<=0/\0<=(rel (a.1+b.1,a.2+b.2) B).1)\/((rel (a.1+b.1,a.2+b.2) B).1<=0/\0<=(rel (a.1+b.1,a.2+b.2) A).1):=by
  generalize(rel (a.1+b.1,a.2+b.2) A).1=p at*
  generalize(rel (a.1+b.1,a.2+b.2) B).1=q at*
  rcases Qz 0 p with g|g<;>rcases Qz 0 q with j|j
  ·have:=Ck g j;lia
  ·lia
  ·lia
  rcases Qz p 0 with k|k<;>rcases Qz q 0 with l|l
  ·have:=sF k l;lia
  all_goals lia
 simp only[rel]at hs
 have eqs:∀{x:Sp},gu a b x=0->x.1=a.1->x=a:=λ{x} h e=>by
  have:(b.1-a.1)*(x.2-a.2)=0:=by
   unfold gu at h
   grind
  have:=(Bi.1 this).resolve_left (by lia);exact tq e (by lia)
 have c:∀{x:Sp},gu a b x=0->x.1=b.1->x=b:=λ{x} h e=>by
  have:(b.1-a.1)*(x.2-b.2)=0:=by
   unfold gu at h
   grind
  have:=(Bi.1 this).resolve_left (by lia);exact tq e (by lia)
 by_cases c1:(a.1<A.1/\A.1<b.1)\/(b.1<A.1/\A.1<a.1)
 ·exact .inl (uM d i c1)
 by_cases o:(a.1<B.1/\B.1<b.1)\/(b.1<B.1/\B.1<a.1)
 ·exact .inr (.inl (uM f i o))
 by_cases c3:(A.1<a.1/\a.1<B.1)\/(B.1<a.1/\a.1<A.1)
 ·exact .inr (.inr (.inl (uM s (by lia) c3)))
 by_cases r:(A.1<b.1/\b.1<B.1)\/(B.1<b.1/\b.1<A.1)
 ·exact .inr (.inr (.inr (.inl (uM t (by lia) r))))
 have:(A.1=a.1/\B.1=b.1)\/(A.1=b.1/\B.1=a.1):=by lia
 rcases this with ⟨u,v⟩|⟨u,v⟩
 ·exact .inr (.inr (.inr (.inr (.inl ⟨eqs d u,c f v⟩))))
 exact .inr (.inr (.inr (.inr (.inr ⟨c d u,eqs f v⟩))))
theorem MF{a b A B:Sp}(l:a≠b)(f:gu a b A=0)(g:gu a b B=0)
  (k:(rel (a.1+b.1,a.2+b.2) A).1*(rel (a.1+b.1,a.2+b.2) B).1+(rel (a.1+b.1,a.2+b.2) A).2*(rel (a.1+b.1,a.2+b.2) B).2<=0):
  (onB (a,b) A=ah/\A≠a/\A≠b)\/(onB (a,b) B=ah/\B≠a/\B≠b)\/(onB (A,B) a=ah/\a≠A/\a≠B)\/(onB (A,B) b=ah/\b≠A/\b≠B)\/(A=a/\B=b)\/(A=b/\B=a):=by
 by_cases j:a.1=b.1
 ·have i:a.2≠b.2:=λh=>l (tq j h)
  have c:∀x y z:Sp,gu (x.2,x.1) (y.2,y.1) (z.2,z.1)= -(gu x y z):=λx y z=>by
   unfold gu;simp only
   grind
  have ne:∀{x y:Sp},((x.2,x.1):Sp)≠(y.2,y.1)->x≠y:=λ{x y} h e=>h (by rw[e])
  have d:∀{x y:Sp},((x.2,x.1):Sp)=(y.2,y.1)->x=y:=λ{x y} h=>by
   have f:=congrArg afq h;have g:=congrArg Prod.snd h;exact tq g f
  have:=kK (a:=(a.2,a.1)) (b:=(b.2,b.1)) (A:=(A.2,A.1)) (B:=(B.2,B.1)) i (by rw[c];lia) (by rw[c];lia) (by
   show(rel (a.1+b.1,a.2+b.2) A).2*(rel (a.1+b.1,a.2+b.2) B).2+(rel (a.1+b.1,a.2+b.2) A).1*(rel (a.1+b.1,a.2+b.2) B).1<=0
   lia)
  rcases this with ⟨p,q,r⟩|⟨p,q,r⟩|⟨p,q,r⟩|⟨p,q,r⟩|⟨p,q⟩|⟨p,q⟩
  ·exact .inl ⟨tY p,ne q,ne r⟩
  ·exact .inr (.inl ⟨tY p,ne q,ne r⟩)
  ·exact .inr (.inr (.inl ⟨tY p,ne q,ne r⟩))
  ·exact .inr (.inr (.inr (.inl ⟨tY p,ne q,ne r⟩)))
  ·exact .inr (.inr (.inr (.inr (.inl ⟨d p,d q⟩))))
  exact .inr (.inr (.inr (.inr (.inr ⟨d p,d q⟩))))
 exact kK j f g k
theorem Ms{e f:Ed}(h:Zy e f=ag):Cx e f=ag/\¬(onB e f.1=ah/\f.1≠e.1/\f.1≠e.2):=by
 unfold Zy at h;rw[K4]at h;refine⟨h.2,λ⟨a,b,c⟩=>?_⟩;have:=h.1;rw[a]at this
 have n1:w9 f.1 e.1=false:=by
  cases q:w9 f.1 e.1
  ·rfl
  exact absurd (r9.1 q) b
 have n2:w9 f.1 e.2=false:=by
  cases q:w9 f.1 e.2
  ·rfl
  exact absurd (r9.1 q) c
 rw[n1,n2]at this;cases this
theorem Zm{i k:Nat}{e f:Ed}(h:X7 i k e f=ag)(c:i≠k):e≠f/\¬(e.1=f.2/\e.2=f.1):=by
 unfold X7 at h;rw[decide_eq_true c,rv,K4]at h;refine⟨?_,λ⟨a,b⟩=>?_⟩
 ·rintro rfl;have:=h.1;simp[X6]at this
 have:=h.2;rw[r9.2 a,r9.2 b]at this;cases this
theorem L8{es:List Ed}{k:Nat}(h:k<es.length):es.getD k e0∈es:=by
 simp only[cz,bh h,jj];exact dj h
theorem v7{es:List Ed}{e:Ed}(h:e∈es):∃k,k<es.length/\es.getD k e0=e:=by
 obtain⟨k,a,rfl⟩:=j0.1 h;exact⟨k,a,by simp[cz,a]⟩
theorem kD{es:List Ed}(h:ye es=ah)(y:zt es){i:Nat}(w:i<es.length):wH es i:=by
 intro k l F j;rcases Qz 0 ((rel (qd (es.getD i e0)) (es.getD k e0).1).1*(rel (qd (es.getD i e0)) (es.getD k e0).2).1+(rel (qd (es.getD i e0)) (es.getD k e0).1).2*(rel (qd (es.getD i e0)) (es.getD k e0).2).2)with g|g
 ·exact g
 exfalso;obtain⟨n1,t⟩:=rp h w;obtain⟨n2,d⟩:=rp h l;obtain⟨x1,z⟩:=Ms (t k l).1;obtain⟨d1,d2⟩:=Zm (t k l).2 (by lia);obtain⟨x2,D⟩:=Ms (d i w).1
 have C:¬(onB (es.getD i e0) (es.getD k e0).2=ah/\(es.getD k e0).2≠(es.getD i e0).1/\(es.getD k e0).2≠(es.getD i e0).2):=by
  obtain⟨f,p,o⟩:=y.1 _ (L8 l);obtain⟨m,x,rfl⟩:=v7 p;rw[<-o];exact(Ms (t m x).1).2
 have E:¬(onB (es.getD k e0) (es.getD i e0).2=ah/\(es.getD i e0).2≠(es.getD k e0).1/\(es.getD i e0).2≠(es.getD k e0).2):=by
  obtain⟨f,p,o⟩:=y.1 _ (L8 w);obtain⟨m,x,rfl⟩:=v7 p;rw[<-o];exact(Ms (d m x).1).2
 generalize es.getD i e0=e at*
 generalize es.getD k e0=f at*
 obtain⟨a,b⟩:=e;obtain⟨A,B⟩:=f;simp only[qd]at j g
 simp only at*
 have s:=MA j g x1;by_cases c1:gu a b A=0
 ·by_cases c:gu a b B=0
  ·rcases MF n1 c1 c g with q|q|q|q|⟨q,r⟩|⟨q,r⟩
   ·exact z q
   ·exact C q
   ·exact D q
   ·exact E q
   ·exact d1 (by rw[q,r])
   exact d2 ⟨r.symm,q.symm⟩
  obtain⟨u,v⟩:=HT j c1 c;exact z (RO n1 u v c1)
 have c:=s.resolve_left c1
 have n:cn (rel (a.1+b.1,a.2+b.2) B) (rel (a.1+b.1,a.2+b.2) A)=0:=by
  unfold cn at j|-
  grind
 obtain⟨u,v⟩:=HT n c c1;exact C (RO n1 u v c)
theorem NW{ls:List (List Sp)}(h:ye (dm ls)=ah)(c:zt (dm ls))(d:Jh (dm ls)=ah):Qr (dm ls)=true:=by
 unfold Qr;refine dg.2 λi b=>?_;have a:=er.1 b;have:=dg.1 d i b;rw[rA a (kD h c a) (rp h a).1];exact this
def T9(v:Sp):Prop:=0<v.2\/(v.2=0/\0<v.1)
def qj(u v:Sp):Int:=u.1*v.1+u.2*v.2
def sV(s:Int)(v:Sp):Sp:=(s*v.1,s*v.2)
theorem Tt{v:Sp}(h:v≠(0,0)):∃s w,v=sV s w/\T9 w/\((s=1/\Su v=0)\/(s= -1/\Su v=1)):=by
 by_cases c:0<v.2\/(v.2=0/\0<v.1)
 ·refine⟨1,v,?_,c,.inl ⟨rfl,?_⟩⟩
  ·unfold sV;rw[Int.one_mul,Int.one_mul]
  unfold Su;rw[bc];simpa using c
 refine⟨-1,sV (-1) v,?_,?_,.inr ⟨rfl,?_⟩⟩
 ·unfold sV;refine tq ?_ ?_<;>simp only<;>lia
 ·unfold T9 sV;simp only;have:¬(v.1=0/\v.2=0):=λ⟨a,b⟩=>h (tq a b);lia
 unfold Su;rw[aq];simpa using c
theorem Q0(s t:Int)(u v:Sp):cn (sV s u) (sV t v)=s*t*cn u v:=by
 unfold cn sV;simp only
 grind
theorem FD(s t:Int)(u v:Sp):qj (sV s u) (sV t v)=s*t*qj u v:=by
 unfold qj sV;simp only
 grind
theorem Ba(u v:Sp):cn v u= -(cn u v):=by
 unfold cn
 grind
theorem tr0{u x y:Sp}(m:T9 u)(hx:T9 x)(hy:T9 y)(n:0<=cn u x)(g:0<=cn x y):0<=cn u y/\(cn u y=0->cn u x=0/\cn x y=0):=by
 obtain⟨a,b⟩:=u;obtain⟨c,d⟩:=x;obtain⟨e,f⟩:=y
 have id:d*cn (a,b) (e,f)=f*cn (a,b) (c,d)+b*cn (c,d) (e,f):=by
  unfold cn;simp only
  grind
 unfold T9 at m hx hy;simp only at m hx hy;by_cases i:0<d
 ·have q:0<=f*cn (a,b) (c,d):=wM (by lia) n;have t:0<=b*cn (c,d) (e,f):=wM (by lia) g;have r:0<=cn (a,b) (e,f):=VP (a:=d) (by lia) i;refine⟨r,λl=>?_⟩;rw[l,ae9]at id
  have q1:f*cn (a,b) (c,d)=0:=by lia
  have q2:b*cn (c,d) (e,f)=0:=by lia
  have p:f≠0:=by
   rintro rfl;unfold cn at g;simp only at g;have:=Ck i (show 0<e by lia);lia
  have k:=(Bi.1 q1).resolve_left p;refine⟨k,?_⟩;by_cases hb:b=0
  ·exfalso;subst hb;unfold cn at k;simp only at k;have:=Ck (show 0<a by lia) i;lia
  exact(Bi.1 q2).resolve_left hb
 have j:d=0:=by lia
 subst j
 have o:0<c:=by lia
 unfold cn at*
 simp only at*
 by_cases hb:0<b
 ·have:=Ck hb o;lia
 have h:b=0:=by lia
 subst h
 have s:0<a:=by lia
 have q:0<=a*f:=wM (by lia) (by lia);refine⟨by lia,λl=>?_⟩
 have:a*f=0:=by lia
 have:f=0:=(Bi.1 this).resolve_left (by lia);subst this;lia
theorem tr1{u x y:Sp}(c:T9 u)(hx:T9 x)(hy:T9 y):(0<=cn u x/\0<=cn x y)->(0<=cn u y/\(cn u y=0->cn u x=0/\cn x y=0)):=λ⟨a,b⟩=>tr0 c hx hy a b
theorem tW{u x:Sp}(f:T9 u)(hx:T9 x)(h:cn u x=0):0<qj u x:=by
 obtain⟨a,b⟩:=u;obtain⟨c,d⟩:=x
 unfold T9 cn qj at*
 simp only at*
 rcases f with f|⟨rfl,f⟩<;>rcases hx with hx|⟨rfl,hx⟩
 ·have p:=Ck f hx
  have q:0<=a*c:=by
   have:0<=(a*c)*(b*d):=by
    have e:(a*c)*(b*d)=(a*d)*(a*d):=by grind
    rw[e];rcases adk 0 (a*d)with g|g
    ·exact wM g g
    exact Ek g g
   exact a0s this p
  lia
 ·have:=Ck f hx;lia
 ·have:=Ck f hx;lia
 have:=Ck f hx;lia
def bet(u y x:Sp):Bool:=
 (decide (Ab x u<0)&& !decide (Ab y u<0))||(decide (Ab x u<0)==decide (Ab y u<0)&&decide (0<Ab x y))
def pL(c d:Int):Int:=if c<0 then 0 else if 0<c then 2 else if d<0 then 1 else 3
theorem iL(u x y:Sp):Dh u x y=if pL (cn u x) (qj u x)=pL (cn u y) (qj u y)then decide (cn x y<0)else decide (pL (cn u x) (qj u x)<pL (cn u y) (qj u y)):=rfl
theorem a52(u y x:Sp):bet u y x=((decide (Ab x u<0)&& !decide (Ab y u<0))||(decide (Ab x u<0)==decide (Ab y u<0)&&decide (0<Ab x y))):=rfl
theorem UU{u x y:Sp}(s:u≠(0,0))(hx:x≠(0,0))(hy:y≠(0,0)):bet u y x=Dh u x y:=by
 obtain⟨g,u,rfl,a,d⟩:=Tt s;obtain⟨h,x,rfl,b,e⟩:=Tt hx;obtain⟨i,y,rfl,c,f⟩:=Tt hy;have t1:=tr1 a b c;have t2:=tr1 a c b;have t3:=tr1 b a c;have t4:=tr1 b c a;have t5:=tr1 c a b;have t6:=tr1 c b a;have d1:=tW a b;have d2:=tW a c
 rw[Ba u x,Ba u y,Ba x y]at*
 have c1:=Q0 g h u x;have l:=Q0 g i u y;have c3:=Q0 h i x y;have j:=Q0 h g x u;have k:=Q0 i g y u;have o:=FD g h u x;have e2:=FD g i u y;rw[Ba u x]at j;rw[Ba u y]at k;rw[a52,iL];unfold Ab
 generalize cn u x=p at*
 generalize cn u y=q at*
 generalize cn x y=r at*
 generalize qj u x=m at*
 generalize qj u y=n at*
 rcases d with ⟨rfl,d⟩|⟨rfl,d⟩<;>rcases e with ⟨rfl,e⟩|⟨rfl,e⟩<;>rcases f with ⟨rfl,f⟩|⟨rfl,f⟩<;>
  (simp only[d,e,f,c1,l,c3,j,k,o,e2];clear d e f c1 l c3 j k o e2 s hx hy a b c
   rw[Uh];simp only[Oi,dc,decide_eq_true_eq,beq_iff_eq,ot,decide_eq_false_iff_not,decide_eq_decide,pL];simp
   by_cases p0:p<0<;>by_cases v:0<p<;>by_cases q0:q<0<;>by_cases q1:0<q<;>by_cases t:0<m<;>by_cases n0:0<n<;>simp[p0,v,q0,q1,t,n0,show 0<m->¬m<0 by lia,show 0<n->¬n<0 by lia]<;>lia)
theorem IU{s n a c:Int}(hs:0<s)(e:s<=n)(h:a*n=s*c):(0<=c->0<=a/\a<=c)/\(c<=0->c<=a/\a<=0):=by
 have b:0<n:=by omega
 refine⟨λd=>⟨?_,?_⟩,λd=>⟨?_,?_⟩⟩
 ·have:=wM (ach hs) d;rw[<-h]at this;exact a0s this b
 ·have:=Int.mul_le_mul_of_nonneg_right e d;rw[<-h,Af n c]at this;exact Ug this b
 ·have:=Int.mul_le_mul_of_nonpos_right e d;rw[<-h,Af n c]at this;exact Ug this b
 have:=Ar (ach hs) d;rw[<-h]at this;refine Ug (a:=n) ?_ b;omega
theorem a0u(a:Int):0<=a*a:=by
 rcases adk 0 a with h|h
 ·exact wM h h
 exact Ek h h
theorem sq_pos{a b:Int}(h:¬(a=0/\b=0)):0<a*a+b*b:=by
 have d:=a0u a;have e:=a0u b;by_cases c:a=0
 ·have hb:b≠0:=λq=>h ⟨c,q⟩
  have:b*b≠0:=λq=>hb (by rcases Bi.1 q with q|q<;>exact q)
  omega
 have:a*a≠0:=λq=>c (by rcases Bi.1 q with q|q<;>exact q)
 omega
theorem uC{o v w:Sp}(h:cn (dq v o) (dq w o)=0)(d:0<qj (dq v o) (dq w o))(e:qj (dq v o) (dq w o)<=qj (dq w o) (dq w o)):onB (o,w) v=true:=by
 obtain⟨ox,oy⟩:=o;obtain⟨f,g⟩:=v;obtain⟨wx,b⟩:=w
 unfold cn qj dq at*
 simp only at*
 have i:(f-ox)*((wx-ox)*(wx-ox)+(b-oy)*(b-oy))=((f-ox)*(wx-ox)+(g-oy)*(b-oy))*(wx-ox):=by grind
 have e2:(g-oy)*((wx-ox)*(wx-ox)+(b-oy)*(b-oy))=((f-ox)*(wx-ox)+(g-oy)*(b-oy))*(b-oy):=by grind
 have a:=IU d e i;have b2:=IU d e e2;unfold onB gu mn mx;simp only[dc,beq_iff_eq,decide_eq_true_eq];refine⟨by grind,?_⟩;clear i e2 h d e;rcases adk 0 (wx-ox)with c1|c1<;>rcases adk 0 (b-oy)with c|c
 ·have q1:=a.1 c1;have q2:=b2.1 c;clear a b2;refine⟨?_,?_,?_,?_⟩<;>(try split)<;>omega
 ·have q1:=a.1 c1;have q2:=b2.2 c;clear a b2;refine⟨?_,?_,?_,?_⟩<;>(try split)<;>omega
 ·have q1:=a.2 c1;have q2:=b2.1 c;clear a b2;refine⟨?_,?_,?_,?_⟩<;>(try split)<;>omega
 have q1:=a.2 c1;have q2:=b2.2 c;clear a b2;refine⟨?_,?_,?_,?_⟩<;>(try split)<;>omega
theorem xY{o v w:Sp}(h:cn (dq v o) (dq w o)=0)(f:0<qj (dq v o) (dq w o)):onB (o,w) v=ah\/onB (o,v) w=true:=by
 rcases adk (qj (dq v o) (dq w o)) (qj (dq w o) (dq w o))with g|g
 ·exact .inl (uC h f g)
 refine .inr (uC ?_ ?_ ?_)
 ·rw[Ba,h];rfl
 ·have:qj (dq w o) (dq v o)=qj (dq v o) (dq w o):=by unfold qj;grind
  rw[this];exact f
 generalize dq v o=x at*
 generalize dq w o=y at*
 obtain⟨a,b⟩:=x;obtain⟨c,d⟩:=y
 unfold cn qj at*
 simp only at*
 have id:(a*c+b*d)*(a*c+b*d)=(a*a+b*b)*(c*c+d*d):=by grind
 have i:0<c*c+d*d:=by
  refine sq_pos λ⟨p,q⟩=>?_;subst p q;omega
 have e:c*a+d*b=a*c+b*d:=by grind
 rw[e]
 generalize a*c+b*d=s at*
 generalize c*c+d*d=n at*
 generalize a*a+b*b=m at*
 rcases Qz m s with k|k
 ·exfalso;have j:m*n<s*n:=Int.mul_lt_mul_of_pos_right k i;have l:s*n<=s*s:=Q8 g (by omega);omega
 exact k
theorem jF{u x y:Sp}(s:u≠(0,0))(hx:x≠(0,0))(hy:y≠(0,0))(r:¬(cn x y=0/\0<qj x y))(h:Dh u x y=ag):Dh u y x=true:=by
 rw[iL]at h|-;obtain⟨p,q⟩:=u;obtain⟨a,b⟩:=x;obtain⟨c,d⟩:=y
 have m:cn (p,q) (a,b)*(c*c+d*d)=cn (p,q) (c,d)*qj (a,b) (c,d)-qj (p,q) (c,d)*cn (a,b) (c,d):=by
  unfold cn qj;simp only;grind
 have o:qj (p,q) (a,b)*(c*c+d*d)=qj (p,q) (c,d)*qj (a,b) (c,d)+cn (p,q) (c,d)*cn (a,b) (c,d):=by
  unfold cn qj;simp only;grind
 have A:qj (a,b) (c,d)*qj (a,b) (c,d)+cn (a,b) (c,d)*cn (a,b) (c,d)=(a*a+b*b)*(c*c+d*d):=by
  unfold cn qj;simp only;grind
 have B:qj (p,q) (c,d)*qj (p,q) (c,d)+cn (p,q) (c,d)*cn (p,q) (c,d)=(p*p+q*q)*(c*c+d*d):=by
  unfold cn qj;simp only;grind
 have f:0<c*c+d*d:=sq_pos λ⟨i,j⟩=>hy (by rw[i,j]);have t:0<a*a+b*b:=sq_pos λ⟨i,j⟩=>hx (by rw[i,j]);have v:0<p*p+q*q:=sq_pos λ⟨i,j⟩=>s (by rw[i,j]);have C:=Ck t f;have D:=Ck v f;rw[Ba (a,b) (c,d)]
 generalize cn (p,q) (a,b)=X at*
 generalize cn (p,q) (c,d)=Y at*
 generalize cn (a,b) (c,d)=Z at*
 generalize qj (p,q) (a,b)=U at*
 generalize qj (p,q) (c,d)=V at*
 generalize qj (a,b) (c,d)=W at*
 generalize c*c+d*d=n at*
 by_cases e:pL X U=pL Y V
 ·rw[bc e]at h;rw[bc e.symm];rw[decide_eq_false_iff_not]at h;rw[decide_eq_true_eq];rcases Qz 0 Z with z|z
  ·omega
  exfalso
  have hz:Z=0:=by omega
  subst hz
  have l:W<0:=by
   rcases Xu W 0 with w|w|w
   ·exact w
   ·subst w;omega
   exact absurd ⟨rfl,w⟩ r
  simp only[ae9,Int.sub_zero,JI]at m o
  have G:(0<X->Y<0)/\(X<0->0<Y)/\(X=0->Y=0):=by
   refine⟨λg=>?_,λg=>?_,λg=>?_⟩
   ·have:=Ck g f;rcases Qz Y 0 with k|k
    ·exact k
    have:=Ar k (ach l);omega
   ·have:=sG g f;rcases Qz 0 Y with k|k
    ·exact k
    have:=Ek k (ach l);omega
   subst g;rw[Wv]at m;exact(Bi.1 m.symm).resolve_right (by omega)
  have F:(0<U->V<0)/\(U<0->0<V)/\(U=0->V=0):=by
   refine⟨λg=>?_,λg=>?_,λg=>?_⟩
   ·have:=Ck g f;rcases Qz V 0 with k|k
    ·exact k
    have:=Ar k (ach l);omega
   ·have:=sG g f;rcases Qz 0 V with k|k
    ·exact k
    have:=Ek k (ach l);omega
   subst g;rw[Wv]at o;exact(Bi.1 o.symm).resolve_right (by omega)
  have E:¬(V=0/\Y=0):=by
   rintro⟨rfl,rfl⟩;omega
  clear m o A B C D f t v r s hx hy;unfold pL at e;split at e<;>split at e<;>(try split at e)<;>(try split at e)<;>(try split at e)<;>omega
 rw[aq e]at h;rw[aq (λq=>e q.symm)];rw[decide_eq_false_iff_not]at h;rw[decide_eq_true_eq];omega
theorem Qs{b c a s:Sp}(d:c≠(0,0))(e:dq a b≠(0,0))(f:dq s b≠(0,0)):Qt b c a s=Dh c (dq s b) (dq a b):=UU d f e
theorem lT{b c x:Sp}:∀(r:List Sp) (h:Sp),x∈h::r->(∀w∈h::r,w≠x->Qt b c x w=ag/\Qt b c w x=ah)->r.foldl (xu b c) h=x:=by
 intro r
 induction r with
 |nil=>intro h a _;simp at a;exact a.symm
 |cons t r i=>
  intro h a hb;rw[yb]
  have e:xu b c h t=h\/xu b c h t=t:=by unfold xu;split<;>simp
  refine i _ ?_ ?_
  ·rcases fa.1 a with rfl|a
   ·by_cases g:t=x
    ·subst g;rcases e with q|q<;>rw[q]<;>simp
    have:=(hb t (by simp) g).1;unfold xu;rw[this];simp
   rcases fa.1 a with rfl|a
   ·by_cases f:h=x
    ·subst f;rcases e with q|q<;>rw[q]<;>simp
    have:=(hb h (by simp) f).2;unfold xu;rw[this];simp
   exact sD _ a
  intro w d;refine hb w ?_;rcases fa.1 d with rfl|d
  ·rcases e with q|q<;>rw[q]<;>simp
  simp[d]
theorem xg{a b:Sp}(h:a≠b):dq a b≠(0,0):=λq=>h (by
 unfold dq at q;have c:=congrArg afq q;have d:=congrArg Prod.snd q;simp only at c d
 exact tq (by omega) (by omega))
theorem wY{a b c:Sp}(h:dq a c=dq b c):a=b:=by
 unfold dq at h;have d:=congrArg afq h;have e:=congrArg Prod.snd h;simp only at d e;exact tq (by omega) (by omega)
theorem sO{a b:Sp}(h:a≠b):w9 a b=false:=by
 cases q:w9 a b
 ·rfl
 exact absurd (r9.1 q) h
theorem Vw{ls:List (List Sp)}{l:List Sp}{k:Nat}(b:l∈ls)(a:k<l.length):u9 l k∈dm ls:=by
 unfold dm;rw[K3];exact⟨l,b,by unfold jb;exact j6.2 ⟨k,er.2 a,rfl⟩⟩
theorem qT{es:List Ed}(h:ye es=ah)(p:zt es){o v w:Sp}(l:(o,v)∈es)(n:(o,w)∈es)(r:v≠w):¬(cn (dq v o) (dq w o)=0/\0<qj (dq v o) (dq w o)):=by
 rintro⟨hz,u⟩;obtain⟨i,x,s⟩:=v7 l;obtain⟨k,y,t⟩:=v7 n;have e:=rp h x;have j:=rp h y;rw[s]at e;rw[t]at j;rcases xY hz u with g|g
 ·obtain⟨f,c,b⟩:=p.1 _ l;obtain⟨m,d,a⟩:=v7 c;have:=(Ms (j.2 m d).1).2;rw[a,b]at this;exact this ⟨g,λq=>e.1 q.symm,r⟩
 obtain⟨f,c,b⟩:=p.1 _ n;obtain⟨m,d,a⟩:=v7 c;have:=(Ms (e.2 m d).1).2;rw[a,b]at this;exact this ⟨g,λq=>j.1 q.symm,λq=>r q.symm⟩
theorem MR{ls:List (List Sp)}(h:ye (dm ls)=ah)(G:zt (dm ls))(J:Ly ls (dm ls)=ah){l:List Sp}(z:l∈ls){k:Nat}(E:k<l.length):Cc (dm ls) (u9 l k)=u9 l ((k+1)%l.length):=by
 have I:(k+1)%l.length<l.length:=Ht _ (by omega)
 have e2:((k+1)%l.length+1)%l.length=(k+2)%l.length:=by rw[VL]
 have s:=Vw z E;have m:=Vw z I
 have D:∀e∈dm ls,Gk l k e=true:=by
  intro e H;obtain⟨i,d,rfl⟩:=j0.1 z;obtain⟨j,v,rfl⟩:=v7 H;have a1:=dg.1 J i (er.2 d)
  have:ls.getD i []=ls[i]:=by simp[cz,d]
  rw[this]at a1;exact dg.1 (dg.1 a1 k (er.2 E)) j (er.2 v)
 unfold Cc;unfold u9 at s m|-;unfold Gk at D;rw[e2]at m|-;simp only
 generalize l.getD k (0,0)=p at*
 generalize l.getD ((k+1)%l.length) (0,0)=a at*
 generalize l.getD ((k+2)%l.length) (0,0)=nx at*
 refine tq rfl ?_;simp only;have n:nx∈outs (dm ls) a:=Cq.2 m
 have b:∀{x y:Sp},(x,y)∈dm ls->x≠y:=by
  intro x y B;obtain⟨i,d,o⟩:=v7 B;have:=(rp h d).1;rw[o]at this;exact this
 have f:∀w,(a,w)∈dm ls->w≠p:=by
  rintro w A rfl;obtain⟨i,d,o⟩:=v7 s;obtain⟨j,v,u⟩:=v7 A
  have K:i≠j:=by
   rintro rfl;rw[o]at u;exact b s (congrArg afq u)
  have:=(Zm ((rp h d).2 j v).2 K).2;rw[o,u]at this;exact this ⟨rfl,rfl⟩
 have key:∀w∈outs (dm ls) a,w≠nx->Qt a (dq p a) nx w=ag/\Qt a (dq p a) w nx=true:=by
  intro w A g;have c:=Cq.1 A;have t:=D _ c;unfold Xz at t;simp only at t;rw[bc (r9.2 rfl)]at t;unfold U6 at t;rw[sO (λq=>f w c (wY q)),sO (λq=>g (wY q))]at t;simp only[Mz,rv,ot]at t;have n1:=xg (b s);have n2:=xg (λq=>b m (Eq.symm q));have C:=xg (λq=>b c (Eq.symm q));rw[Qs n1 n2 C,Qs n1 C n2];exact⟨t,jF n1 C n2 (qT h G c m g) t⟩
 cases F:outs (dm ls) a with
 |nil=>rw[F]at n;simp at n
 |cons x r=>
  rw[F]at n key;exact lT r x n key
theorem TX{e f:Ed}:X6 e f=ah<->e=f:=by
 unfold X6;simp only[dc,beq_iff_eq];constructor
 ·intro h;exact tq (tq h.1 h.2.1) (tq h.2.2.1 h.2.2.2)
 rintro rfl;simp
theorem AR{es:List Ed}(h:ye es=ah):es.Nodup:=by
 rw[yi,Cy];intro i j a b c q;have:=(Zm ((rp h a).2 j b).2 (by omega)).1;simp only[cz,bh a,bh b,jj]at this;exact this q
theorem BZ{ls:List (List Sp)}(h:ye (dm ls)=ah)(v:zt (dm ls))(p:Ly ls (dm ls)=ah){l:List Sp}(z:l∈ls)(t:0<l.length)(n:(jb l).Nodup)(u:List Ed)(B:∀e∈jb l,e∉u):
  ∀(d k m:Nat),k+d=l.length->d+1<=m->Aj (dm ls) m (u++(jb l).take k) (u9 l (k%l.length))=(l.drop k,u++jb l):=by
 intro d
 induction d with
 |zero=>
  intro k m y A;obtain⟨m,rfl⟩:∃m',m=m'+1:=⟨m-1,by omega⟩
  have a:k=l.length:=by omega
  subst a
  have p:(jb l).take l.length=jb l:=by rw[<-qh l];exact fm
  have i:Md (u++jb l) (u9 l 0)=true:=F3.2 (nP _ (by unfold jb;exact j6.2 ⟨0,er.2 t,rfl⟩));unfold Aj;rw[p,acb,i,Qa];rfl
 |succ d C=>
  intro k m y A;obtain⟨m,rfl⟩:∃m',m=m'+1:=⟨m-1,by omega⟩
  have a:k<l.length:=by omega
  have g:k%l.length=k:=zz a;rw[g]
  have f:(jb l)[k]? =aa (u9 l k):=by unfold jb;simp[a]
  have s:u9 l k∈jb l:=pw f
  have o:Md (u++(jb l).take k) (u9 l k)=false:=by
   cases q:Md (u++(jb l).take k) (u9 l k)
   ·rfl
   exfalso;rcases jz.1 (F3.1 q)with q|q
   ·exact B _ s q
   obtain⟨j,x,c⟩:=j0.1 q;rw[ey]at x;rw[a8v]at c
   have b:k<(jb l).length:=by rw[qh];exact a
   have r:(jb l)[k]=u9 l k:=by rw[bh b]at f;exact a8l f
   rw[<-r]at c;have:=(Cy.1 (yi.1 n)) j k (by omega) b (by omega);exact this c
  unfold Aj;rw[o,MR h v p z a,uy,<-Pq a,C (k+1) m (by omega) (by omega)]
  have w:l.drop k=l.getD k (0,0)::l.drop (k+1):=by
   rw[jx a];simp[cz,a]
  rw[w];rfl
theorem FZ(es:List Ed):∀(r:List Ed) (x:List Ed×List (List Sp)),(∀e∈r,e∈x.1)->r.foldl (yn es) x=x:=by
 intro r
 induction r with
 |nil=>intro x _;rfl
 |cons e r b=>
  intro x h
  have:yn es x e=x:=by
   unfold yn;rw[bc (F3.2 (h e (by simp)))]
  rw[yb,this];exact b x λf a=>h f (by simp[a])
theorem BG{ls:List (List Sp)}(h:ye (dm ls)=ah)(s:zt (dm ls))(w:Ly ls (dm ls)=ah)(p:∀l∈ls,3<=l.length):
  ∀(r:List (List Sp)) (u:List Ed) (R:List (List Sp)),(∀l∈r,l∈ls)->(u++dm r).Nodup->(dm r).foldl (yn (dm ls)) (u,R)=(u++dm r,R++r.map (Gs (xa (dm ls)) (D5 (dm ls)))):=by
 intro r
 induction r with
 |nil=>intro u R _ _;simp[dm]
 |cons l r y=>
  intro u R k a;have g:=k l (by simp);have v:=p l g;have o:dm (l::r)=jb l++dm r:=rfl;rw[o]at a|-;rw[<-uy]at a;have b:=(Xs.1 a).1;have i:=(Xs.1 b).2.1;have c:∀e∈jb l,e∉u:=λe f c=>(Xs.1 b).2.2 e c e f rfl;rw[qu]
  have j:l.length<=(dm ls).length:=by rw[P5];exact uD g
  have m:=BZ h s w g (by omega) i u c l.length 0 ((dm ls).length+1) (by omega) (by omega);rw[My,pt,Nat.zero_mod,wK]at m
  have d:(jb l).foldl (yn (dm ls)) (u,R)=(u++jb l,R++[Gs (xa (dm ls)) (D5 (dm ls)) l]):=by
   have e2:∃t,jb l=u9 l 0::t:=by
    unfold jb;obtain⟨n,a⟩:∃n,l.length=n+1:=⟨l.length-1,by omega⟩;rw[a,List.range_succ_eq_map];exact⟨_,rfl⟩
   obtain⟨t,e2⟩:=e2
   have z:yn (dm ls) (u,R) (u9 l 0)=(u++jb l,R++[Gs (xa (dm ls)) (D5 (dm ls)) l]):=by
    unfold yn;have:¬Md u (u9 l 0)=true:=λq=>c _ (by rw[e2];simp) (F3.1 q);rw[aq this];simp only;rw[m]
   rw[e2,yb,z,<-e2];refine FZ _ _ _ λe f=>?_;simp only;rw[e2];simp[f]
  rw[d,y _ _ (λx hx=>k x (by simp[hx])) a];simp[uy]
theorem a0e{ls:List (List Sp)}(h:ye (dm ls)=ah)(d:Ly ls (dm ls)=ah)(a:∀l∈ls,3<=l.length):Hr ls=D2 ls:=by
 have b:=Ia a;have:=BG h b d a ls [] [] (λ_ c=>c) (by simpa using AR h);unfold Hr yp D2;rw[fm,this];simp
theorem jQ{ls:List (List Sp)}(h:oe ls=ah):w8 ls=true:=by
 unfold oe at h;simp only[dc]at h;obtain⟨d,c,k,m⟩:=h;obtain⟨n,g,j⟩:=eY d
 have a:∀l∈ls,3<=l.length:=by
  intro l b;obtain⟨i,f,rfl⟩:=j0.1 b;have:=dg.1 d i (er.2 f);unfold Hi at this
  have e:ls.getD i []=ls[i]:=by simp[cz,f]
  rw[e]at this;simp only[dc,decide_eq_true_eq]at this;exact this.1
 unfold w8;simp only[dc];refine⟨?_,?_,JX c,NW c (Ia a) k,?_⟩
 ·unfold eK;rw[decide_eq_true g,decide_eq_true (show ls.length<=60 by omega)];rfl
 ·refine dg.2 λl b=>?_;unfold okL;rw[decide_eq_true (a l b),rv];exact dg.2 (j l b).2
 rw[a0e c m a];simp
def p0:Pm:=⟨⟨#[]⟩,0⟩
def ku(t:Tr)(s:ByteArray):Int:=Am (λi=>i6 (t.ps.getD i p0).n s) t.ps.length
def ur(t:Tr)(s:ByteArray):Int:=Am (λi=>i6 (t.ns.getD i n0).n s) t.ns.length
section
variable{P:Program}(A:Pr P)
theorem PK(p:Pm)(s:ByteArray):iv P A.xk [.agg (mg p),.ym [.str s] 0] (.bool (i6 p.n s)):=by
 refine ez A.mo A.aC (by simp) ?_;show l7 P Ki (ly _ _) _;simp only[Ki,mg,i6,go_sem,ab,ak,ao]
theorem PJ(n:Nd)(s:ByteArray):iv P A.xj [.agg (pa n),.ym [.str s] 0] (.bool (i6 n.n s)):=by
 refine ez A.mo A.aB (by simp) ?_;show l7 P Kh (ly _ _) _;simp only[Kh,pa,qx,kh,kn,i6,go_sem,ab,ak,ao]
theorem WS(t:Tr)(s:ByteArray)(b:t.ps.length<=2^50):iv P A.jm [.agg (vt t),.str s] (.int aj (ku t s)):=by
 refine ez A.mo A.gZ (by simp) ?_;show l7 P (O3 A.xk A.ph) (ly _ _) _
 have h:=PW A (l:=t.ps) (g:=A.xk) (j9:=[.ym [.str s] 0]) (p:=λi=>i6 (t.ps.getD i p0).n s) (λi a=>by
  have e:t.ps.getD i p0=t.ps[i]:=by simp[cz,a]
  rw[e];exact PK A _ _) b
 simp only[ki]at h;simp only[O3,vt,ki,lr,go_sem,ab,ak,ao];refine jn (ds:=[.gd 2 (t.ps.map mg),.qb A.xk [.ym [.str s] 0]]) ?_ h rfl ?_
 ·simp only[go_sem,ab,k9,ow]
 simp only[go_sem,ab];rfl
theorem WR(t:Tr)(s:ByteArray)(b:t.ns.length<=2^50):iv P A.lp [.agg (vt t),.str s] (.int aj (ur t s)):=by
 refine ez A.mo A.gY (by simp) ?_;show l7 P (O2 A.xj A.jo) (ly _ _) _
 have h:=xP A (l:=t.ns) (g:=A.xj) (j9:=[.ym [.str s] 0]) (p:=λi=>i6 (t.ns.getD i n0).n s) (λi a=>by
  have e:t.ns.getD i n0=t.ns[i]:=by simp[cz,a]
  rw[e];exact PJ A _ _) b
 simp only[lr]at h;simp only[O2,vt,ki,lr,go_sem,ab,ak];refine jn (ds:=[.gd 5 (t.ns.map pa),.qb A.xj [.ym [.str s] 0]]) ?_ h rfl ?_
 ·simp only[go_sem,ab,k9,ow]
 simp only[go_sem,ab];rfl
theorem KW(l:List Pm)(a:l.length<=2^40):iv P A.gn [ki l] (ki l):=
 W2 A.mo (sz:=2) (by_:=24) (z:=[.str ⟨#[]⟩,.int aj 0]) A.G4 (dv:=l.map mg) (by simp[mg,D.one]) (by simp only[al];lia)
theorem CV(l:List ByteArray)(a:l.length<=2^40):iv P A.pk [kn l] (kn l):=
 W2 A.mo (sz:=1) (by_:=16) (z:=[.str ⟨#[]⟩]) A.Ls (dv:=l.map qt) (by simp[qt,D.one]) (by simp only[al];lia)
theorem KU(l:List Vl)(a:l.length<=2^40):iv P A.lk [qx l] (qx l):=
 W2 A.mo (sz:=3) (by_:=32) (z:=[.str ⟨#[]⟩,.int aj 0,.int aj 0]) A.Bf (dv:=l.map B4) (by simp[B4,D.one]) (by simp only[al];lia)
theorem KV(l:List Sp)(b:l.length<=2^40):iv P A.ib [uu l] (uu l):=
 W2 A.mo (sz:=2) (by_:=16) (z:=[.int aj 0,.int aj 0]) A.Bw (dv:=l.map Ci) (λe a=>by obtain⟨p,_,rfl⟩:=j6.1 a;rfl) (by simp only[al];lia)
theorem qG(ls:List (List Sp))(s:ls.length<=2^30)(q:∀l∈ls,l.length<=2^40):iv P A.kc [kh ls,.qb A.ib []] (kh ls):=by
 have e:iv P A.kc [kh ls,.qb A.ib []] (p9 1 (ls.map λl=>[uu l])):=by
  refine ez A.mo A.N9 (by simp) ?_;show l7 P Ay (ly _ _) _;simp only[Ay,kh,go_sem,ab,reduceCtorEq];refine wv (λs'=>s'.base=0/\u0 s' 19 1 (ls.map λl=>[uu l]) (s'.tmp 5)) ?_ ?_
  ·refine gf ls.length (λi s'=>s'.base=0/\s'.tmp 1= .d (.qb A.ib [])/\s'.tmp 8= .d (.gd 1 (ls.map λl=>[uu l]))/\s'.tmp 9= .d (.int aj ls.length)/\s'.tmp 10= .d (.int aj i)/\u0 s' 19 1 ((ls.take i).map λl=>[uu l]) (s'.tmp 5)) ?_ ?_
   ·simp only[go_sem,ab,al];exact u0.nil
   rintro i s' t ⟨b,m,n,k,a,acc⟩;by_cases o:(i:Int)<ls.length
   ·have f:i<ls.length:=by lia
    have wi:=dr ((i:Int)+1) (by lia) (by lia);have r:=Fo f;have c:=KV A ls[i] (q _ (dj f))
    have p:(ls.take (i+1)).map (λl=>[uu l])=(ls.take i).map (λl=>[uu l])++[[uu ls[i]]]:=by
     rw[j3,fj];simp[f]
    simp only[uu]at c;simp only[go_sem,ab,reduceCtorEq,b,m,n,k,a,o,r,bn,aw];refine mX c ?_;simp only[go_sem,ab,cw];refine r4 (dv:=(ls.take i).map λl=>[uu l]) (ys:=[[uu ls[i]]]) (osz:=aa 1) ?_ ?_ rfl (by simp[uu,D.one]) ?_ (by simp) ?_
    ·simp only[go_sem,ab];exact acc.mono (by simp[ar]) (by simp[ar])
    ·simp only[go_sem,ab,pj,uu]
    ·simp only[al,cq,ew,ey];lia
    intro u g;have h:=g.acc (by simp);rw[g.tmp,de]at h;simp only[gj]at h;simp only[go_sem,ab,reduceCtorEq,g.tmp,g.base,m,n,k,a,wi,f,p];refine⟨by rw[mu];rfl,?_⟩;exact h.mono rfl rfl
   have:i=ls.length:=by lia
   subst this;rw[fm]at acc;simp only[go_sem,ab,reduceCtorEq,b,k,a,o];exact acc.mono rfl rfl
  rintro s' ⟨b,acc⟩;rcases acc with ⟨a1,j⟩|⟨a1,j,a3⟩
  ·simp only[go_sem,ab,b,a1,j,p9]
  simp only[go_sem,ab,b,j,a3,p9,aq a1]
 exact e.Nl By
theorem tE(n:Nd)(e:n.f.vs.length<=2^40)(b:n.f.ls.length<=2^30)(c:∀l∈n.f.ls,l.length<=2^40)(d:n.ins.length<=2^40):iv P A.j5 [.agg (pa n)] (.agg (pa n)):=by
 refine ez A.mo A.lP (by simp) ?_;show l7 P (Pn A.pk A.lk A.kc A.ib) (ly _ _) _;have c1:=CV A n.ins d;have a:=KU A n.f.vs e;have c3:=qG A n.f.ls b c;simp only[kn,qx,kh]at c1 a c3;simp only[Pn,pa,kn,qx,kh,go_sem,ab,ak];refine gq c1 ?_;simp only[go_sem,ab,ak,ao];refine gq a ?_;simp only[go_sem,ab,ak,ao];refine ir c3 ?_;simp only[go_sem,ab,ak,ao]
theorem KF(l:List Nd)(h:l.length<=2^30)(y:∀n∈l,n.f.vs.length<=2^40/\n.f.ls.length<=2^30/\(∀q∈n.f.ls,q.length<=2^40)/\n.ins.length<=2^40):iv P A.fg [lr l,.qb A.j5 []] (lr l):=by
 have j:iv P A.fg [lr l,.qb A.j5 []] (p9 5 (l.map pa)):=by
  refine ez A.mo A.N8 (by simp) ?_;show l7 P Ax (ly _ _) _;simp only[Ax,lr,go_sem,ab,reduceCtorEq];refine wv (λs'=>s'.base=0/\u0 s' 19 5 (l.map pa) (s'.tmp 5)) ?_ ?_
  ·refine gf l.length (λi s'=>s'.base=0/\s'.tmp 1= .d (.qb A.j5 [])/\s'.tmp 8= .d (.gd 5 (l.map pa))/\s'.tmp 9= .d (.int aj l.length)/\s'.tmp 10= .d (.int aj i)/\u0 s' 19 5 ((l.take i).map pa) (s'.tmp 5)) ?_ ?_
   ·simp only[go_sem,ab,al];exact u0.nil
   rintro i s' F ⟨b,s,t,r,a,acc⟩;by_cases v:(i:Int)<l.length
   ·have m:i<l.length:=by lia
    have wi:=dr ((i:Int)+1) (by lia) (by lia);have u:=J6 m
    have x:l.getD i n0∈l:=by
     have e:l.getD i n0=l[i]:=by simp[cz,m]
     rw[e];exact dj _
    obtain⟨z,B,C,E⟩:=y _ x;have c:=tE A (l.getD i n0) z B C E
    have w:(l.take (i+1)).map pa=(l.take i).map pa++[pa (l.getD i n0)]:=by
     rw[j3,fj];simp[m,cz]
    generalize l.getD i n0=n at*
    have e2:pa n=[.str n.n,.int aj n.f.k,.gd 3 (n.f.vs.map B4),.gd 1 (n.f.ls.map λl=>[uu l]),.gd 1 (n.ins.map qt)]:=rfl;rw[e2]at c;simp only[qx,kh,kn]at u;simp only[go_sem,ab,ak,reduceCtorEq,b,s,t,r,a,v,u,bn,aw];refine mX c ?_;simp only[go_sem,ab,ak,cw];refine r4 (dv:=(l.take i).map pa) (ys:=[pa n]) (osz:=aa 5) ?_ ?_ rfl (by simp[pa,qx,kh,kn,D.one]) ?_ (by simp) ?_
    ·simp only[go_sem,ab];exact acc.mono (by simp[ar]) (by simp[ar])
    ·simp only[go_sem,ab,pj,e2]
    ·simp only[al,cq,ew,ey];lia
    intro G g;have o:=g.acc (by simp);rw[g.tmp,de]at o;simp only[gj]at o;simp only[go_sem,ab,reduceCtorEq,g.tmp,g.base,s,t,r,a,wi,m,w];refine⟨by rw[mu];rfl,?_⟩;exact o.mono rfl rfl
   have:i=l.length:=by lia
   subst this;rw[fm]at acc;simp only[go_sem,ab,reduceCtorEq,b,r,a,v];exact acc.mono rfl rfl
  rintro s' ⟨b,acc⟩;rcases acc with ⟨a1,p⟩|⟨a1,p,a3⟩
  ·simp only[go_sem,ab,b,a1,p,p9]
  simp only[go_sem,ab,b,p,a3,p9,aq a1]
 exact j.Nl By
def Mid(t:Tr):Prop:=t.ps.length<=2^30/\t.ns.length<=2^20/\∀n∈t.ns,n.f.vs.length<=2^30/\n.f.ls.length<=2^30/\(∀q∈n.f.ls,q.length<=2^30)/\n.ins.length<=2^30
theorem jM(t:Tr)(h:Mid t):iv P A.lz [.agg (vt t)] (.agg (vt t)):=by
 refine ez A.mo A.dK (by simp) ?_;show l7 P (M8 A.gn A.fg A.j5) (ly _ _) _;obtain⟨f,g,b⟩:=h;have c1:=KW A t.ps (by lia)
 have a:=KF A t.ns (by lia) (λn c=>by
  obtain⟨i,j,e,k⟩:=b n c
  exact⟨by lia,by lia,λq d=>by have:=e q d;lia,by lia⟩)
 simp only[ki,lr]at c1 a;simp only[M8,vt,ki,lr,go_sem,ab,ak,ao];refine gq c1 ?_;simp only[go_sem,ab,ak];refine ir a ?_;simp only[go_sem,ab,ak,ao]
end
def Own(m:Mem)(id sz:Nat)(dv:List (List D))(c:C):Prop:=(dv=[]/\c= .d .cj)\/(c= .ref id (m.ba id) dv.length/\m.di id=aa (.arr sz dv))
theorem Own.mono{m m':Mem}{id sz:Nat}{dv:List (List D)}{c:C}(h:Own m id sz dv c)(hb:m'.di id=m.di id)(d:m'.ba id=m.ba id):Own m' id sz dv c:=by
 rcases h with h|⟨a,b⟩
 ·exact .inl h
 exact .inr ⟨by rw[d];exact a,by rw[hb];exact b⟩
theorem Own.wf{m:Mem}{id sz:Nat}{dv:List (List D)}{c:C}(h:Own m id sz dv c):Q7 m c:=by
 rcases h with ⟨_,rfl⟩|⟨rfl,_⟩
 ·trivial
 exact bm _
theorem Own.one{s:PS}{id sz:Nat}{dv:List (List D)}{c:C}(h:Own s.mem id sz dv c):C.one s c=true:=by
 rcases h with ⟨_,rfl⟩|⟨rfl,b⟩
 ·rfl
 have a:s.di id=aa (.arr sz dv):=b;simp[C.one,V.live,PS.K2,PS.mem,a,B.Ei]
structure Ext(m:Mem)(b:Nat)(K:Nat->Prop)(m':Mem):Prop where
 low:∀i,i<b->m'.di i=m.di i/\m'.ba i=m.ba i/\m'.mp i=m.mp i
 high:∀i,b<=i->¬K i->m'.di i=ae
 mps:∀i,b<=i->m'.mp i=ae
 ba:∀i,m.ba i<=m'.ba i
 wf:∀i,b<=i->∀x,m'.di i=aa x->Ni m' x
theorem Ni.mono{m m':Mem}(h:∀i,m.ba i<=m'.ba i){x:B}(hx:Ni m x):Ni m' x:=by
 cases x with
 |arr=>trivial
 |Tj=>trivial
 |loc cs=>exact λc a=>(hx c a).mono h
 |ru sz dv=>exact λe b c a=>(hx e b c a).mono h
def yg(m:Mem)(b:Nat):Prop:=∀i,b<=i->m.di i=ae/\m.mp i=ae
open Classical in
noncomputable def Mem.only(m:Mem)(b:Nat)(K:Nat->Prop):Mem:=⟨λi=>if i<b\/K i then m.di i else ae,m.ba,λi=>if i<b then m.mp i else ae⟩
section
variable{P:Program}{s:PS}
theorem Vd{m:Mem}{b:Nat}{K:Nat->Prop}{r:V}(f:∀i,m.ba i<=s.ba i)(c:∀i,i<b->s.di i=m.di i/\s.ba i=m.ba i/\s.mp i=m.mp i)(e:∀i,K i->∀x,s.di i=aa x->Ni s.mem x)(j:Im s.mem r):
  Leaves m s (s.mem.only b K) r/\Ext m b K (s.mem.only b K):=by
 refine⟨⟨λi=>⟨?_,?_⟩,f,λi x hx=>?_,λi es a=>?_,?_⟩,⟨λi a=>?_,λi a g=>?_,λi a=>?_,f,λi a x hx=>?_⟩⟩
 ·simp only[Mem.only];split
  ·exact .inr ⟨rfl,trivial⟩
  exact .inl rfl
 ·simp only[Mem.only];split
  ·exact .inr ⟨rfl,trivial⟩
  exact .inl rfl
 ·simp only[Mem.only]at hx;split at hx
  ·rename_i h;rcases iZ i b with h|k
   ·exact .inl (by rw[<-(c i h).1];exact hx)
   have d:K i:=h.resolve_left (by lia);have:=e i d x hx;right;cases x<;>exact this
  cases hx
 ·simp only[Mem.only]at a;split at a
  ·rename_i h;exact .inl (by rw[<-(c i h).2.2];exact a)
  cases a
 ·cases r<;>exact j
 ·simp only[Mem.only];rw[bc (.inl a),bc a];exact c i a
 ·simp only[Mem.only]
  rw[aq (by rintro(h|h);lia;exact g h)]
 ·simp only[Mem.only];rw[aq (by lia)]
 simp only[Mem.only]at hx;split at hx
 ·rename_i h;have d:K i:=h.resolve_left (by lia);have:=e i d x hx;cases x<;>exact this
 cases hx
theorem kA{m:Mem}{b id sz:Nat}{K:Nat->Prop}{dv:List (List D)}{c:C}(h:Own m id sz dv c)(a:K id):Own (m.only b K) id sz dv c:=
 h.mono (by simp[Mem.only,a]) rfl
theorem Fg.mono{f:Nat}{args:List V}{R b:Mem->V->Prop}(h:Fg P f s args R)(k:∀m r,R m r->b m r):Fg P f s args b:=
 ⟨h.1,λB0 w0 n c G E a w vs j l d=>(h.2 B0 w0 n c G E a w vs j l d).mono λ_ _ ⟨v,G',E',m',r,e,g,i⟩=>⟨v,G',E',m',r,e,k _ _ g,i⟩⟩
theorem Fg.split{f sz:Nat}{c:List V}{R:Mem->V->Prop}(n:Fg P f s (.d .cj::c) R)(o:Fg P f s (.d .Pa::c) R):Fg P f s (.d (.gd sz [])::c) R:=by
 refine⟨n.1,λB0 w0 k h G E a w vs j g l=>?_⟩
 have p:vs.size=c.length+1:=by simpa using g
 have m:iz G (.gd sz []) vs[0]:=l 0 (.d (.gd sz [])) vs[0] rfl (bz (by lia))
 have b:∀y:D,iz G y vs[0]->∀(i:Nat) (x:V) (v:Value),(V.d y::c)[i]? =aa x->vs[i]? =aa v->j4 G E s x v:=by
  intro y hy i x v hx e
  cases i with
  |zero=>
   simp only[iw,av]at hx;rw[bz (by lia)]at e
   injection e with e
   subst hx e;exact hy
  |succ i=>exact l (i+1) x v hx e
 generalize q:vs[0]=v0 at m b
 cases m with
 |Y3=>exact n.2 B0 w0 k h G E a w vs j (by simpa using g) (b _ .cj)
 |gd=>exact o.2 B0 w0 k h G E a w vs j (by simpa using g) (b _ .Pa)
 |bN=>exact o.2 B0 w0 k h G E a w vs j (by simpa using g) (b _ .Pa)
def a5f(m:Mem)(b sz:Nat)(dv:List (List D))(m':Mem)(r:V):Prop:=
 (dv=[]/\m'=m/\r= .d .cj)\/(m'=m.put (b+5) (m.ba (b+5)+1) (.arr sz dv)/\r= .ref (b+5) (m.ba (b+5)+1) dv.length)
theorem FW(g:P.follows .mixedOrders=ah){f:Nat}{sz by_:Nat}{z:List D}(e:fu P f {}=aa (Jo sz by_ z,[.tmp 2],8))(m:Mem)(b:Nat):
  sl P f m [.d .Pa] (m.put (b+5) (m.ba (b+5)+1) (.arr sz [])) (.ref (b+5) (m.ba (b+5)+1) 0):=by
 refine mz g e (by simp) b (λc=>?_) (Mem.Mq (by lia)) Mem.Rr (λi es a=> .inl a) (by simp[Im,Mem.put,de]);show l7 P (Jo sz by_ z) (yu m [.tmp 2] _ _) _;simp only[Jo,enter,go_sem,ab,ao,reduceCtorEq,cw,Gv,pj,a1t,Qw,qz,uq];intro i;simp only[Mem.put,PS.mem,ar];by_cases a:i=b+5
 ·subst a;simp
 simp[a]
theorem iX(c:P.follows .mixedOrders=ah){f:Nat}{sz by_:Nat}{z:List D}(a:fu P f {}=aa (Jo sz by_ z,[.tmp 2],8)){dv:List (List D)}(h:∀e∈dv,e.all D.one=ah)(hb:dv.length*by_<=2^47)(s:PS)(b:Nat):
  Fg P f s [.d (.gd sz dv)] (a5f s.mem b sz dv):=by
 by_cases g:dv=[]
 ·subst g;refine Fg.split ?_ ?_
  ·have:=((NQ c a).toR).toE (s:=s);refine Fg.mono this ?_;rintro m r ⟨rfl,x,rfl,rfl⟩;exact .inl ⟨rfl,rfl,rfl⟩
  refine Fg.mono (FW c a s.mem b).toR ?_;rintro m r ⟨rfl,rfl⟩;exact .inr ⟨rfl,rfl⟩
 refine Fg.mono (rR c a g h hb s.mem b).toR ?_;rintro m r ⟨rfl,rfl⟩;exact .inr ⟨rfl,rfl⟩
theorem qY{cs:List C}:(mkv ah cs).cells s=aa cs:=by
 unfold mkv
 cases h:Mj cs with
 |none=>rfl
 |some ds=>
  have:∀(cs:List C) (ds:List D),Mj cs=aa ds->ds.map C.d=cs:=by
   intro cs
   induction cs with
   |nil=>intro ds h;simp[Mj]at h;subst h;rfl
   |cons c r b=>
    intro ds h
    cases c with
    |d x=>
     simp only[Mj]at h;split at h
     ·rename_i l a
      injection h with h
      subst h;simp[b l a]
     cases h
    |_=>simp[Mj]at h
  simp only[V.cells,this cs ds h]
end
def Q6(m:Mem)(b:Nat)(n:Nd)(e:List C):Prop:=∃cV cI,e=[.d (.str n.n),.d (.int aj n.f.k),cV,.d (kh n.f.ls),cI]/\Own m (b+45) 3 (n.f.vs.map B4) cV/\Own m (b+35) 1 (n.ins.map qt) cI
def a1n(m:Mem)(b:Nat)(n:Nd)(m':Mem)(r:V):Prop:=Ext m b (λi=>i=b+45\/i=b+35) m'/\∃e,r=mkv ah e/\Q6 m' b n e
theorem cL{m:Mem}{cs:List C}(h:∀c∈cs,Q7 m c):Im m (mkv ah cs):=by
 unfold mkv
 cases Mj cs with
 |none=>exact h
 |some ds=>trivial
theorem Q6.wf{m:Mem}{b:Nat}{n:Nd}{e:List C}(h:Q6 m b n e):∀c∈e,Q7 m c:=by
 obtain⟨cV,cI,rfl,d,f⟩:=h;intro c a;simp only[fa,kz,or_false]at a;rcases a with rfl|rfl|rfl|rfl|rfl
 ·trivial
 ·trivial
 ·exact d.wf
 ·trivial
 exact f.wf
theorem Zo{m:Mem}{s:PS}{b:Nat}{n:Nd}{cV cI:C}(o:s.tmp 2= .gz (b+2) (s.ba (b+2)) 0)(hb:s.di (b+2)=aa (.loc [.d (.str n.n),.d (.int aj n.f.k),cV,.d (kh n.f.ls),cI]))
  (c:Own s.mem (b+45) 3 (n.f.vs.map B4) cV)(a:Own s.mem (b+35) 1 (n.ins.map qt) cI)(t:∀i,m.ba i<=s.ba i)(e:∀i,i<b->s.di i=m.di i/\s.ba i=m.ba i/\s.mp i=m.mp i)
  (j:∀x,s.di (b+45)=aa x->Ni s.mem x)(h:∀x,s.di (b+35)=aa x->Ni s.mem x):
  ∃m' r,a1n m b n m' r/\qz s [.cell 2 5 ah]=aa r/\Leaves m s m' r:=by
 have g:Q6 s.mem b n [.d (.str n.n),.d (.int aj n.f.k),cV,.d (kh n.f.ls),cI]:=⟨cV,cI,rfl,c,a⟩
 obtain⟨p,q⟩:=Vd (m:=m) (s:=s) (b:=b) (K:=λi=>i=b+45\/i=b+35) (r:=mkv ah [.d (.str n.n),.d (.int aj n.f.k),cV,.d (kh n.f.ls),cI]) t e (λi l x hx=>by
  rcases l with rfl|rfl
  ·exact j x hx
  exact h x hx) (cL g.wf)
 refine⟨_,_,⟨q,_,rfl,cV,cI,rfl,kA c (.inl rfl),kA a (.inr rfl)⟩,?_,p⟩;simp only[qz,uq,o,Cw,PS.cs,hb,da];rfl
section
variable{P:Program}(A:Pr4 P)
theorem WT(n:Nd)(o:n.f.vs.length<=2^40)(g:n.f.ls.length<=2^30)(h:∀l∈n.f.ls,l.length<=2^40)(c:n.ins.length<=2^40)(s:PS)(b:Nat)(a:yg s.mem b):Fg P A.j5 s [.d (.agg (pa n))] (a1n s.mem b n):=by
 refine aO A.mo A.hZ (by simp) b λm=>?_;show l7 P (O4 A.pk A.lk A.kc A.ib) _ _;have c3:=qG A.toPr n.f.ls g h;simp only[kh]at c3;simp only[O4,enter,pa,kn,qx,kh,go_sem,ab,ak];refine ml (iX A.mo (sz:=1) (by_:=16) (z:=[.str ⟨#[]⟩]) A.Ls (dv:=n.ins.map qt) (by simp[qt,D.one]) (by simp only[al];lia) _ (b+30)) ?_;rintro p q (⟨e,rfl,rfl⟩|⟨rfl,rfl⟩)
 ·simp only[go_sem,ab,ak,ao,PS.ke,PS.mem];refine ml (iX A.mo (sz:=3) (by_:=32) (z:=[.str ⟨#[]⟩,.int aj 0,.int aj 0]) A.Bf (dv:=n.f.vs.map B4) (by simp[B4,D.one]) (by simp only[al];lia) _ (b+40)) ?_;rintro j k (⟨e2,rfl,rfl⟩|⟨rfl,rfl⟩)
  ·simp only[go_sem,ab,ak,ao,PS.ke,PS.mem];refine ir c3 ?_;simp only[go_sem,ab,ak,ao,reduceCtorEq];refine Zo (cV:= .d .cj) (cI:= .d .cj) (by simp[ar]) (by simp[ar,kh]) (.inl ⟨e2,rfl⟩) (.inl ⟨e,rfl⟩) (λi=>?_) (λi c=>?_) (λx hx=>?_) (λx hx=>?_)
   ·simp only[ar]
    (repeat' split)<;>first|lia|(subst_vars;lia)
   ·simp only[ar]
    refine⟨?_,?_,trivial⟩<;>(repeat' split)<;>first|lia|rfl
   ·simp only[ar,i7,ab,bp]at hx
    first|(injection hx with hx;subst hx;trivial)|(rw[show s.di (b+45)=ae from(a _ (by lia)).1]at hx;cases hx)
   simp only[ar,i7,ab,bp]at hx
   first|(injection hx with hx;subst hx;trivial)|(rw[show s.di (b+35)=ae from(a _ (by lia)).1]at hx;cases hx)
  simp only[go_sem,ab,ak,ao,PS.ke,PS.mem,Mem.put,tc,ff,al];refine ir c3 ?_;simp only[go_sem,ab,ak,ao,reduceCtorEq,ff,al];refine Zo (cV:= .ref (b+45) (s.ba (b+45)+1) n.f.vs.length) (cI:= .d .cj) (by simp[ar]) (by simp[ar,kh]) (.inr ⟨by simp[PS.mem,ar],by simp[PS.mem,ar]⟩) (.inl ⟨e,rfl⟩) (λi=>?_) (λi c=>?_) (λx hx=>?_) (λx hx=>?_)
  ·simp only[ar]
   (repeat' split)<;>first|lia|(subst_vars;lia)
  ·simp only[ar]
   refine⟨?_,?_,trivial⟩<;>(repeat' split)<;>first|lia|rfl
  ·simp only[ar,i7,ab,da,bp]at hx
   first|(injection hx with hx;subst hx;trivial)|(rw[show s.di (b+45)=ae from(a _ (by lia)).1]at hx;cases hx)
  simp only[ar,i7,ab,bp]at hx
  first|(injection hx with hx;subst hx;trivial)|(rw[show s.di (b+35)=ae from(a _ (by lia)).1]at hx;cases hx)
 simp only[go_sem,ab,ak,ao,PS.ke,PS.mem,Mem.put,tc,ff,al];refine ml (iX A.mo (sz:=3) (by_:=32) (z:=[.str ⟨#[]⟩,.int aj 0,.int aj 0]) A.Bf (dv:=n.f.vs.map B4) (by simp[B4,D.one]) (by simp only[al];lia) _ (b+40)) ?_;rintro j k (⟨e2,rfl,rfl⟩|⟨rfl,rfl⟩)
 ·simp only[go_sem,ab,ak,ao,PS.ke,PS.mem];refine ir c3 ?_;simp only[go_sem,ab,ak,ao,reduceCtorEq,ff,al];refine Zo (cV:= .d .cj) (cI:= .ref (b+35) (s.ba (b+35)+1) n.ins.length) (by simp[ar]) (by simp[ar,kh]) (.inl ⟨e2,rfl⟩) (.inr ⟨by simp[PS.mem,ar],by simp[PS.mem,ar]⟩) (λi=>?_) (λi c=>?_) (λx hx=>?_) (λx hx=>?_)
  ·simp only[ar]
   (repeat' split)<;>first|lia|(subst_vars;lia)
  ·simp only[ar]
   refine⟨?_,?_,trivial⟩<;>(repeat' split)<;>first|lia|rfl
  ·simp only[ar,i7,ab,bp]at hx
   first|(injection hx with hx;subst hx;trivial)|(rw[show s.di (b+45)=ae from(a _ (by lia)).1]at hx;cases hx)
  simp only[ar,i7,ab,da,bp]at hx
  first|(injection hx with hx;subst hx;trivial)|(rw[show s.di (b+35)=ae from(a _ (by lia)).1]at hx;cases hx)
 simp only[go_sem,ab,ak,ao,PS.ke,PS.mem,Mem.put,tc,ff,al];refine ir c3 ?_;simp only[go_sem,ab,ak,ao,reduceCtorEq,ff,al];refine Zo (cV:= .ref (b+45) (s.ba (b+45)+1) n.f.vs.length) (cI:= .ref (b+35) (s.ba (b+35)+1) n.ins.length) (by simp[ar]) (by simp[ar,kh]) (.inr ⟨by simp[PS.mem,ar],by simp[PS.mem,ar]⟩) (.inr ⟨by simp[PS.mem,ar],by simp[PS.mem,ar]⟩) (λi=>?_) (λi c=>?_) (λx hx=>?_) (λx hx=>?_)
 ·simp only[ar]
  (repeat' split)<;>first|lia|(subst_vars;lia)
 ·simp only[ar]
  refine⟨?_,?_,trivial⟩<;>(repeat' split)<;>first|lia|rfl
 ·simp only[ar,i7,ab,da,bp]at hx
  first|(injection hx with hx;subst hx;trivial)|(rw[show s.di (b+45)=ae from(a _ (by lia)).1]at hx;cases hx)
 simp only[ar,i7,ab,da,bp]at hx
 first|(injection hx with hx;subst hx;trivial)|(rw[show s.di (b+35)=ae from(a _ (by lia)).1]at hx;cases hx)
end
def a8j(s:PS)(id sz:Nat)(dv:List (List C))(v:V):Prop:=(dv=[]/\v= .d .cj)\/(dv≠[]/\v= .ref id (s.ba id) dv.length/\s.di id=aa (.ru sz dv))
structure a5e(s s':PS)(d id sz:Nat)(dv:List (List C)):Prop where
 tmp:s'.tmp=lu s.tmp d (.ref id (s'.ba id) dv.length)
 di:s'.di=lu s.di id (aa (.ru sz dv))
 ba:∀j,j≠id->s'.ba j=s.ba j
 a5w:s.ba id<=s'.ba id
 mp:s'.mp=s.mp
 base:s'.base=s.base
section
variable{P:Program}{Q:Exit->PS->Prop}{K:PS->Prop}{s:PS}{r:List RI}{d:Option Nat}{af:List Nat}
theorem YE{d sz t:Nat}{z:List D}{cs:List C}(c:(s.tmp t).cells s=aa cs)(a:cs.length=sz)(hz:z.length=sz)(b:cs.all (C.one s)=ah)
  (h:mc P r {s with tmp:=lu s.tmp d (.ref (s.base+d) (s.ba (s.base+d)+1) 1),di:=lu s.di (s.base+d) (aa (.ru sz [cs])),ba:=lu s.ba (s.base+d) (s.ba (s.base+d)+1)} K):
  mc P (⟨aa d,.dT 1 sz z [(0,sz,.t t)],ae,af⟩::r) s K:=by
 have f:patch (z.map C.d) 0 cs=cs:=by
  unfold patch;rw[My,ub,Oo (by simp;lia),pt]
 have e:Nc (((jq 1 z).flatten).map C.d) [(0,sz,cs)]=aa cs:=by
  simp only[Nc,jq,VK,acg,pt,al];rw[bc ⟨a,by lia⟩,f]
 have g:cs.take sz=cs:=by rw[<-a];exact fm
 rw[RH];simp only[lg.qi,Kr,AL,c,e,b,da,jj,Dk,my.app,PS.vz,PS.put,chunks,g];exact h
theorem DK{d sz b yid yver:Nat}{x y:ov}{dv ys:List (List C)}(hx:a8j s (s.base+d) sz dv (x.ev s))(hy:y.ev s= .ref yid yver ys.length)(f:s.ba yid=yver)(c:s.di yid=aa (.ru sz ys))
  (m:(ys.all λe=>e.all (C.one s))=ah)(hb:(dv.length+ys.length)*b<=2^47)(l:ys≠[])(h:∀s',a5e s s' d (s.base+d) sz (dv++ys)->mc P r s' K):
  mc P (⟨aa d,.app sz b x y,ae,af⟩::r) s K:=by
 subst f;have o:0<ys.length:=W8.2 l
 have i:pj s (.ref yid (s.ba yid) ys.length)=none:=by simp[pj,PS.dv,c]
 have e2:aQ s (.ref yid (s.ba yid) ys.length)=aa (ys,aa sz):=by simp[aQ,PS.elc,c]
 rw[Gv];simp only[lg.qi,hy,i,S3,e2,jj];rw[bc ⟨trivial,m⟩];rcases hx with ⟨rfl,hx⟩|⟨n,hx,a⟩
 ·simp only[hx];rw[aq (by lia),bc (by simpa using hb),Dk];refine h _ ⟨?_,?_,?_,?_,rfl,rfl⟩
  ·simp[my.app,PS.put,PS.vz,de]
  ·simp[my.app,PS.put,PS.vz]
  ·intro j g;simp[my.app,PS.put,PS.vz,ie _ _ _ _ g]
  simp[my.app,PS.put,PS.vz,de]
 have k:s.elc (s.base+d) (s.ba (s.base+d))=aa (sz,dv):=by
  unfold PS.elc;rw[bc rfl,a]
 simp only[hx,k];rw[bc ⟨trivial,trivial,hb⟩,Dk];refine h _ ⟨?_,?_,?_,?_,rfl,rfl⟩
 ·simp[my.app,PS.put,PS.vz]
 ·simp[my.app,PS.put,PS.vz]
 ·intro j g;simp[my.app,PS.put,PS.vz]
 simp[my.app,PS.put,PS.vz]
end
theorem Q6.mono{m m':Mem}{b:Nat}{n:Nd}{e:List C}(h:Q6 m b n e)(a:m'.di (b+45)=m.di (b+45))(c:m'.ba (b+45)=m.ba (b+45))(d:m'.di (b+35)=m.di (b+35))(f:m'.ba (b+35)=m.ba (b+35)):Q6 m' b n e:=by
 obtain⟨cV,cI,rfl,g,i⟩:=h;exact⟨cV,cI,rfl,g.mono a c,i.mono d f⟩
theorem Q6.XY{s:PS}{m:Mem}{b:Nat}{n:Nd}{e:List C}(h:Q6 m b n e)(a:s.mem=m):e.all (C.one s)=true:=by
 subst a;obtain⟨cV,cI,rfl,c,d⟩:=h;simp only[X8,adh,c.one,d.one,Ip];rfl
theorem Q6.len{m:Mem}{b:Nat}{n:Nd}{e:List C}(h:Q6 m b n e):e.length=5:=by
 obtain⟨cV,cI,rfl,_⟩:=h;rfl
def Of(m:Mem)(b:Nat)(l:List Nd)(cells:List (List C)):Prop:=cells.length=l.length/\∀k,k<l.length->Q6 m (b+64+64*k) (l.getD k n0) (cells.getD k [])
def eE(b n:Nat)(i:Nat):Prop:=i=b+19\/∃k,k<n/\(i=b+64+64*k+45\/i=b+64+64*k+35)
def a5c(m:Mem)(b:Nat)(l:List Nd)(v:V):Prop:=∃cells,Of m b l cells/\((l=[]/\v= .d .cj)\/(l≠[]/\v= .ref (b+19) (m.ba (b+19)) l.length/\m.di (b+19)=aa (.ru 5 cells)))
def a5d(m:Mem)(b:Nat)(l:List Nd)(m':Mem)(r:V):Prop:=Ext m b (eE b l.length) m'/\a5c m' b l r
section
variable{P:Program}(A:Pr4 P)
def VH(m:Mem)(b:Nat)(l:List Nd)(i:Nat)(s':PS):Prop:=
 s'.base=b/\(∀j,j<b->s'.di j=m.di j/\s'.ba j=m.ba j/\s'.mp j=m.mp j)/\(∀j,m.ba j<=s'.ba j)/\(∀j,b+64<=j->¬eE b i j->s'.di j=ae)/\(∀j,b<=j->s'.mp j=ae)/\(∀j,b+64<=j->∀x,s'.di j=aa x->Ni s'.mem x)/\
 ∃cells,Of s'.mem b (l.take i) cells/\a8j s' (b+19) 5 cells (s'.tmp 5)/\(i=0->s'.di (b+19)=ae)
theorem KE(l:List Nd)(h:l.length<=2^20)(hn:∀n∈l,n.f.vs.length<=2^40/\n.f.ls.length<=2^30/\(∀q∈n.f.ls,q.length<=2^40)/\n.ins.length<=2^40)(s:PS)(b:Nat)(U:yg s.mem b):
  Fg P A.fg s [.d (lr l),.d (.qb A.j5 [])] (a5d s.mem b l):=by
 refine aO A.mo A.Mf (by simp) b λcx=>?_;show l7 P Ak _ _;simp only[Ak,enter,lr,go_sem,ab,reduceCtorEq];refine wv (λs'=>VH s.mem b l l.length s') ?_ ?_
 ·refine gf l.length (λi s'=>VH s.mem b l i s'/\s'.tmp 1= .d (.qb A.j5 [])/\s'.tmp 8= .d (.gd 5 (l.map pa))/\s'.tmp 9= .d (.int aj l.length)/\s'.tmp 10= .d (.int aj i)) ?_ ?_
  ·simp only[VH,go_sem,ab,PS.mem,al];refine⟨λj _=>trivial,λj=>trivial,λj c _=>(U j (by lia)).1,λj c=>(U j c).2,λj c x hx=>?_,[],⟨rfl,λk o=>absurd o (by simp)⟩,.inl ⟨rfl,rfl⟩,λ_=>(U _ (by lia)).1⟩;rw[show s.di j=ae from(U j (by lia)).1]at hx;cases hx
  rintro i s' hi ⟨⟨R,low,D,Q,z,C,cells,p,acc,H⟩,f1,f8,f9,G⟩;by_cases ju:(i:Int)<l.length
  ·have S:i<l.length:=by lia
   have wi:=dr ((i:Int)+1) (by lia) (by lia);have hg:=J6 S
   have hm:l.getD i n0∈l:=by
    have e:l.getD i n0=l[i]:=by simp[cz,S]
    rw[e];exact dj _
   obtain⟨k1,k2,k3,k4⟩:=hn _ hm
   have O:l.take (i+1)=l.take i++[l.getD i n0]:=by
    rw[j3];simp[S,cz]
   generalize a6:l.getD i n0=n at*
   simp only[qx,kh,kn]at hg;simp only[go_sem,ab,ak,reduceCtorEq,R,f1,f8,f9,G,ju,hg,bn,aw,mO,yK];refine ml (WT A n k1 k2 k3 k4 _ (b+64+64*i) ?_) ?_
   ·intro j c;simp only[PS.mem,ar];rw[aq (by lia),aq (by lia)];refine⟨Q j (by lia) ?_,z j (by lia)⟩;rintro(y|⟨k,o,y|y⟩)<;>lia
   rintro t r1 ⟨⟨F,X,Y,L,a0⟩,e,rfl,hN⟩;simp only[PS.mem,ar]at F L
   have A1:∀j,j<b+64+64*i->j≠b+7->t.di j=s'.di j/\t.ba j=s'.ba j/\t.mp j=s'.mp j:=by
    intro j c l8;have:=F j c;simp only[aq l8]at this;exact this
   have A4:∀j,s'.ba j<=t.ba j:=by
    intro j;have:=L j;split at this
    ·rename_i h;subst h;lia
    exact this
   have h5:=hN.len;have J:=A1 (b+19) (by lia) (by lia);refine YE (cs:=e) ?_ h5 ?_ ?_ ?_
   ·simp only[jW,de];exact qY
   ·rfl
   ·exact hN.XY rfl
   simp only[jW,PS.ke];refine DK (dv:=cells) (ys:=[e]) (yid:=b+18) (yver:=t.ba (b+18)+1) ?_ (by simp[ar,AL]) (by simp[ar]) (by simp[ar]) ?_ ?_ (by simp) ?_
   ·simp only[AL,ar,ab,bp];rcases acc with ⟨a1,u⟩|⟨a1,u,a3⟩
    ·exact .inl ⟨a1,u⟩
    exact .inr ⟨a1,by simp[ar,u,J.2.1],by simp[ar,J.1,a3]⟩
   ·simp only[X8,adh,Ip];refine Q6.XY (m:=⟨lu t.di (b+18) (aa (.ru 5 [e])),lu t.ba (b+18) (t.ba (b+18)+1),t.mp⟩) (hN.mono ?_ ?_ ?_ ?_) rfl<;>simp only[ar]<;>rw[aq (by lia)]
   ·have:=p.1;simp only[ey]at this;simp only[cq,ew];lia
   intro w g
   have v:∀j,w.di j=if j=b+19 then aa (.ru 5 (cells++[e]))else if j=b+18 then aa (.ru 5 [e])else t.di j:=by
    intro j;rw[g.di];simp only[ar]
   have B:∀j,j≠b+19->w.ba j=if j=b+18 then t.ba (b+18)+1 else t.ba j:=by
    intro j c;rw[g.ba j c];simp only[ar]
   have a5:t.ba (b+19)<=w.ba (b+19):=by have:=g.a5w;simpa[ar]using this
   have N:w.mp=t.mp:=g.mp
   have Z:(cells++[e]).length=i+1:=by
    have:=p.1;simp only[ey]at this;simp only[dz,cq,ew];lia
   have V:∀j,j<b+64+64*i->j≠b+7->j≠b+18->j≠b+19->w.di j=s'.di j/\w.ba j=s'.ba j:=by
    intro j y T h3 h4;rw[v,B j h4,aq h4,aq h3,aq h3];exact⟨(A1 j y T).1,(A1 j y T).2.1⟩
   have Hn:Of w.mem b (l.take (i+1)) (cells++[e]):=by
    have a4:cells.length=i:=by
     have:=p.1;simp only[ey]at this;lia
    have I:(l.take i).length=i:=by simp only[ey];lia
    refine⟨by rw[Z,O];simp only[dz,cq,ew,I],λk o=>?_⟩;rw[O]at o|-;simp only[dz,cq,ew,I]at o;rcases Xq.1 o with M|rfl
    ·have g1:(l.take i++[n]).getD k n0=(l.take i).getD k n0:=by
      simp only[Bj];rw[kq (by lia)]
     have g2:(cells++[e]).getD k []=cells.getD k []:=by
      simp only[Bj];rw[kq (by lia)]
     rw[g1,g2];obtain⟨q1,q2⟩:=V (b+64+64*k+45) (by lia) (by lia) (by lia) (by lia);obtain⟨q3,q4⟩:=V (b+64+64*k+35) (by lia) (by lia) (by lia) (by lia);exact(p.2 k (by lia)).mono q1 q2 q3 q4
    have g1:(l.take k++[n]).getD k n0=n:=by
     simp only[Bj];rw[l9 (by lia),I,Wu];rfl
    have g2:(cells++[e]).getD k []=e:=by
     simp only[Bj];rw[l9 (by lia),a4,Wu];rfl
    rw[g1,g2];refine hN.mono ?_ ?_ ?_ ?_
    ·show w.di _=_;rw[v,aq (by lia),aq (by lia)]
    ·show w.ba _=_;rw[B _ (by lia),aq (by lia)]
    ·show w.di _=_;rw[v,aq (by lia),aq (by lia)]
    show w.ba _=_;rw[B _ (by lia),aq (by lia)]
   have W:∀j,t.ba j<=w.ba j:=by
    intro j;by_cases c:j=b+19
    ·subst c;exact a5
    rw[B j c];split
    ·rename_i h;subst h;lia
    exact bm _
   simp only[VH,go_sem,ab,reduceCtorEq,g.tmp,g.base,f1,f8,f9,G,wi,S]
   refine⟨⟨λj c=>?_,λj=>jg (D j) (jg (A4 j) (W j)),λj c o=>?_,λj c=>?_,λj c x hx=>?_,cells++[e],Hn,.inr ⟨by simp,?_,by rw[v,bc rfl]⟩,λE=>by first|cases E|lia|simp at E⟩,by rw[mu];rfl⟩
   ·obtain⟨q1,q2⟩:=V j (by lia) (by lia) (by lia) (by lia);rw[q1,q2,N,(A1 j (by lia) (by lia)).2.2];exact low j c
   ·rw[v,aq (by lia),aq (by lia)];rcases iZ j (b+64+64*i)with a|a
    ·rw[(A1 j a (by lia)).1];refine Q j c λM=>o ?_;rcases M with y|⟨k,y,T⟩
     ·exact .inl y
     exact .inr ⟨k,by lia,T⟩
    refine X j a λy=>o (.inr ⟨i,by lia,y⟩)
   ·rw[N];rcases iZ j (b+64+64*i)with a|a
    ·by_cases h7:j=b+7
     ·subst h7;have:=(F (b+7) (by lia)).2.2;rw[this];exact z _ c
     rw[(A1 j a h7).2.2];exact z j c
    exact Y j a
   ·rw[v,aq (by lia),aq (by lia)]at hx;rcases iZ j (b+64+64*i)with a|a
    ·rw[(A1 j a (by lia)).1]at hx;exact(C j c x hx).mono λq=>jg (A4 q) (W q)
    exact(a0 j a x hx).mono W
   simp only[]
  have:i=l.length:=by lia
  subst this;simp only[VH,go_sem,ab,reduceCtorEq,PS.mem,R,f9,G,ju];exact⟨low,D,Q,z,C,cells,p,acc,H⟩
 rintro s' ⟨R,low,D,Q,z,C,cells,p,acc,H⟩;simp only[go_sem,reduceCtorEq,PS.mem,R];rw[fm]at p
 have hK:∀i,eE b l.length i->∀x,s'.di i=aa x->Ni s'.mem x:=by
  rintro i (rfl|⟨k,o,y⟩) x hx
  ·rcases acc with ⟨a1,u⟩|⟨a1,u,a3⟩
   ·have E:l.length=0:=by rw[<-p.1,a1];rfl
    rw[H E]at hx;cases hx
   rw[a3]at hx
   injection hx with hx
   subst hx;intro e he;obtain⟨k,o,rfl⟩:=j0.1 he;have:=(p.2 k (by rw[<-p.1];exact o)).wf
   have e1:cells.getD k []=cells[k]:=by simp[cz,o]
   rw[e1]at this;exact this
  exact C i (by lia) x hx
 have hr:Im s'.mem (s'.tmp 5):=by
  rcases acc with ⟨a1,u⟩|⟨a1,u,a3⟩
  ·rw[u];trivial
  rw[u];exact bm _
 obtain⟨k1,k2⟩:=Vd (m:=s.mem) (s:={tmp:=lu (lu s'.tmp 21 (s'.tmp 5)) 4 (s'.tmp 5),di:=s'.di,ba:=s'.ba,mp:=s'.mp,base:=b,ctx:=s'.ctx}) (b:=b) (K:=eE b l.length) (r:=s'.tmp 5) D low hK hr;refine⟨_,_,⟨k2,cells,⟨p.1,λk o=>?_⟩,?_⟩,rfl,k1⟩
 ·exact(p.2 k o).mono (by simp only[Mem.only];rw[bc (.inr (.inr ⟨k,o,.inl rfl⟩))];rfl) rfl (by simp only[Mem.only];rw[bc (.inr (.inr ⟨k,o,.inr rfl⟩))];rfl) rfl
 rcases acc with ⟨a1,u⟩|⟨a1,u,a3⟩
 ·have E:l=[]:=jf (by rw[<-p.1,a1];rfl);exact .inl ⟨E,u⟩
 refine .inr ⟨λE=>a1 (jf (by rw[p.1,E];rfl)),by rw[u,p.1];rfl,?_⟩;simp only[Mem.only];rw[bc (.inr (.inl rfl))];exact a3
end
def Dw(m:Mem)(b:Nat)(t:Tr)(cs:List C):Prop:=∃cP cN cells,cs=[cP,cN]/\Own m (b+15) 2 (t.ps.map mg) cP/\Of m (b+32) t.ns cells/\
 ((t.ns=[]/\cN= .d .cj)\/(t.ns≠[]/\cN= .ref (b+51) (m.ba (b+51)) t.ns.length/\m.di (b+51)=aa (.ru 5 cells)))
def a1m(b n:Nat)(i:Nat):Prop:=i=b+15\/eE (b+32) n i
def a1q(m:Mem)(b:Nat)(t:Tr)(m':Mem)(r:V):Prop:=Ext m b (a1m b t.ns.length) m'/\∃cs,r=mkv ah cs/\Dw m' b t cs
theorem UE{m a:Mem}{s:PS}{b:Nat}{t:Tr}{cP cN:C}{cells:List (List C)}(D:s.tmp 2= .gz (b+2) (s.ba (b+2)) 0)(hb:s.di (b+2)=aa (.loc [cP,cN]))(hx:Ext m (b+32) (eE (b+32) t.ns.length) a)
  (g:∀i,i≠b+2->s.di i=a.di i)(q:s.ba=a.ba)(B:s.mp=a.mp)(z:Own s.mem (b+15) 2 (t.ps.map mg) cP)(y:Of a (b+32) t.ns cells)
  (hN:(t.ns=[]/\cN= .d .cj)\/(t.ns≠[]/\cN= .ref (b+51) (a.ba (b+51)) t.ns.length/\a.di (b+51)=aa (.ru 5 cells)))
  {f:Mem}(A:∀i,i<b->m.di i=f.di i/\m.ba i=f.ba i/\m.mp i=f.mp i)(G:∀i,f.ba i<=m.ba i)(p:∀x,m.di (b+15)=aa x->Ni a x):
  ∃m' r,a1q f b t m' r/\qz s [.cell 2 2 ah]=aa r/\Leaves f s m' r:=by
 have e2:s.mem.ba=a.ba:=q;have v:Of s.mem (b+32) t.ns cells:=⟨y.1,λk j=>(y.2 k j).mono (g _ (by lia)) (by rw[e2]) (g _ (by lia)) (by rw[e2])⟩
 have l:(t.ns=[]/\cN= .d .cj)\/(t.ns≠[]/\cN= .ref (b+51) (s.mem.ba (b+51)) t.ns.length/\s.mem.di (b+51)=aa (.ru 5 cells)):=by
  rcases hN with h|⟨q0,q1,q2⟩
  ·exact .inl h
  exact .inr ⟨q0,by rw[e2];exact q1,by rw[<-q2];exact g _ (by lia)⟩
 have o:∀x,Ni a x->Ni s.mem x:=λx hx=>hx.mono λi=>by rw[e2];exact bm _
 obtain⟨E,F⟩:=Vd (m:=f) (s:=s) (b:=b) (K:=a1m b t.ns.length) (r:=mkv ah [cP,cN]) (λi=>by
   rw[q];exact jg (G i) (hx.ba i)) (λi n=>by
   rw[g i (by lia),q,B,(hx.low i (by lia)).1,(hx.low i (by lia)).2.1,(hx.low i (by lia)).2.2]
   exact A i n) (λi n x e=>by
   rcases n with rfl|n
   ·rw[g _ (by lia),(hx.low (b+15) (by lia)).1]at e;exact o _ (p x e)
   ·have u:b+32<=i:=by rcases n with rfl|⟨k,j,rfl|rfl⟩<;>lia
    rw[g _ (by lia)]at e
    exact o _ (hx.wf i u x e)) (cL λc w=>by
   simp only[fa,kz,or_false]at w;rcases w with rfl|rfl
   ·exact z.wf
   rcases l with ⟨_,rfl⟩|⟨_,rfl,_⟩
   ·trivial
   exact bm _)
 refine⟨_,_,⟨F,_,rfl,cP,cN,cells,rfl,kA z (.inl rfl),⟨v.1,λk j=>(v.2 k j).mono ?_ rfl ?_ rfl⟩,?_⟩,?_,E⟩
 ·simp only[Mem.only];rw[bc (.inr (.inr (.inr ⟨k,j,.inl rfl⟩)))]
 ·simp only[Mem.only];rw[bc (.inr (.inr (.inr ⟨k,j,.inr rfl⟩)))]
 ·rcases l with h|⟨q0,q1,q2⟩
  ·exact .inl h
  refine .inr ⟨q0,q1,?_⟩;simp only[Mem.only];rw[bc (.inr (.inr (.inl rfl)))];exact q2
 simp only[qz,uq,D,Cw,PS.cs,hb,da];rfl
section
variable{P:Program}(A:Pr4 P)
theorem KJ(t:Tr)(h:Mid t)(s:PS)(b:Nat)(w:yg s.mem b):Fg P A.lz s [.d (.agg (vt t))] (a1q s.mem b t):=by
 refine aO A.mo A.aD (by simp) b λJ=>?_;show l7 P (Kj A.gn A.fg A.j5) _ _;obtain⟨K,L,E⟩:=h
 have r:∀n∈t.ns,n.f.vs.length<=2^40/\n.f.ls.length<=2^30/\(∀q∈n.f.ls,q.length<=2^40)/\n.ins.length<=2^40:=λn F=>by
  obtain⟨M,N,I,O⟩:=E n F
  exact⟨by lia,by lia,λq G=>by have:=I q G;lia,by lia⟩
 have o:=λs b=>iX (P:=P) A.mo (sz:=2) (by_:=24) (z:=[.str ⟨#[]⟩,.int aj 0]) A.G4 (dv:=t.ps.map mg) (by simp[mg,D.one]) (by simp only[al];lia) s b;simp only[Kj,enter,vt,ki,BW,go_sem,ab,ak,ao]
 repeat' (refine afm ?_ ?_)
 all_goals
  refine ml (o _ (b+10)) ?_;rintro Q S (⟨C,rfl,rfl⟩|⟨rfl,rfl⟩)
 all_goals
  simp only[go_sem,ab,ak,PS.ke,PS.mem,Mem.put,tc,al];refine ml (KE A t.ns (by lia) r _ (b+32) ?_) ?_;intro i p;simp only[PS.mem,ar]
  (repeat' rw[aq (by lia)])
  exact w i (by lia)
 all_goals
  rintro R T ⟨hx,cells,v,H⟩;have u:=hx.low (b+2) (by lia);have j:=hx.low (b+15) (by lia);simp only[PS.mem,ar,i7,ab,reduceIte]at u j;obtain⟨k,c,y⟩:=u;obtain⟨g,e,B⟩:=j;have l:=(w (b+15) (by lia)).1;simp only[PS.mem]at l;rcases H with ⟨q0,rfl⟩|⟨q0,rfl,q1⟩
 all_goals
  have m:=v.1;simp only[go_sem,ab,ak,ao,reduceCtorEq,PS.ke,tc,ff,al,k,c,g,e]
  try simp only[go_sem,ab,ak,ao,reduceCtorEq,ff,al,k,c,g,e,q1,m]
  refine UE (cells:=cells) ?_ (de _ _ _) hx (λi p=>ie _ _ _ _ p) rfl rfl ?_ v ?_ (λi p=>?_) (λi=>?_) (λx a=>?_)
  ·simp[ar,c]
  ·first|exact .inl ⟨C,rfl⟩|exact .inr ⟨by simp[PS.mem,e],by simp[PS.mem,ar,g]⟩
  ·first|exact .inl ⟨q0,rfl⟩|exact .inr ⟨q0,rfl,q1⟩
  ·simp only[PS.mem,ar];refine⟨?_,?_,trivial⟩<;>(repeat' rw[aq (by lia)])
  ·simp only[PS.mem,ar]
   (repeat' split)<;>first|lia|(subst_vars;lia)
  simp only[PS.mem,ar,i7,ab,reduceIte,l]at a
  first|(cases a;done)|(injection a with a;subst a;trivial)
end
def vM(sz by_:Nat)(z:List D):eh:=
 (.seq (
 .region [⟨aa 6,.kf (.c .cj),ae,[]⟩] ag []) (
 (.seq (
  .region [⟨aa 8,.kf (.t 0),ae,[]⟩,
   ⟨aa 9,.kf (.t 1),ae,[]⟩,
   ⟨aa 10,.kf (.t 2),ae,[]⟩,
   ⟨aa 11,.kf (.t 0),ae,[]⟩,
   ⟨aa 12,.len .gd (.t 11),ae,[]⟩,
   ⟨aa 13,.Ot sz (.t 8) (aa (.t 9)) (aa (.t 10)) (aa (.t 12)),ae,[]⟩] ag []) (
  (.seq (
  (.seq (
   .region [⟨aa 14,.kf (.t 1),ae,[]⟩,
    ⟨aa 15,.kf (.t 2),ae,[]⟩,
    ⟨aa 16,.bin .eql (.t 14) (.t 15),ae,[]⟩] ag []) (
   (.cond (.t 16) (
   (.seq (
    .region [⟨aa 17,.kf (.t 0),ae,[]⟩,
     ⟨aa 6,.kf (.t 17),ae,[]⟩] ag []) (
    .ret))) (
   .skip))))) (
  (.seq (
   .region [⟨aa 18,.kf (.t 0),ae,[]⟩,
    ⟨aa 19,.len .gd (.t 18),ae,[]⟩,
    ⟨aa 7,.kf (.t 19),ae,[]⟩] ag []) (
   (.seq (
   .region [⟨aa 20,.kf (.t 0),ae,[]⟩,
    ⟨aa 21,.kf (.t 1),ae,[]⟩,
    ⟨aa 22,.Ot sz (.t 20) ae (aa (.t 21)) ae,ae,[]⟩,
    ⟨aa 23,.kf (.t 0),ae,[]⟩,
    ⟨aa 24,.kf (.t 2),ae,[]⟩,
    ⟨aa 25,.Ot sz (.t 23) (aa (.t 24)) ae ae,ae,[]⟩,
    ⟨aa 26,.app sz by_ (.t 22) (.t 25),ae,[]⟩,
    ⟨aa 0,.kf (.t 26),ae,[]⟩] ah []) (
   (.seq (
    .region [⟨aa 27,.kf (.t 0),ae,[]⟩,
     ⟨aa 28,.kf (.t 0),ae,[]⟩,
     ⟨aa 29,.len .gd (.t 28),ae,[]⟩,
     ⟨aa 30,.kf (.t 7),ae,[]⟩,
     ⟨aa 31,.Ot sz (.t 27) (aa (.t 29)) (aa (.t 30)) ae,ae,[]⟩,
     ⟨ae,.clr z (.t 31),ae,[]⟩] ag []) (
    (.seq (
    .region [⟨aa 32,.trim (.t 0),ae,[]⟩,
     ⟨aa 6,.kf (.t 32),ae,[]⟩] ag []) (
    .ret))))))))))))))
section
variable{P:Program}
theorem mN(I:P.follows .mixedOrders=ah){f:Nat}{sz by_:Nat}{z:List D}(H:fu P f {imm:=[],x7:=[],ce:=[],cf:=[],cr:=[],kp:=[13,22,25,31,32],cv:=[],dyn:=[],od:=[]}=aa (vM sz by_ z,[.tmp 6],33))
  {dv:List (List D)}{i:Nat}(p:i<dv.length)(hz:z.length=sz)(n:z.all D.one=ah)(J:∀e∈dv,e.all D.one=ah)(O:dv.length<=2^30){m:Mem}{id ba:Nat}(hb:m.di id=aa (.arr sz dv))(K:m.ba id=ba)(b:Nat):
  sl P f m [.ref id ba dv.length,.d (.int aj i),.d (.int aj ((i:Int)+1))] (m.put id (ba+1) (.arr sz (dv.eraseIdx i))) (.ref id (ba+1) (dv.length-1)):=by
 subst K;refine mz I H (by simp) b (λc=>?_) (Mem.Mq (by lia)) Mem.Rr (λi es p=> .inl p) (by simp[Im,Mem.put,de]);show l7 P (vM sz by_ z) (yu m [.tmp 6] _ _) _
 have r:0<dv.length:=by lia
 have a:((i:Int)+1).toNat=i+1:=by lia
 have l:(0:Int)<=(i:Int)+1:=by lia
 have L:((i:Int)==(i:Int)+1)=false:=by rw[beq_eq_false_iff_ne];lia
 have s:i+1<=dv.length:=by lia
 have t:i<=i+1:=by lia
 have u:i<=dv.length:=by lia
 have q:(((dv.drop (i+1)).take (dv.length-(i+1))).all λe=>e.all D.one)=true:=dg.2 λe G=>J e (List.mem_of_mem_drop (sC G));have o:afl (dv.length-(i+1)) (afk (i+1) dv)=afk (i+1) dv:=D0 (by simp);rw[o]at q
 have x:i+1+(dv.length-(i+1))=dv.length:=by lia
 have y:min i dv.length=i:=by lia
 have A:dv.length-(dv.length-1)=1:=by lia
 have C:dv.length-1+1=dv.length:=by lia
 have N:min (dv.length-1) dv.length=dv.length-1:=by lia
 have k:(dv.take i++dv.drop (i+1)).length=dv.length-1:=by simp only[dz,ey,A0];lia
 have E:∀Y:List (List D),afl (dv.length-1) (dv.take i++dv.drop (i+1)++Y)=dv.eraseIdx i:=λY=>by
  rw[ada k,ta]
 have F:∀Y Z:List (List D),afl (dv.length-1) (dv.eraseIdx i++Y++Z)=dv.eraseIdx i:=λY Z=>by
  rw[uy];exact ada (by rw[ta];exact k)
 have h:(dv.eraseIdx i).length=dv.length-1:=by rw[ta];exact k
 have v:i+1-i=1:=by lia
 have M:dv.length-(i+1)+(i+1)=dv.length:=by lia
 have g:i+(dv.length-(i+1))=dv.length-1:=by lia
 have w:dv.length-1<=dv.length:=by lia
 simp only[vM,enter,go_sem,ab,reduceCtorEq,cw,hb,pj,bn,aw,a,l,L,r,s,t,u,Gv,q,B.Ei,imp_self,implies_true,aei,Wt,v,g,w,ey,A0,dz,bm,o,x,y,A,C,qz,uq,hz,n,Wu,Ad,E,F,true_and,h];intro j;simp only[Mem.put,PS.mem,ar];by_cases a:j=id
 ·subst a;simp
 simp[a]
end
structure WN where
 n:Nd
 x:D
 y:D
 hx:Wk x (qx n.f.vs)
 hy:Wk y (kn n.ins)
 ox:x.one=ah
 oy:y.one=ah
def D7(z:WN):List D:=[.str z.n.n,.int aj z.n.f.k,z.x,kh z.n.f.ls,z.y]
def WN.of(n:Nd):WN:=⟨n,qx n.f.vs,kn n.ins,Wk.refl _,Wk.refl _,rfl,rfl⟩
theorem a1x(z:WN):(D7 z).length=(pa z.n).length/\∀(j:Nat) (x y:D),(D7 z)[j]? =aa x->(pa z.n)[j]? =aa y->Wk x y:=by
 refine⟨rfl,λj x y hx hy=>?_⟩
 match j with
 |0=>simp[D7,pa]at hx hy;subst hx hy;exact Wk.refl _
 |1=>simp[D7,pa]at hx hy;subst hx hy;exact Wk.refl _
 |2=>simp[D7,pa]at hx hy;subst hx hy;exact z.hx
 |3=>simp[D7,pa]at hx hy;subst hx hy;exact Wk.refl _
 |4=>simp[D7,pa]at hx hy;subst hx hy;exact z.hy
 |j+5=>simp[D7]at hx
theorem Jp(zs:List WN):Wk (.gd 5 (zs.map D7)) (lr (zs.map WN.n)):=by
 unfold lr;refine Wk.gd (by simp) λi a b d hb=>?_;simp only[JE,dn,ax]at d hb;obtain⟨z,hz,rfl⟩:=d;obtain⟨e,c,rfl⟩:=hb;rw[hz]at c
 injection c with c
 subst c;exact a1x z
theorem Lw{x y d e:D}(f:Wk x d)(g:Wk y e):Wk (.agg [x,y]) (.agg [d,e]):=by
 refine Wk.agg rfl λi a b c hb=>?_
 match i with
 |0=>simp at c hb;subst c hb;exact f
 |1=>simp at c hb;subst c hb;exact g
 |i+2=>simp at c
structure G7 where
 k:Int
 n:ByteArray
 t:ByteArray
 v:Int
 nd:Nd
def nk(e:G7):List D:=[.int aj e.k,.str e.n,.str e.t,.int aj e.v,.str e.nd.n,.int aj e.nd.f.k,qx e.nd.f.vs,kh e.nd.f.ls,kn e.nd.ins]
def U4(m:Mem)(u lo:Nat)(ps:List Pm)(zs:List WN):Prop:=
 ∃pid ou cP cN,lo<=pid/\lo<=ou/\pid≠ou/\m.di u=aa (.loc [cP,cN])/\Own m pid 2 (ps.map mg) cP/\Own m ou 5 (zs.map D7) cN
def KOk(P:Program)(f:Nat)(e:G7)(ps c:List Pm)(zs g:List WN)(a:Int):Prop:=
 ∀(m:Mem) (u lo b:Nat),U4 m u lo ps zs->u<lo->lo<=b->yg m b->∃m',sl P f m [.gz u (m.ba u) 0,.d (.agg (nk e))] m' (.d (.int aj a))/\U4 m' u lo c g/\
  (∀j,j<lo->j≠u->m'.di j=m.di j/\m'.ba j=m.ba j)/\m'.ba u=m.ba u/\m'.mp=m.mp/\yg m' (b+64)
theorem yg.mono{m:Mem}{b c:Nat}(h:yg m b)(a:b<=c):yg m c:=λi d=>h i (by lia)
theorem yg.lt{m:Mem}{b i:Nat}{x:B}(h:yg m b)(hx:m.di i=aa x):i<b:=by
 rcases iZ i b with a|a
 ·exact a
 rw[(h i a).1]at hx;cases hx
section
variable{P:Program}(A:Pr P)
theorem H7{ps:List Pm}{ns:List Nd}(s:ByteArray)(d:ps.length<=2^50){x y:D}(hx:Wk x (ki ps))(hy:Wk y (lr ns)):iv P A.jm [.agg [x,y],.str s] (.int aj (ku ⟨ps,ns⟩ s)):=by
 refine(WS A ⟨ps,ns⟩ s d).args rfl λi a b c hb=>?_
 match i with
 |0=>simp at c hb;subst c hb;exact Lw hx hy
 |1=>simp at c hb;subst c hb;exact Wk.refl _
 |i+2=>simp at c
theorem K7{ps:List Pm}{ns:List Nd}(s:ByteArray)(d:ns.length<=2^50){x y:D}(hx:Wk x (ki ps))(hy:Wk y (lr ns)):iv P A.lp [.agg [x,y],.str s] (.int aj (ur ⟨ps,ns⟩ s)):=by
 refine(WR A ⟨ps,ns⟩ s d).args rfl λi a b c hb=>?_
 match i with
 |0=>simp at c hb;subst c hb;exact Lw hx hy
 |1=>simp at c hb;subst c hb;exact Wk.refl _
 |i+2=>simp at c
end
theorem uw{m:Mem}{b j:Nat}(e:yg m b)(d:b<=j){c:Nat->Option B}{f:Nat->Nat}{x:B}{v:Nat}(g:c=lu m.di j (aa x))(h:f=lu m.ba j v):Clean ⟨c,f,m.mp⟩ m:=by
 subst g h;intro i;by_cases a:i=j
 ·subst a;exact⟨.inl (e _ d).1,.inl (e _ d).2⟩
 exact⟨.inr ⟨(ie _ _ _ _ a).symm,(ie _ _ _ _ a).symm⟩,.inr ⟨rfl,(ie _ _ _ _ a).symm⟩⟩
theorem Fl(t:Tr)(s:ByteArray):ku t s= -1\/∃k,k<t.ps.length/\ku t s=(k:Int):=by
 rcases P4 (λi=>i6 (t.ps.getD i p0).n s) t.ps.length with ⟨h,_⟩|⟨i,a,h,_⟩
 ·exact .inl h
 exact .inr ⟨i,a,h⟩
theorem Kq(t:Tr)(s:ByteArray):ur t s= -1\/∃k,k<t.ns.length/\ur t s=(k:Int):=by
 rcases P4 (λi=>i6 (t.ns.getD i n0).n s) t.ns.length with ⟨h,_⟩|⟨i,a,h,_⟩
 ·exact .inl h
 exact .inr ⟨i,a,h⟩
section
variable{P:Program}(A:Pr4 P)
theorem ZH(e:G7)(ps:List Pm)(zs:List WN)(v:ps.length<=2^50)(r:ku ⟨ps,zs.map WN.n⟩ e.n= -1):KOk P A.ti e ps ps zs zs 4:=by
 intro m u lo b q G w a;obtain⟨pid,ou,cP,cN,F,E,H,j,B,z⟩:=id q;refine⟨m,?_,q,λ_ _ _=>⟨rfl,rfl⟩,rfl,rfl,a.mono (by lia)⟩;have s:=(a (b+3) (by lia)).1;have g:=λ(x y:D) (hx:Wk x (ki ps)) (hy:Wk y (lr (zs.map WN.n)))=>H7 A.toPr e.n v hx hy;rw[r]at g
 have o:u≠b+3:=by lia
 refine mz A.mo A.Qo (by simp) b (λc=>?_) (λi=>bm _) (λi b' C=> .inl C) (λi es t=> .inl t) trivial;show l7 P (ui A.jm) (yu m [.tmp 4] _ _) _
 have f:∀{x},m.di pid=aa x->pid≠b+3:=λh=>by have:=a.lt h;lia
 have d:∀{x},m.di ou=aa x->ou≠b+3:=λh=>by have:=a.lt h;lia
 rcases B with ⟨p,rfl⟩|⟨rfl,l⟩<;>rcases z with ⟨e2,rfl⟩|⟨rfl,k⟩
 ·simp only[ui,enter,nk,go_sem,ab,ak,ao,reduceCtorEq,cy,j,o];refine jn (ds:=[.agg [.cj,.cj],.str e.n]) ?_ (g _ _ (by rw[fw.1 p];exact Wk.cj) (by rw[fw.1 e2];exact Wk.cj)) rfl ?_
  ·simp only[go_sem]
  simp only[go_sem,ab,dw,cu,reduceCtorEq,PS.mem,qz,uq];exact uw a (by lia) rfl rfl
 ·simp only[ui,enter,nk,go_sem,ab,ak,ao,reduceCtorEq,cy,j,o];refine jn (ds:=[.agg [.cj,.gd 5 (zs.map D7)],.str e.n]) ?_ (g _ _ (by rw[fw.1 p];exact Wk.cj) (Jp zs)) rfl ?_
  ·simp only[go_sem,k9,ow,k,d k]
  simp only[go_sem,ab,dw,cu,reduceCtorEq,PS.mem,al,qz,uq];exact uw a (by lia) rfl rfl
 ·simp only[ui,enter,nk,go_sem,ab,ak,ao,reduceCtorEq,cy,j,o];refine jn (ds:=[.agg [.gd 2 (ps.map mg),.cj],.str e.n]) ?_ (g _ _ (Wk.refl _) (by rw[fw.1 e2];exact Wk.cj)) rfl ?_
  ·simp only[go_sem,k9,ow,l,f l]
  simp only[go_sem,ab,dw,cu,reduceCtorEq,PS.mem,al,qz,uq];exact uw a (by lia) rfl rfl
 simp only[ui,enter,nk,go_sem,ab,ak,ao,reduceCtorEq,cy,j,o];refine jn (ds:=[.agg [.gd 2 (ps.map mg),.gd 5 (zs.map D7)],.str e.n]) ?_ (g _ _ (Wk.refl _) (Jp zs)) rfl ?_
 ·simp only[go_sem,k9,ow,k,l,d k,f l]
 simp only[go_sem,ab,dw,cu,reduceCtorEq,PS.mem,al,qz,uq];exact uw a (by lia) rfl rfl
theorem ZD(e:G7)(ps:List Pm)(zs:List WN)(v:ps.length<=2^50)(r:ku ⟨ps,zs.map WN.n⟩ e.n= -1):KOk P A.tg e ps ps zs zs 4:=by
 intro m u lo b q G w a;obtain⟨pid,ou,cP,cN,F,E,H,j,B,z⟩:=id q;refine⟨m,?_,q,λ_ _ _=>⟨rfl,rfl⟩,rfl,rfl,a.mono (by lia)⟩;have s:=(a (b+3) (by lia)).1;have g:=λ(x y:D) (hx:Wk x (ki ps)) (hy:Wk y (lr (zs.map WN.n)))=>H7 A.toPr e.n v hx hy;rw[r]at g
 have o:u≠b+3:=by lia
 refine mz A.mo A.Qn (by simp) b (λc=>?_) (λi=>bm _) (λi b' C=> .inl C) (λi es t=> .inl t) trivial;show l7 P (uh A.jm A.oz) (yu m [.tmp 4] _ _) _
 have f:∀{x},m.di pid=aa x->pid≠b+3:=λh=>by have:=a.lt h;lia
 have d:∀{x},m.di ou=aa x->ou≠b+3:=λh=>by have:=a.lt h;lia
 rcases B with ⟨p,rfl⟩|⟨rfl,l⟩<;>rcases z with ⟨e2,rfl⟩|⟨rfl,k⟩
 ·simp only[uh,enter,nk,go_sem,ab,ak,ao,reduceCtorEq,cy,j,o];refine jn (ds:=[.agg [.cj,.cj],.str e.n]) ?_ (g _ _ (by rw[fw.1 p];exact Wk.cj) (by rw[fw.1 e2];exact Wk.cj)) rfl ?_
  ·simp only[go_sem]
  simp only[go_sem,ab,dw,cu,reduceCtorEq,PS.mem,qz,uq];exact uw a (by lia) rfl rfl
 ·simp only[uh,enter,nk,go_sem,ab,ak,ao,reduceCtorEq,cy,j,o];refine jn (ds:=[.agg [.cj,.gd 5 (zs.map D7)],.str e.n]) ?_ (g _ _ (by rw[fw.1 p];exact Wk.cj) (Jp zs)) rfl ?_
  ·simp only[go_sem,k9,ow,k,d k]
  simp only[go_sem,ab,dw,cu,reduceCtorEq,PS.mem,al,qz,uq];exact uw a (by lia) rfl rfl
 ·simp only[uh,enter,nk,go_sem,ab,ak,ao,reduceCtorEq,cy,j,o];refine jn (ds:=[.agg [.gd 2 (ps.map mg),.cj],.str e.n]) ?_ (g _ _ (Wk.refl _) (by rw[fw.1 e2];exact Wk.cj)) rfl ?_
  ·simp only[go_sem,k9,ow,l,f l]
  simp only[go_sem,ab,dw,cu,reduceCtorEq,PS.mem,al,qz,uq];exact uw a (by lia) rfl rfl
 simp only[uh,enter,nk,go_sem,ab,ak,ao,reduceCtorEq,cy,j,o];refine jn (ds:=[.agg [.gd 2 (ps.map mg),.gd 5 (zs.map D7)],.str e.n]) ?_ (g _ _ (Wk.refl _) (Jp zs)) rfl ?_
 ·simp only[go_sem,k9,ow,k,l,d k,f l]
 simp only[go_sem,ab,dw,cu,reduceCtorEq,PS.mem,al,qz,uq];exact uw a (by lia) rfl rfl
theorem YZ(e:G7)(ps:List Pm)(zs:List WN)(v:zs.length<=2^50)(r:ur ⟨ps,zs.map WN.n⟩ e.n= -1):KOk P A.te e ps ps zs zs 4:=by
 intro m u lo b q G w a;obtain⟨pid,ou,cP,cN,F,E,H,j,B,z⟩:=id q;refine⟨m,?_,q,λ_ _ _=>⟨rfl,rfl⟩,rfl,rfl,a.mono (by lia)⟩;have s:=(a (b+3) (by lia)).1;have g:=λ(x y:D) (hx:Wk x (ki ps)) (hy:Wk y (lr (zs.map WN.n)))=>K7 A.toPr e.n (by simpa using v) hx hy;rw[r]at g
 have o:u≠b+3:=by lia
 refine mz A.mo A.Qm (by simp) b (λc=>?_) (λi=>bm _) (λi b' C=> .inl C) (λi es t=> .inl t) trivial;show l7 P (ug A.lp A.pq) (yu m [.tmp 4] _ _) _
 have f:∀{x},m.di pid=aa x->pid≠b+3:=λh=>by have:=a.lt h;lia
 have d:∀{x},m.di ou=aa x->ou≠b+3:=λh=>by have:=a.lt h;lia
 rcases B with ⟨p,rfl⟩|⟨rfl,l⟩<;>rcases z with ⟨e2,rfl⟩|⟨rfl,k⟩
 ·simp only[ug,enter,nk,go_sem,ab,ak,ao,reduceCtorEq,cy,j,o];refine jn (ds:=[.agg [.cj,.cj],.str e.n]) ?_ (g _ _ (by rw[fw.1 p];exact Wk.cj) (by rw[fw.1 e2];exact Wk.cj)) rfl ?_
  ·simp only[go_sem]
  simp only[go_sem,ab,dw,cu,reduceCtorEq,PS.mem,qz,uq];exact uw a (by lia) rfl rfl
 ·simp only[ug,enter,nk,go_sem,ab,ak,ao,reduceCtorEq,cy,j,o];refine jn (ds:=[.agg [.cj,.gd 5 (zs.map D7)],.str e.n]) ?_ (g _ _ (by rw[fw.1 p];exact Wk.cj) (Jp zs)) rfl ?_
  ·simp only[go_sem,k9,ow,k,d k]
  simp only[go_sem,ab,dw,cu,reduceCtorEq,PS.mem,al,qz,uq];exact uw a (by lia) rfl rfl
 ·simp only[ug,enter,nk,go_sem,ab,ak,ao,reduceCtorEq,cy,j,o];refine jn (ds:=[.agg [.gd 2 (ps.map mg),.cj],.str e.n]) ?_ (g _ _ (Wk.refl _) (by rw[fw.1 e2];exact Wk.cj)) rfl ?_
  ·simp only[go_sem,k9,ow,l,f l]
  simp only[go_sem,ab,dw,cu,reduceCtorEq,PS.mem,al,qz,uq];exact uw a (by lia) rfl rfl
 simp only[ug,enter,nk,go_sem,ab,ak,ao,reduceCtorEq,cy,j,o];refine jn (ds:=[.agg [.gd 2 (ps.map mg),.gd 5 (zs.map D7)],.str e.n]) ?_ (g _ _ (Wk.refl _) (Jp zs)) rfl ?_
 ·simp only[go_sem,k9,ow,k,l,d k,f l]
 simp only[go_sem,ab,dw,cu,reduceCtorEq,PS.mem,al,qz,uq];exact uw a (by lia) rfl rfl
theorem ZE(e:G7)(ps:List Pm)(zs:List WN)(w:ps.length<=2^50){k:Nat}(s:ku ⟨ps,zs.map WN.n⟩ e.n=(k:Int)):KOk P A.th e ps ps zs zs 7:=by
 intro m u lo b r H z a;obtain⟨pid,ou,cP,cN,G,F,I,j,C,B⟩:=id r;refine⟨m,?_,r,λ_ _ _=>⟨rfl,rfl⟩,rfl,rfl,a.mono (by lia)⟩;have t:=(a (b+3) (by lia)).1;have g:=λ(x y:D) (hx:Wk x (ki ps)) (hy:Wk y (lr (zs.map WN.n)))=>H7 A.toPr e.n w hx hy;rw[s]at g
 have p:u≠b+3:=by lia
 refine mz A.mo A.L0 (by simp) b (λc=>?_) (λi=>bm _) (λi b' E=> .inl E) (λi es v=> .inl v) trivial;show l7 P (qk A.jm) (yu m [.tmp 4] _ _) _
 have f:∀{x},m.di pid=aa x->pid≠b+3:=λh=>by have:=a.lt h;lia
 have d:∀{x},m.di ou=aa x->ou≠b+3:=λh=>by have:=a.lt h;lia
 rcases C with ⟨q,rfl⟩|⟨rfl,o⟩<;>rcases B with ⟨e2,rfl⟩|⟨rfl,l⟩
 ·simp only[qk,enter,nk,go_sem,ab,ak,ao,reduceCtorEq,cy,j,p];refine jn (ds:=[.agg [.cj,.cj],.str e.n]) ?_ (g _ _ (by rw[fw.1 q];exact Wk.cj) (by rw[fw.1 e2];exact Wk.cj)) rfl ?_
  ·simp only[go_sem]
  simp only[go_sem,ab,reduceCtorEq,PS.mem,qz,uq,aw];exact uw a (by lia) rfl rfl
 ·simp only[qk,enter,nk,go_sem,ab,ak,ao,reduceCtorEq,cy,j,p];refine jn (ds:=[.agg [.cj,.gd 5 (zs.map D7)],.str e.n]) ?_ (g _ _ (by rw[fw.1 q];exact Wk.cj) (Jp zs)) rfl ?_
  ·simp only[go_sem,k9,ow,l,d l]
  simp only[go_sem,ab,reduceCtorEq,PS.mem,al,qz,uq,aw];exact uw a (by lia) rfl rfl
 ·simp only[qk,enter,nk,go_sem,ab,ak,ao,reduceCtorEq,cy,j,p];refine jn (ds:=[.agg [.gd 2 (ps.map mg),.cj],.str e.n]) ?_ (g _ _ (Wk.refl _) (by rw[fw.1 e2];exact Wk.cj)) rfl ?_
  ·simp only[go_sem,k9,ow,o,f o]
  simp only[go_sem,ab,reduceCtorEq,PS.mem,al,qz,uq,aw];exact uw a (by lia) rfl rfl
 simp only[qk,enter,nk,go_sem,ab,ak,ao,reduceCtorEq,cy,j,p];refine jn (ds:=[.agg [.gd 2 (ps.map mg),.gd 5 (zs.map D7)],.str e.n]) ?_ (g _ _ (Wk.refl _) (Jp zs)) rfl ?_
 ·simp only[go_sem,k9,ow,l,o,d l,f o]
 simp only[go_sem,ab,reduceCtorEq,PS.mem,al,qz,uq,aw];exact uw a (by lia) rfl rfl
end
def V0(ps:List Pm)(k:Nat)(v:Int):List Pm:=ps.set k ⟨(ps.getD k p0).n,v⟩
theorem J3{α β:Type}(f:α->β)(l:List α)(k:Nat)(x:α):(l.map f).set k (f x)=(l.set k x).map f:=by
 rw[aey]
theorem Own.ref{m:Mem}{id sz:Nat}{dv:List (List D)}{c:C}(h:Own m id sz dv c)(b:dv≠[]):c= .ref id (m.ba id) dv.length/\m.di id=aa (.arr sz dv):=by
 rcases h with ⟨a,_⟩|h
 ·exact absurd a b
 exact h
theorem aS{ps:List Pm}{k:Nat}(h:k<ps.length):(ps.map mg)[k]? =aa [.str (ps.getD k p0).n,.int aj (ps.getD k p0).v]:=by
 simp[cz,h,mg]
def Kp(m:Mem)(u pid w:Nat)(ps:List Pm)(cN:C):Mem:=(m.put pid w (.arr 2 (ps.map mg))).put u (m.ba u) (.loc [.ref pid w ps.length,cN])
def Ko(m:Mem)(u ou w:Nat)(zs:List WN)(cP:C):Mem:=(m.put ou w (.arr 5 (zs.map D7))).put u (m.ba u) (.loc [cP,.ref ou w zs.length])
theorem HV{P:Program}(y:P.follows .mixedOrders=ah){f:Nat}{an:Ann}{s:eh}{r:Nat}(t:fu P f an=aa (s,[.tmp 4],r))(l:2<=r){e:G7}{g:Int}{a:List Pm}{zs:List WN}{m:Mem}{u lo b pid ou w:Nat}{cN:C}
  (J:u<lo)(v:lo<=b)(q:yg m b)(A:lo<=pid)(z:lo<=ou)(F:pid≠ou)(G:Own m ou 5 (zs.map D7) cN)(H:pid<b+64)(K:m.ba pid<=w)
  (h:∀c,l7 P s (yu m [.tmp 4] (Kp m u pid w a cN) (.d (.int aj g))) (enter m [.gz u (m.ba u) 0,.d (.agg (nk e))] b c)):
  ∃m',sl P f m [.gz u (m.ba u) 0,.d (.agg (nk e))] m' (.d (.int aj g))/\U4 m' u lo a zs/\(∀j,j<lo->j≠u->m'.di j=m.di j/\m'.ba j=m.ba j)/\m'.ba u=m.ba u/\m'.mp=m.mp/\yg m' (b+64):=by
 have D:u≠pid:=by lia
 have B:u≠ou:=by lia
 have k:Own (Kp m u pid w a cN) ou 5 (zs.map D7) cN:=G.mono (by simp only[Kp,Mem.put,ar];rw[aq (by lia),aq (by lia)]) (by simp only[Kp,Mem.put,ar];rw[aq (by lia),aq (by lia)])
 have E:∀i,m.ba i<=(Kp m u pid w a cN).ba i:=λi=>by
  simp only[Kp,Mem.put,ar]
  (repeat' split)<;>first|lia|(subst_vars;lia)
 refine⟨Kp m u pid w a cN,mz y t l b h E (λi x hx=>?_) (λi es p=> .inl p) trivial,⟨pid,ou,.ref pid w a.length,cN,A,z,F,by simp only[Kp,Mem.put,de],.inr ⟨?_,?_⟩,k⟩,λj I n=>⟨?_,?_⟩,by simp only[Kp,Mem.put,de],rfl,λi p=>⟨?_,(q i (by lia)).2⟩⟩
 ·simp only[Kp,Mem.put,ar]at hx;split at hx
  ·injection hx with hx
   subst hx;refine .inr λc o=>?_;simp only[fa,kz,or_false]at o;rcases o with rfl|rfl
   ·show w<=(Kp m u pid w a cN).ba pid;simp only[Kp,Mem.put,ar];rw[aq (by lia),bc trivial];exact bm _
   exact k.wf
  split at hx
  ·injection hx with hx;subst hx;exact .inr trivial
  exact .inl hx
 ·simp only[Kp,Mem.put,ar,al];rw[aq (by lia),bc trivial]
 ·simp only[Kp,Mem.put,ar];rw[aq (by lia),bc trivial]
 ·simp only[Kp,Mem.put,ar];rw[aq n,aq (by lia)]
 ·simp only[Kp,Mem.put,ar];rw[aq n,aq (by lia)]
 simp only[Kp,Mem.put,ar];rw[aq (by lia),aq (by lia)];exact(q i (by lia)).1
theorem xd{s m':Mem}{b:Nat}(e:∀i,i<b->m'.di i=s.di i/\m'.ba i=s.ba i/\m'.mp i=s.mp i)(c:∀i,b<=i->(m'.di i=ae\/(m'.di i=s.di i/\m'.ba i=s.ba i))/\m'.mp i=ae):Clean s m':=by
 intro i;rcases iZ i b with h|h
 ·obtain⟨d,a,f⟩:=e i h;exact⟨.inr ⟨d,a⟩,.inr ⟨f,a⟩⟩
 obtain⟨d,a⟩:=c i h;exact⟨d,.inl a⟩
section
variable{P:Program}(A:Pr4 P)
theorem ZG(e:G7)(ps:List Pm)(zs:List WN)(K:ps.length<=2^50){k:Nat}(F:k<ps.length)(I:ku ⟨ps,zs.map WN.n⟩ e.n=(k:Int)):KOk P A.ti e ps (V0 ps k e.v) zs zs 0:=by
 intro m u lo b J N r f;obtain⟨pid,ou,cP,cN,M,L,Q,g,R,G⟩:=J
 have H:ps.map mg≠[]:=λh=>by have:=congrArg Ae h;simp at this;subst this;simp at F
 obtain⟨rfl,d⟩:=R.ref H;have t:=λ(x y:D) (hx:Wk x (ki ps)) (hy:Wk y (lr (zs.map WN.n)))=>H7 A.toPr e.n K hx hy;rw[I]at t
 have p:u≠b+3:=by lia
 have a:pid≠b+3:=by have:=f.lt d;lia
 have O:u≠pid:=by lia
 have C:(ps.map mg).set k [.str (ps.getD k p0).n,.int aj e.v]=(V0 ps k e.v).map mg:=by
  unfold V0;rw[<-J3];rfl
 refine HV A.mo A.Qo (by simp) N r f M L Q G (by have:=f.lt d;lia) (bm _) λc=>?_
 show l7 P (ui A.jm) (yu m [.tmp 4] _ _) _
 have s:∀{x},m.di ou=aa x->ou≠b+3:=λh=>by have:=f.lt h;lia
 have E:=aS F
 have l:¬((k:Int)<0):=by lia
 have o:(k:Int)<ps.length:=by lia
 have S:=f.lt d
 have z:∀(x:B),Clean ⟨lu (lu m.di (b+3) (aa x)) pid (aa (.arr 2 ((V0 ps k e.v).map mg))),lu m.ba (b+3) (m.ba (b+3)+1),m.mp⟩ (Kp m u pid (m.ba pid) (V0 ps k e.v) cN):=by
  intro x;refine xd (b:=b) (λi q=>?_) (λi q=>?_)
  ·simp only[Kp,Mem.put,ar,V0,J8]
   refine⟨?_,?_,trivial⟩<;>(repeat' split)<;>first|rfl|lia|(subst_vars;first|rfl|lia|(rw[g];simp))
  simp only[Kp,Mem.put,ar];rw[aq (by lia),aq (by lia)];exact⟨.inl (f i q).1,(f i q).2⟩
 rcases G with ⟨e2,rfl⟩|⟨rfl,w⟩
 ·simp only[ui,enter,nk,go_sem,ab,ak,ao,reduceCtorEq,cy,g,p];refine jn (ds:=[.agg [.gd 2 (ps.map mg),.cj],.str e.n]) ?_ (t _ _ (Wk.refl _) (by rw[fw.1 e2];exact Wk.cj)) rfl ?_
  ·simp only[go_sem,k9,ow,d,a]
  simp only[go_sem,ab,ak,ao,reduceCtorEq,cy,PS.mem,al,qz,uq,d,a,aw,bn,E,l,g,p,o,C];have j:=z
  try simp only[al]at j
  exact j _
 simp only[ui,enter,nk,go_sem,ab,ak,ao,reduceCtorEq,cy,g,p];refine jn (ds:=[.agg [.gd 2 (ps.map mg),.gd 5 (zs.map D7)],.str e.n]) ?_ (t _ _ (Wk.refl _) (Jp zs)) rfl ?_
 ·simp only[go_sem,k9,ow,d,a,w,s w]
 simp only[go_sem,ab,ak,ao,reduceCtorEq,cy,PS.mem,al,qz,uq,d,a,aw,bn,E,l,g,p,o,C];have j:=z
 try simp only[al]at j
 exact j _
end
section
variable{P:Program}(A:Pr4 P)
theorem ZF(e:G7)(ps:List Pm)(zs:List WN)(X:ps.length<=2^20)(R:ku ⟨ps,zs.map WN.n⟩ e.n= -1):KOk P A.th e ps (ps++[⟨e.n,e.v⟩]) zs zs 0:=by
 intro m u lo b S M t a;obtain⟨pid,ou,cP,cN,T,L,V,k,W,G⟩:=S
 have E:=λ(x y:D) (hx:Wk x (ki ps)) (hy:Wk y (lr (zs.map WN.n)))=>H7 A.toPr e.n (show ps.length<=2^50 by lia) hx hy
 rw[R]at E
 have l:u≠b+3:=by lia
 have j:∀{x},m.di pid=aa x->pid≠b+3:=λh=>by have:=a.lt h;lia
 have z:∀{x},m.di ou=aa x->ou≠b+3:=λh=>by have:=a.lt h;lia
 have K:(b+23=b+3)=False:=by simp
 have I:=a (b+23) (by lia)
 have H:u≠b+23:=by lia
 rcases W with ⟨O,rfl⟩|⟨rfl,g⟩
 ·have e0:ps=[]:=fw.1 O;subst e0
  have p:∃F,lo<=F/\b+23≠F/\Own m F 5 (zs.map D7) cN:=by
   rcases G with ⟨e2,rfl⟩|⟨rfl,f⟩
   ·exact⟨b+24,by lia,by lia,.inl ⟨e2,rfl⟩⟩
   exact⟨ou,L,by have:=a.lt f;lia,.inr ⟨rfl,f⟩⟩
  obtain⟨F,J,Q,p⟩:=p;refine HV A.mo A.L0 (by simp) (pid:=b+23) (w:=m.ba (b+23)+1) M t a (by lia) J Q p (by lia) (by lia) λc=>?_;show l7 P (qk A.jm) (yu m [.tmp 4] _ _) _
  have q:∀(x:B),Clean ⟨lu (lu (lu m.di (b+3) (aa x)) (b+23) (aa (.arr 2 [[.str e.n,.int aj e.v]]))) u (aa (.loc [.ref (b+23) (m.ba (b+23)+1) 1,cN])),lu (lu m.ba (b+3) (m.ba (b+3)+1)) (b+23) (m.ba (b+23)+1),m.mp⟩ (Kp m u (b+23) (m.ba (b+23)+1) ([]++[⟨e.n,e.v⟩]) cN):=by
   intro x;refine xd (b:=b) (λi o=>?_) (λi o=>?_)
   ·simp only[Kp,Mem.put,ar]
    refine⟨?_,?_,trivial⟩<;>(repeat' split)<;>first|rfl|lia|(subst_vars;first|rfl|lia|simp)
   simp only[Kp,Mem.put,ar];by_cases r:i=b+23
   ·subst r;simp only[aq H.symm,da];exact⟨.inr ⟨by simp[mg],by simp⟩,I.2⟩
   rw[aq (by lia),aq r];exact⟨.inl (a i o).1,(a i o).2⟩
  have d:(1:Nat)*24<=2^47:=by lia
  rcases G with ⟨e2,rfl⟩|⟨rfl,f⟩
  ·simp only[qk,enter,nk,go_sem,ab,ak,ao,reduceCtorEq,cy,k,l];refine jn (ds:=[.agg [.cj,.cj],.str e.n]) ?_ (E _ _ Wk.cj (by rw[fw.1 e2];exact Wk.cj)) rfl ?_
   ·simp only[go_sem]
   simp only[go_sem,ab,ft,cu,fp,ak,ao,reduceCtorEq,cw,cy,PS.mem,ff,qz,uq,k,l,K,H,Gv,pj,d,Qw];exact q _
  simp only[qk,enter,nk,go_sem,ab,ak,ao,reduceCtorEq,cy,k,l];refine jn (ds:=[.agg [.cj,.gd 5 (zs.map D7)],.str e.n]) ?_ (E _ _ Wk.cj (Jp zs)) rfl ?_
  ·simp only[go_sem,k9,ow,f,z f]
  have U:=a.lt f
  have N:ou≠b+23:=by lia
  simp only[go_sem,ab,ft,cu,fp,ak,ao,reduceCtorEq,cw,cy,PS.mem,ff,al,qz,uq,k,l,K,H,Gv,pj,d,Qw];have s:=q;simp only[al]at s;exact s _
 have U:=a.lt g
 have C:u≠pid:=by lia
 refine HV A.mo A.L0 (by simp) (pid:=pid) (w:=m.ba pid) M t a T L V G (by lia) (by lia) λc=>?_;show l7 P (qk A.jm) (yu m [.tmp 4] _ _) _
 have q:∀(x:B),Clean ⟨lu (lu (lu m.di (b+3) (aa x)) pid (aa (.arr 2 (ps.map mg++[[.str e.n,.int aj e.v]])))) u (aa (.loc [.ref pid (m.ba pid) (ps.length+1),cN])),lu m.ba (b+3) (m.ba (b+3)+1),m.mp⟩ (Kp m u pid (m.ba pid) (ps++[⟨e.n,e.v⟩]) cN):=by
  intro x;refine xd (b:=b) (λi o=>?_) (λi o=>?_)
  ·simp only[Kp,Mem.put,ar,dz,cq,ew,fj,du,ic,mg]
   refine⟨?_,?_,trivial⟩<;>(repeat' split)<;>first|rfl|lia|(subst_vars;first|rfl|lia|simp)
  simp only[Kp,Mem.put,ar];rw[aq (by lia),aq (by lia)];exact⟨.inl (a i o).1,(a i o).2⟩
 have d:(ps.length+1)*24<=2^47:=by lia
 rcases G with ⟨e2,rfl⟩|⟨rfl,f⟩
 ·simp only[qk,enter,nk,go_sem,ab,ak,ao,reduceCtorEq,cy,k,l];refine jn (ds:=[.agg [.gd 2 (ps.map mg),.cj],.str e.n]) ?_ (E _ _ (Wk.refl _) (by rw[fw.1 e2];exact Wk.cj)) rfl ?_
  ·simp only[go_sem,k9,ow,g,j g]
  simp only[go_sem,ab,ft,cu,ak,ao,reduceCtorEq,cw,cy,PS.mem,ff,al,qz,uq,k,l,C,g,j g,Gv,pj,d,dz];exact q _
 simp only[qk,enter,nk,go_sem,ab,ak,ao,reduceCtorEq,cy,k,l];refine jn (ds:=[.agg [.gd 2 (ps.map mg),.gd 5 (zs.map D7)],.str e.n]) ?_ (E _ _ (Wk.refl _) (Jp zs)) rfl ?_
 ·simp only[go_sem,k9,ow,g,j g,f,z f]
 simp only[go_sem,ab,ft,cu,ak,ao,reduceCtorEq,cw,cy,PS.mem,ff,al,qz,uq,k,l,C,g,j g,Gv,pj,d,dz];have s:=q;simp only[al]at s;exact s _
theorem ZC(e:G7)(ps:List Pm)(zs:List WN)(X:ps.length<=2^20){k:Nat}(t:k<ps.length)(Q:ku ⟨ps,zs.map WN.n⟩ e.n=(k:Int)):KOk P A.tg e ps (ps.eraseIdx k) zs zs 0:=by
 intro m u lo b R U v j;obtain⟨pid,ou,cP,cN,T,S,V,g,W,K⟩:=R
 have F:=λ(x y:D) (hx:Wk x (ki ps)) (hy:Wk y (lr (zs.map WN.n)))=>H7 A.toPr e.n (show ps.length<=2^50 by lia) hx hy
 rw[Q]at F
 have l:u≠b+3:=by lia
 have a:∀{x},m.di pid=aa x->pid≠b+3:=λh=>by have:=j.lt h;lia
 have C:∀{x},m.di ou=aa x->ou≠b+3:=λh=>by have:=j.lt h;lia
 have M:ps.map mg≠[]:=λh=>by have:=congrArg Ae h;simp at this;subst this;simp at t
 obtain⟨rfl,f⟩:=W.ref M;have Y:=j.lt f
 have p:u≠pid:=by lia
 refine HV A.mo A.Qn (by simp) (pid:=pid) (w:=m.ba pid+1) U v j T S V K (by lia) (by lia) λc=>?_;show l7 P (uh A.jm A.oz) (yu m [.tmp 4] _ _) _
 have L:(ps.map mg).eraseIdx k=(ps.eraseIdx k).map mg:=by rw[ta,ta,fj,Mm,a1s]
 have E:(ps.eraseIdx k).length=ps.length-1:=a5k t
 have H:∀(x:B),Clean ⟨lu (lu (lu m.di (b+3) (aa x)) pid (aa (.arr 2 ((ps.eraseIdx k).map mg)))) u (aa (.loc [.ref pid (m.ba pid+1) (ps.length-1),cN])),lu (lu m.ba (b+3) (m.ba (b+3)+1)) pid (m.ba pid+1),m.mp⟩ (Kp m u pid (m.ba pid+1) (ps.eraseIdx k) cN):=by
  intro x;refine xd (b:=b) (λi s=>?_) (λi s=>?_)
  ·simp only[Kp,Mem.put,ar,E]
   refine⟨?_,?_,trivial⟩<;>(repeat' split)<;>first|rfl|lia|(subst_vars;first|rfl|lia|simp)
  simp only[Kp,Mem.put,ar];rw[aq (by lia),aq (by lia)];exact⟨.inl (j i s).1,(j i s).2⟩
 have o:¬((k:Int)<0):=by lia
 have r:=dr ((k:Int)+1) (by lia) (by lia)
 have I:∀q:Mem,q.di pid=aa (.arr 2 (ps.map mg))->q.ba pid=m.ba pid->sl P A.oz q [.ref pid (m.ba pid) (ps.map mg).length,.d (.int aj k),.d (.int aj ((k:Int)+1))] (q.put pid (m.ba pid+1) (.arr 2 ((ps.map mg).eraseIdx k))) (.ref pid (m.ba pid+1) ((ps.map mg).length-1)):=
  λq N O=>mN A.mo (sz:=2) (by_:=24) (z:=[.str ⟨#[]⟩,.int aj 0]) A.N7 (by simpa using t) rfl rfl (by simp[mg,D.one]) (by simp only[al];lia) N O (b+100)
 rcases K with ⟨e2,rfl⟩|⟨rfl,G⟩
 ·simp only[uh,enter,nk,go_sem,ab,ak,ao,reduceCtorEq,cy,g,l];refine jn (ds:=[.agg [.gd 2 (ps.map mg),.cj],.str e.n]) ?_ (F _ _ (Wk.refl _) (by rw[fw.1 e2];exact Wk.cj)) rfl ?_
  ·simp only[go_sem,k9,ow,f,a f]
  simp only[go_sem,ab,ak,ao,reduceCtorEq,cy,g,l,o,r];refine nh (I _ (by simp only[PS.mem,ar,a f,bp,f]) (by simp only[PS.mem,ar,a f,bp])) ?_;simp only[go_sem,ab,ak,ao,cy,PS.ke,PS.mem,Mem.put,ff,al,qz,uq,g,l,p,f,a f,L,E];exact H _
 simp only[uh,enter,nk,go_sem,ab,ak,ao,reduceCtorEq,cy,g,l];refine jn (ds:=[.agg [.gd 2 (ps.map mg),.gd 5 (zs.map D7)],.str e.n]) ?_ (F _ _ (Wk.refl _) (Jp zs)) rfl ?_
 ·simp only[go_sem,k9,ow,f,a f,G,C G]
 simp only[go_sem,ab,ak,ao,reduceCtorEq,cy,g,l,o,r];refine nh (I _ (by simp only[PS.mem,ar,a f,bp,f]) (by simp only[PS.mem,ar,a f,bp])) ?_;simp only[go_sem,ab,ak,ao,cy,PS.ke,PS.mem,Mem.put,ff,al,qz,uq,g,l,p,f,a f,L,E];have J:=H;simp only[al]at J;exact J _
end
theorem HW{P:Program}(y:P.follows .mixedOrders=ah){f:Nat}{an:Ann}{s:eh}{r:Nat}(t:fu P f an=aa (s,[.tmp 4],r))(l:2<=r){e:G7}{g:Int}{ps:List Pm}{a:List WN}{m:Mem}{u lo b pid ou w:Nat}{cP:C}
  (J:u<lo)(v:lo<=b)(q:yg m b)(A:lo<=pid)(z:lo<=ou)(F:pid≠ou)(G:Own m pid 2 (ps.map mg) cP)(H:ou<b+64)(K:m.ba ou<=w)
  (h:∀c,l7 P s (yu m [.tmp 4] (Ko m u ou w a cP) (.d (.int aj g))) (enter m [.gz u (m.ba u) 0,.d (.agg (nk e))] b c)):
  ∃m',sl P f m [.gz u (m.ba u) 0,.d (.agg (nk e))] m' (.d (.int aj g))/\U4 m' u lo ps a/\(∀j,j<lo->j≠u->m'.di j=m.di j/\m'.ba j=m.ba j)/\m'.ba u=m.ba u/\m'.mp=m.mp/\yg m' (b+64):=by
 have D:u≠pid:=by lia
 have B:u≠ou:=by lia
 have k:Own (Ko m u ou w a cP) pid 2 (ps.map mg) cP:=G.mono (by simp only[Ko,Mem.put,ar];rw[aq (by lia),aq (by lia)]) (by simp only[Ko,Mem.put,ar];rw[aq (by lia),aq (by lia)])
 have E:∀i,m.ba i<=(Ko m u ou w a cP).ba i:=λi=>by
  simp only[Ko,Mem.put,ar]
  (repeat' split)<;>first|lia|(subst_vars;lia)
 refine⟨Ko m u ou w a cP,mz y t l b h E (λi x hx=>?_) (λi es p=> .inl p) trivial,⟨pid,ou,cP,.ref ou w a.length,A,z,F,by simp only[Ko,Mem.put,de],k,.inr ⟨?_,?_⟩⟩,λj I n=>⟨?_,?_⟩,by simp only[Ko,Mem.put,de],rfl,λi p=>⟨?_,(q i (by lia)).2⟩⟩
 ·simp only[Ko,Mem.put,ar]at hx;split at hx
  ·injection hx with hx
   subst hx;refine .inr λc o=>?_;simp only[fa,kz,or_false]at o;rcases o with rfl|rfl
   ·exact k.wf
   show w<=(Ko m u ou w a _).ba ou;simp only[Ko,Mem.put,ar];rw[aq (by lia),bc trivial];exact bm _
  split at hx
  ·injection hx with hx;subst hx;exact .inr trivial
  exact .inl hx
 ·simp only[Ko,Mem.put,ar,al];rw[aq (by lia),bc trivial]
 ·simp only[Ko,Mem.put,ar];rw[aq (by lia),bc trivial]
 ·simp only[Ko,Mem.put,ar];rw[aq n,aq (by lia)]
 ·simp only[Ko,Mem.put,ar];rw[aq n,aq (by lia)]
 simp only[Ko,Mem.put,ar];rw[aq (by lia),aq (by lia)];exact(q i (by lia)).1
def Ur(n:Nd):Prop:=n.f.vs.length<=2^30/\n.f.ls.length<=2^30/\(∀q∈n.f.ls,q.length<=2^30)/\n.ins.length<=2^30
theorem a0g{zs:List WN}{k:Nat}(h:k<zs.length):(zs.map D7)[k]? =aa [.str zs[k].n.n,.int aj zs[k].n.f.k,zs[k].x,kh zs[k].n.f.ls,zs[k].y]:=by
 simp[h,D7]
section
variable{P:Program}(A:Pr4 P)
theorem ZA(e:G7)(ps:List Pm)(zs:List WN)(L:zs.length<=2^20)(r:Ur e.nd){k:Nat}(K:k<zs.length)(O:ur ⟨ps,zs.map WN.n⟩ e.nd.n=(k:Int)):KOk P A.tf e ps ps zs (zs.set k (WN.of e.nd)) 0:=by
 intro m u lo b Q T C j;obtain⟨pid,ou,cP,cN,S,R,V,o,M,W⟩:=Q
 have F:=λ(x y:D) (hx:Wk x (ki ps)) (hy:Wk y (lr (zs.map WN.n)))=>K7 A.toPr e.nd.n (show(zs.map WN.n).length<=2^50 by simp only[al];lia) hx hy
 rw[O]at F
 have s:u≠b+3:=by lia
 have E:∀{x},m.di pid=aa x->pid≠b+3:=λh=>by have:=j.lt h;lia
 have g:∀{x},m.di ou=aa x->ou≠b+3:=λh=>by have:=j.lt h;lia
 have t:=tE A.toPr e.nd (by have:=r.1;lia) r.2.1 (λl L=>by have:=r.2.2.1 l L;lia) (by have:=r.2.2.2;lia)
 simp only[pa,qx,kh,kn]at t
 have v:zs.map D7≠[]:=λh=>by have:=congrArg Ae h;simp at this;subst this;simp at K
 obtain⟨rfl,a⟩:=W.ref v;have X:=j.lt a
 have U:u≠ou:=by lia
 refine HW A.mo A.Kz (by simp) (ou:=ou) (w:=m.ba ou) T C j S R V M (by lia) (by lia) λc=>?_;show l7 P (td A.lp A.j5) (yu m [.tmp 4] _ _) _
 have I:(zs.map D7).set k [.str e.nd.n,.int aj e.nd.f.k,.gd 3 (e.nd.f.vs.map B4),.gd 1 (e.nd.f.ls.map λl=>[uu l]),.gd 1 (e.nd.ins.map qt)]=(zs.set k (WN.of e.nd)).map D7:=by
  rw[<-J3];rfl
 have J:=a0g K
 have d:(k:Int)>=0:=by lia
 have q:(k:Int)<zs.length:=by lia
 have H:∀(x:B),Clean ⟨lu (lu m.di (b+3) (aa x)) ou (aa (.arr 5 ((zs.set k (WN.of e.nd)).map D7))),lu m.ba (b+3) (m.ba (b+3)+1),m.mp⟩ (Ko m u ou (m.ba ou) (zs.set k (WN.of e.nd)) cP):=by
  intro x;refine xd (b:=b) (λi z=>?_) (λi z=>?_)
  ·simp only[Ko,Mem.put,ar,J8]
   refine⟨?_,?_,trivial⟩<;>(repeat' split)<;>first|rfl|lia|(subst_vars;first|rfl|lia|(rw[o];simp))
  simp only[Ko,Mem.put,ar];rw[aq (by lia),aq (by lia)];exact⟨.inl (j i z).1,(j i z).2⟩
 rcases M with ⟨N,rfl⟩|⟨rfl,G⟩
 ·simp only[td,enter,nk,qx,kh,kn,go_sem,ab,ak,ao,reduceCtorEq,cy,o,s];refine jn (ds:=[.agg [.cj,.gd 5 (zs.map D7)],.str e.nd.n]) ?_ (F _ _ (by rw[fw.1 N];exact Wk.cj) (Jp zs)) rfl ?_
  ·simp only[go_sem,k9,ow,a,g a]
  simp only[go_sem,ab,ak,reduceCtorEq,cy,o,s,d,al];refine gq t ?_;simp only[go_sem,ab,ak,PS.mem,al,qz,uq,a,g a,d,q,J,bn,I,al];have p:=H
  try simp only[al]at p
  exact p _
 simp only[td,enter,nk,qx,kh,kn,go_sem,ab,ak,ao,reduceCtorEq,cy,o,s];refine jn (ds:=[.agg [.gd 2 (ps.map mg),.gd 5 (zs.map D7)],.str e.nd.n]) ?_ (F _ _ (Wk.refl _) (Jp zs)) rfl ?_
 ·simp only[go_sem,k9,ow,a,g a,G,E G]
 simp only[go_sem,ab,ak,reduceCtorEq,cy,o,s,d,al];refine gq t ?_;simp only[go_sem,ab,ak,PS.mem,al,qz,uq,a,g a,d,q,J,bn,I,al];have p:=H
 try simp only[al]at p
 exact p _
theorem ZB(e:G7)(ps:List Pm)(zs:List WN)(R:zs.length<=2^20)(K:Ur e.nd)(W:ur ⟨ps,zs.map WN.n⟩ e.nd.n= -1):KOk P A.tf e ps ps zs (zs++[WN.of e.nd]) 0:=by
 intro m u lo b X T F d;obtain⟨pid,ou,cP,cN,S,Y,Z,a,L,oN⟩:=X
 have I:=λ(x y:D) (hx:Wk x (ki ps)) (hy:Wk y (lr (zs.map WN.n)))=>K7 A.toPr e.nd.n (show(zs.map WN.n).length<=2^50 by simp only[al];lia) hx hy
 rw[W]at I
 have g:u≠b+3:=by lia
 have G:∀{x},m.di pid=aa x->pid≠b+3:=λh=>by have:=d.lt h;lia
 have q:∀{x},m.di ou=aa x->ou≠b+3:=λh=>by have:=d.lt h;lia
 have z:=tE A.toPr e.nd (by have:=K.1;lia) K.2.1 (λl R=>by have:=K.2.2.1 l R;lia) (by have:=K.2.2.2;lia)
 simp only[pa,qx,kh,kn]at z
 have Q:(b+33=b+3)=False:=by simp
 have N:=d (b+33) (by lia)
 have M:u≠b+33:=by lia
 have U:∀{x},m.di pid=aa x->pid≠b+33:=λh=>by have:=d.lt h;lia
 rcases oN with ⟨e2,rfl⟩|⟨rfl,p⟩
 ·have e0:zs=[]:=fw.1 e2;subst e0
  have t:∃J,lo<=J/\J≠b+33/\Own m J 2 (ps.map mg) cP:=by
   rcases L with ⟨C,rfl⟩|⟨rfl,r⟩
   ·exact⟨b+34,by lia,by lia,.inl ⟨C,rfl⟩⟩
   exact⟨pid,S,by have:=d.lt r;lia,.inr ⟨rfl,r⟩⟩
  obtain⟨J,O,V,t⟩:=t;refine HW A.mo A.Kz (by simp) (ou:=b+33) (w:=m.ba (b+33)+1) T F d O (by lia) V t (by lia) (by lia) λc=>?_;show l7 P (td A.lp A.j5) (yu m [.tmp 4] _ _) _
  have v:∀(x:B),Clean ⟨lu (lu (lu m.di (b+3) (aa x)) (b+33) (aa (.arr 5 [[.str e.nd.n,.int aj e.nd.f.k,.gd 3 (e.nd.f.vs.map B4),.gd 1 (e.nd.f.ls.map λl=>[uu l]),.gd 1 (e.nd.ins.map qt)]]))) u (aa (.loc [cP,.ref (b+33) (m.ba (b+33)+1) 1])),lu (lu m.ba (b+3) (m.ba (b+3)+1)) (b+33) (m.ba (b+33)+1),m.mp⟩ (Ko m u (b+33) (m.ba (b+33)+1) ([]++[WN.of e.nd]) cP):=by
   intro x;refine xd (b:=b) (λi s=>?_) (λi s=>?_)
   ·simp only[Ko,Mem.put,ar]
    refine⟨?_,?_,trivial⟩<;>(repeat' split)<;>first|rfl|lia|(subst_vars;first|rfl|lia|simp)
   simp only[Ko,Mem.put,ar];by_cases E:i=b+33
   ·subst E;simp only[aq M.symm,da];exact⟨.inr ⟨rfl,by simp⟩,N.2⟩
   rw[aq (by lia),aq E];exact⟨.inl (d i s).1,(d i s).2⟩
  have o:(1:Nat)*96<=2^47:=by lia
  rcases L with ⟨C,rfl⟩|⟨rfl,r⟩
  ·simp only[td,enter,nk,qx,kh,kn,go_sem,ab,ak,ao,reduceCtorEq,cy,a,g];refine jn (ds:=[.agg [.cj,.cj],.str e.nd.n]) ?_ (I _ _ (by rw[fw.1 C];exact Wk.cj) Wk.cj) rfl ?_
   ·simp only[go_sem]
   simp only[go_sem,ab,ft,cu,ak,reduceCtorEq,cy,a,g];refine gq z ?_;simp only[go_sem,ab,cu,fp,ak,reduceCtorEq,cw,cy,PS.mem,ff,qz,uq,a,g,Gv,pj,Qw,Q,M,o];have j:=v
   try simp only[al]at j
   exact j _
  simp only[td,enter,nk,qx,kh,kn,go_sem,ab,ak,ao,reduceCtorEq,cy,a,g];refine jn (ds:=[.agg [.gd 2 (ps.map mg),.cj],.str e.nd.n]) ?_ (I _ _ (Wk.refl _) Wk.cj) rfl ?_
  ·simp only[go_sem,k9,ow,r,G r]
  simp only[go_sem,ab,ft,cu,ak,reduceCtorEq,cy,a,g];refine gq z ?_;simp only[go_sem,ab,cu,fp,ak,reduceCtorEq,cw,cy,PS.mem,ff,al,qz,uq,a,g,Gv,pj,Qw,Q,M,o];have j:=v
  try simp only[al]at j
  exact j _
 have ju:=d.lt p
 have H:u≠ou:=by lia
 refine HW A.mo A.Kz (by simp) (ou:=ou) (w:=m.ba ou) T F d S Y Z L (by lia) (by lia) λc=>?_;show l7 P (td A.lp A.j5) (yu m [.tmp 4] _ _) _
 have v:∀(x:B),Clean ⟨lu (lu (lu m.di (b+3) (aa x)) ou (aa (.arr 5 (zs.map D7++[[.str e.nd.n,.int aj e.nd.f.k,.gd 3 (e.nd.f.vs.map B4),.gd 1 (e.nd.f.ls.map λl=>[uu l]),.gd 1 (e.nd.ins.map qt)]])))) u (aa (.loc [cP,.ref ou (m.ba ou) (zs.length+1)])),lu m.ba (b+3) (m.ba (b+3)+1),m.mp⟩ (Ko m u ou (m.ba ou) (zs++[WN.of e.nd]) cP):=by
  intro x;refine xd (b:=b) (λi s=>?_) (λi s=>?_)
  ·simp only[Ko,Mem.put,ar,dz,cq,ew,fj,du,ic]
   refine⟨?_,?_,trivial⟩<;>(repeat' split)<;>first|rfl|lia|(subst_vars;first|rfl|lia|simp)
  simp only[Ko,Mem.put,ar];rw[aq (by lia),aq (by lia)];exact⟨.inl (d i s).1,(d i s).2⟩
 have o:(zs.length+1)*96<=2^47:=by lia
 rcases L with ⟨C,rfl⟩|⟨rfl,r⟩
 ·simp only[td,enter,nk,qx,kh,kn,go_sem,ab,ak,ao,reduceCtorEq,cy,a,g];refine jn (ds:=[.agg [.cj,.gd 5 (zs.map D7)],.str e.nd.n]) ?_ (I _ _ (by rw[fw.1 C];exact Wk.cj) (Jp zs)) rfl ?_
  ·simp only[go_sem,k9,ow,p,q p]
  simp only[go_sem,ab,ft,cu,ak,reduceCtorEq,cy,a,g];refine gq z ?_;simp only[go_sem,ab,cu,ak,cw,cy,PS.mem,ff,al,qz,uq,a,g,Gv,pj,dz,Qw,p,q p,H,o];have j:=v
  try simp only[al]at j
  exact j _
 simp only[td,enter,nk,qx,kh,kn,go_sem,ab,ak,ao,reduceCtorEq,cy,a,g];refine jn (ds:=[.agg [.gd 2 (ps.map mg),.gd 5 (zs.map D7)],.str e.nd.n]) ?_ (I _ _ (Wk.refl _) (Jp zs)) rfl ?_
 ·simp only[go_sem,k9,ow,p,q p,r,G r]
 simp only[go_sem,ab,ft,cu,ak,reduceCtorEq,cy,a,g];refine gq z ?_;simp only[go_sem,ab,cu,ak,cw,cy,PS.mem,ff,al,qz,uq,a,g,Gv,pj,dz,Qw,p,q p,H,o];have j:=v
 try simp only[al]at j
 exact j _
theorem YY(e:G7)(ps:List Pm)(zs:List WN)(hl:zs.length<=2^20){k:Nat}(C:k<zs.length)(R:ur ⟨ps,zs.map WN.n⟩ e.n=(k:Int)):KOk P A.te e ps ps zs (zs.eraseIdx k) 0:=by
 intro m u lo b S W E j;obtain⟨pid,ou,cP,cN,V,U,X,g,L,Y⟩:=S
 have H:=λ(x y:D) (hx:Wk x (ki ps)) (hy:Wk y (lr (zs.map WN.n)))=>K7 A.toPr e.n (show(zs.map WN.n).length<=2^50 by simp only[al];lia) hx hy
 rw[R]at H
 have l:u≠b+3:=by lia
 have F:∀{x},m.di pid=aa x->pid≠b+3:=λh=>by have:=j.lt h;lia
 have a:∀{x},m.di ou=aa x->ou≠b+3:=λh=>by have:=j.lt h;lia
 have t:zs.map D7≠[]:=λh=>by have:=congrArg Ae h;simp at this;subst this;simp at C
 obtain⟨rfl,f⟩:=Y.ref t;have ju:=j.lt f
 have q:u≠ou:=by lia
 refine HW A.mo A.Qm (by simp) (ou:=ou) (w:=m.ba ou+1) W E j V U X L (by lia) (by lia) λc=>?_;show l7 P (ug A.lp A.pq) (yu m [.tmp 4] _ _) _
 have M:(zs.map D7).eraseIdx k=(zs.eraseIdx k).map D7:=by rw[ta,ta,fj,Mm,a1s]
 have G:(zs.eraseIdx k).length=zs.length-1:=a5k C
 have J:∀(x:B),Clean ⟨lu (lu (lu m.di (b+3) (aa x)) ou (aa (.arr 5 ((zs.eraseIdx k).map D7)))) u (aa (.loc [cP,.ref ou (m.ba ou+1) (zs.length-1)])),lu (lu m.ba (b+3) (m.ba (b+3)+1)) ou (m.ba ou+1),m.mp⟩ (Ko m u ou (m.ba ou+1) (zs.eraseIdx k) cP):=by
  intro x;refine xd (b:=b) (λi v=>?_) (λi v=>?_)
  ·simp only[Ko,Mem.put,ar,G]
   refine⟨?_,?_,trivial⟩<;>(repeat' split)<;>first|rfl|lia|(subst_vars;first|rfl|lia|simp)
  simp only[Ko,Mem.put,ar];rw[aq (by lia),aq (by lia)];exact⟨.inl (j i v).1,(j i v).2⟩
 have p:¬((k:Int)<0):=by lia
 have s:=dr ((k:Int)+1) (by lia) (by lia)
 have Z:∀e∈zs.map D7,e.all D.one=true:=λe T=>by
  obtain⟨z,_,rfl⟩:=j6.1 T;simp only[D7,X8,adh,z.ox,z.oy,Ip];rfl
 have K:∀r:Mem,r.di ou=aa (.arr 5 (zs.map D7))->r.ba ou=m.ba ou->sl P A.pq r [.ref ou (m.ba ou) (zs.map D7).length,.d (.int aj k),.d (.int aj ((k:Int)+1))] (r.put ou (m.ba ou+1) (.arr 5 ((zs.map D7).eraseIdx k))) (.ref ou (m.ba ou+1) ((zs.map D7).length-1)):=
  λr O Q=>mN A.mo (sz:=5) (by_:=96) (z:=[.str ⟨#[]⟩,.int aj 0,.cj,.cj,.cj]) A.Oa (by simpa using C) rfl rfl Z (by simp only[al];lia) O Q (b+100)
 rcases L with ⟨N,rfl⟩|⟨rfl,I⟩
 ·simp only[ug,enter,nk,qx,kh,kn,go_sem,ab,ak,ao,reduceCtorEq,cy,g,l];refine jn (ds:=[.agg [.cj,.gd 5 (zs.map D7)],.str e.n]) ?_ (H _ _ (by rw[fw.1 N];exact Wk.cj) (Jp zs)) rfl ?_
  ·simp only[go_sem,k9,ow,f,a f]
  simp only[go_sem,ab,ak,reduceCtorEq,cy,g,l,p,s];refine nh (K _ (by simp only[PS.mem,ar,a f,bp,f]) (by simp only[PS.mem,ar,a f,bp])) ?_;simp only[go_sem,ab,ak,cy,PS.ke,PS.mem,Mem.put,ff,al,qz,uq,M,G,f,a f,q,g,l];have o:=J
  try simp only[al]at o
  exact o _
 simp only[ug,enter,nk,qx,kh,kn,go_sem,ab,ak,ao,reduceCtorEq,cy,g,l];refine jn (ds:=[.agg [.gd 2 (ps.map mg),.gd 5 (zs.map D7)],.str e.n]) ?_ (H _ _ (Wk.refl _) (Jp zs)) rfl ?_
 ·simp only[go_sem,k9,ow,f,a f,I,F I]
 simp only[go_sem,ab,ak,reduceCtorEq,cy,g,l,p,s];refine nh (K _ (by simp only[PS.mem,ar,a f,bp,f]) (by simp only[PS.mem,ar,a f,bp])) ?_;simp only[go_sem,ab,ak,cy,PS.ke,PS.mem,Mem.put,ff,al,qz,uq,M,G,f,a f,q,g,l];have o:=J
 try simp only[al]at o
 exact o _
end
theorem Zj{α β:Type}(f:α->Option β)(g:α->β)(l:List α)(h:∀x∈l,f x=aa (g x)):Ru (l.map f)=aa (l.map g):=by
 induction l with
 |nil=>rfl
 |cons x r a=>
  simp only[du,Ru,h x (by simp),a λy hy=>h y (by simp[hy])]
theorem FK(s:PS)(n:Nat)(x:D):deep s n (.d x)=aa x:=by cases n<;>rfl
theorem XV(s:PS)(n:Nat)(e:List D):Ru ((e.map C.d).map (deep s n))=aa e:=by
 rw[JE];have:=Zj (deep s n∘C.d) id e λx _=>FK s n x
 rwa[af8]at this
theorem Own.data{s:PS}{id sz:Nat}{dv:List (List D)}{c:C}(h:Own s.mem id sz dv c):∃x,Wk x (.gd sz dv)/\x.one=ah/\(∀n,deep s (n+1) c=aa x)/\ow s c=aa x/\(∀ids,id∈ids->C.x7 s ids c= .d x):=by
 rcases h with ⟨rfl,rfl⟩|⟨rfl,hb⟩
 ·exact⟨.cj,Wk.cj,rfl,λn=>rfl,rfl,λids _=>rfl⟩
 have b:s.di id=aa (.arr sz dv):=hb
 have a:s.dv id (s.ba id)=aa (sz,dv):=by unfold PS.dv;rw[bc rfl,b]
 have e2:s.elc id (s.ba id)=aa (sz,dv.map (·.map .d)):=by unfold PS.elc;rw[bc rfl,b]
 refine⟨.gd sz dv,Wk.refl _,rfl,λn=>?_,?_,λids i=>?_⟩
 ·show deep s (n+1) (.ref id (s.ba id) dv.length)=_
  have:=Zj (λe:List C=>Ru (e.map (deep s n))) (λe=>e.filterMap λ| .d x=>aa x|_=>ae) (dv.map (·.map C.d)) (λe g=>by
   obtain⟨d,_,rfl⟩:=j6.1 g;rw[XV]
   congr 1
   rw[List.filterMap_map]
   exact(adv).symm)
  have f:(dv.map (·.map C.d)).map (λe=>e.filterMap λ| .d x=>aa x|_=>ae)=dv:=by
   rw[JE];refine(Nj λd _=>?_).trans (af8 dv);show((d.map C.d).filterMap _)=d;rw[List.filterMap_map];exact adv
  rw[f]at this;simp only[deep,e2,al,da,this,jc]
 ·show ow s (.ref id (s.ba id) dv.length)=_;simp only[ow,a,da]
 show C.x7 s ids (.ref id (s.ba id) dv.length)=_;simp only[C.x7,i,da,a]
theorem Q6.data{s:PS}{b:Nat}{n:Nd}{e:List C}(h:Q6 s.mem b n e):∃z:WN,z.n=n/\(∀k,Ru (e.map (deep s (k+1)))=aa (D7 z))/\∀ids,b+45∈ids->b+35∈ids->e.map (C.x7 s ids)=(D7 z).map .d:=by
 obtain⟨cV,cI,rfl,a,c⟩:=h;obtain⟨x,x1,x2,i,q,j⟩:=a.data;obtain⟨y,l,m,o,r,p⟩:=c.data;refine⟨⟨n,x,y,x1,l,x2,m⟩,rfl,λk=>?_,λids f g=>?_⟩
 ·simp only[du,ic,FK,i,o,Ru,D7]
 simp only[du,ic,j ids f,p ids g,D7];rfl
theorem yY{β:Type}{p:Nat->β->Prop}(n:Nat)(h:∀k,k<n->∃z,p k z):∃l:List β,l.length=n/\∀k (a:k<l.length),p k l[k]:=by
 induction n with
 |zero=>exact⟨[],rfl,λk a=>absurd a (by simp)⟩
 |succ n e=>
  obtain⟨l,c,d⟩:=e λk a=>h k (by lia);obtain⟨z,hz⟩:=h n (by lia);refine⟨l++[z],by simp[c],λk a=>?_⟩;simp only[dz,cq,ew]at a;rcases iZ k l.length with b|b
  ·rw[a8w b];exact d k b
  have:k=l.length:=by lia
  subst this;rw[List.getElem_append_right (by lia)];simp only[Wu,List.getElem_cons_zero];rw[c];exact hz
def F5(b n:Nat):List Nat:=(fc n).flatMap λk=>[b+64+64*k+45,b+64+64*k+35]
theorem Wh{b n i:Nat}:i∈F5 b n<->∃k,k<n/\(i=b+64+64*k+45\/i=b+64+64*k+35):=by
 unfold F5;rw[K3];constructor
 ·rintro⟨k,a,h⟩;simp only[fa,kz,or_false]at h;exact⟨k,er.1 a,h⟩
 rintro⟨k,a,h⟩;exact⟨k,er.2 a,by simpa using h⟩
theorem jH{s:PS}{a b:C}{x y:D}(c:ow s a=aa x)(d:ow s b=aa y):k9 s [a,b]=aa [x,y]:=by
 have:k9 s [b]=aa [y]:=by
  show(match ow s b,k9 s []with|some x,aa l=>aa (x::l)|_,_=>ae)=_
  rw[d];rfl
 show(match ow s a,k9 s [b]with|some x,aa l=>aa (x::l)|_,_=>ae)=_
 rw[c,this]
theorem Of.data{s:PS}{b:Nat}{l:List Nd}{cells:List (List C)}(h:Of s.mem b l cells):∃zs:List WN,zs.map WN.n=l/\(∀k,Ru (cells.map λe=>Ru (e.map (deep s (k+1))))=aa (zs.map D7))/\
  cells.map (λe=>e.map (C.x7 s (F5 b l.length)))=(zs.map D7).map (·.map .d):=by
 obtain⟨zs,hz,m⟩:=yY (p:=λk z=>z.n=l.getD k n0/\(∀q,Ru ((cells.getD k []).map (deep s (q+1)))=aa (D7 z))/\(cells.getD k []).map (C.x7 s (F5 b l.length))=(D7 z).map .d) l.length (λk j=>by
  obtain⟨z,r,t,z3⟩:=(h.2 k j).data
  exact⟨z,r,t,z3 _ (Wh.2 ⟨k,j,.inl rfl⟩) (Wh.2 ⟨k,j,.inr rfl⟩)⟩)
 have o:=h.1;refine⟨zs,?_,λk=>?_,?_⟩
 ·refine Xt (by simpa using hz) λi c f=>?_;rw[Gy,(m i (by simpa using c)).1];simp[cz,f]
 ·have a:cells.length=zs.length:=by lia
  have:cells.map (λe=>Ru (e.map (deep s (k+1))))=(zs.map D7).map some:=by
   refine Xt (by simp[a]) λi c f=>?_;simp only[al]at c f;simp only[Gy];have:=(m i f).2.1 k
   have g:cells.getD i []=cells[i]:=by simp[cz,c]
   rw[g]at this;exact this
  rw[this];have:=Zj (aa:List D->Option (List D)) id (zs.map D7) λx _=>rfl
  rwa[af8]at this
 have a:cells.length=zs.length:=by lia
 refine Xt (by simp[a]) λi c f=>?_;simp only[al]at c f;simp only[Gy];have:=(m i f).2.2
 have g:cells.getD i []=cells[i]:=by simp[cz,c]
 rw[g]at this;exact this
theorem Dw.data{s:PS}{b:Nat}{t:Tr}{cs:List C}(h:Dw s.mem b t cs):∃x y,k9 s cs=aa [x,y]/\Wk x (ki t.ps)/\Wk y (lr t.ns):=by
 obtain⟨cP,cN,cells,rfl,i,c,hN⟩:=h;obtain⟨x,x1,x2,l,e,m⟩:=i.data;obtain⟨zs,j,k,z3⟩:=c.data;rcases hN with ⟨a,rfl⟩|⟨a,rfl,hb⟩
 ·exact⟨x,.cj,jH e rfl,x1,by rw[a];exact Wk.cj⟩
 have d:s.di (b+51)=aa (.ru 5 cells):=hb
 have f:s.dv (b+51) (s.ba (b+51))=none:=by unfold PS.dv;rw[bc rfl,d]
 have e2:s.elc (b+51) (s.ba (b+51))=aa (5,cells):=by unfold PS.elc;rw[bc rfl,d]
 have g:ow s (.ref (b+51) (s.mem.ba (b+51)) t.ns.length)=aa (.gd 5 (zs.map D7)):=by
  show ow s (.ref (b+51) (s.ba (b+51)) t.ns.length)=_;simp only[ow,f,deep,e2,c.1,da,k 4,jc]
 refine⟨x,.gd 5 (zs.map D7),jH e g,x1,?_⟩;rw[<-j];exact Jp zs
def R2(m:Mem)(B off:Nat)(isR:Nat->Bool)(bo:Nat->Go.PI.B):Nat->Nat->Option Go.PI.B
 |0=>m.di
 |j+1=>if isR j=ah then lu (R2 m B off isR bo j) (B+64+64*j+off) (aa (bo j))else R2 m B off isR bo j
theorem Hw{m:Mem}{B off:Nat}{isR:Nat->Bool}{bo:Nat->Go.PI.B}{j:Nat}:R2 m B off isR bo (j+1)=if isR j=ah then lu (R2 m B off isR bo j) (B+64+64*j+off) (aa (bo j))else R2 m B off isR bo j:=rfl
theorem Ha{m:Mem}{B off:Nat}{isR:Nat->Bool}{bo:Nat->Go.PI.B}{i:Nat}:∀{j:Nat},(∀k,k<j->i≠B+64+64*k+off)->R2 m B off isR bo j i=m.di i:=by
 intro j
 induction j with
 |zero=>intro _;rfl
 |succ j a=>
  intro h;unfold R2;split
  ·rw[ie _ _ _ _ (h j (by lia))];exact a λk b=>h k (by lia)
  exact a λk b=>h k (by lia)
theorem HH{m:Mem}{B off:Nat}{isR:Nat->Bool}{bo:Nat->Go.PI.B}{k:Nat}:∀{j:Nat},k<j->R2 m B off isR bo j (B+64+64*k+off)=if isR k=ah then aa (bo k)else m.di (B+64+64*k+off):=by
 intro j
 induction j with
 |zero=>intro h;lia
 |succ j b=>
  intro h;unfold R2;rcases iZ k j with a|a
  ·split
   ·rw[ie _ _ _ _ (by lia)];exact b a
   exact b a
  have:k=j:=by lia
  subst this;split
  ·rw[de]
  exact Ha λq c=>by lia
theorem cO{α:Type}(f:α->α)(l:List α){q:Nat}(h:q<l.length):((l.take q).map f++l.drop q)[q]? =aa l[q]:=by
 rw[l9 (by simp only[al,ey];lia)];simp only[al,ey,rY (aep h),Wu,pv,Ad,bh h]
theorem iQ{α:Type}(f:α->α)(l:List α){q:Nat}(h:q<=l.length):((l.take q).map f++l.drop q).length=l.length:=by
 simp only[dz,al,ey,A0];lia
theorem Zs{α:Type}(f:α->α)(l:List α){q:Nat}(h:q<l.length):(l.take (q+1)).map f++l.drop (q+1)=((l.take q).map f++l.drop q).set q (f l[q]):=by
 have a:l.take (q+1)=l.take q++[l[q]]:=by rw[j3];simp[h]
 have e2:l.drop q=l[q]::l.drop (q+1):=jx h
 have b:((l.take q).map f).length=q:=by simp only[al,ey];lia
 rw[a,e2,fj,uy,nO _ _ (by lia),b,Wu];rfl
def isRef:C->Bool
 | .ref .. =>ah
 |_=>ag
section
variable{P:Program}
theorem PA{s:PS}{cs:List C}{xs:List D}(h:k9 s cs=aa xs):snap s (mkv ah cs)=aa (.agg xs):=by
 unfold mkv
 cases a:Mj cs with
 |none=>simp only[snap,h,jc]
 |some ds=>
  have e:∀(cs:List C) (ds:List D),Mj cs=aa ds->k9 s cs=aa ds:=by
   intro cs
   induction cs with
   |nil=>intro ds h;simp[Mj]at h;subst h;rfl
   |cons c r f=>
    intro ds h
    cases c with
    |d x=>
     simp only[Mj]at h;split at h
     ·rename_i l b
      injection h with h
      subst h;simp only[k9,ow,f l b]
     cases h
    |_=>simp[Mj]at h
  rw[e cs ds a]at h
  injection h with h
  subst h;rfl
theorem De{K:PS->Prop}{S:PS}{b:List RI}{d:Option Nat}{f:Nat}{a:ByteArray}{r:D}{cs:List C}{X Y:D}(key:∃x y,k9 S cs=aa [x,y]/\Wk x X/\Wk y Y)(i:∀x y,Wk x X->Wk y Y->iv P f [.agg [x,y],.str a] r)(j:r.flat=ah)
  (h:mc P b (S.put d (.d r)) K):Gt P f [mkv ah cs,.d (.str a)] [] ag d S (Bo P b K):=by
 obtain⟨x,y,c,e,g⟩:=key;refine jn (ds:=[.agg [x,y],.str a]) ?_ (i x y e g) j h;have:=PA c
 show(match snap S (mkv ah cs),Ln S [.d (.str a)]with|some x,aa l=>aa (x::l)|_,_=>ae)=_
 rw[this];rfl
end
theorem Dw.mono{m m':Mem}{b n:Nat}{t:Tr}{cs:List C}(h:Dw m b t cs)(l:t.ns.length<=n)(a:∀i,b<=i->i<b+96+64*n+64->m'.di i=m.di i/\m'.ba i=m.ba i):Dw m' b t cs:=by
 obtain⟨cP,cN,cells,rfl,j,d,hN⟩:=h;refine⟨cP,cN,cells,rfl,j.mono (a _ (by lia) (by lia)).1 (a _ (by lia) (by lia)).2,⟨d.1,λk g=>(d.2 k g).mono (a _ (by lia) (by lia)).1 (a _ (by lia) (by lia)).2 (a _ (by lia) (by lia)).1 (a _ (by lia) (by lia)).2⟩,?_⟩;rcases hN with c|⟨c,e,f⟩
 ·exact .inl c
 exact .inr ⟨c,by rw[(a _ (by lia) (by lia)).2];exact e,by rw[(a _ (by lia) (by lia)).1];exact f⟩
section
variable{P:Program}(A:Pr4 P)
theorem XI(e:G7)(t:Tr)(I:t.ns.length<=2^20)(o:ur t e.n= -1){m:Mem}{u B0 b:Nat}{cs:List C}(f:Dw m B0 t cs)(k:m.di u=aa (.loc cs))(p:u<B0)(G:B0+96+64*t.ns.length+64<=b)(q:yg m b):
  sl P A.p8 m [.gz u (m.ba u) 0,.d (.agg (nk e))] m (.d (.int aj 4)):=by
 have j:=λ(x y:D) (hx:Wk x (ki t.ps)) (hy:Wk y (lr t.ns))=>K7 A.toPr (ps:=t.ps) (ns:=t.ns) e.n (by lia) hx hy;rw[show(⟨t.ps,t.ns⟩:Tr)=t from rfl,o]at j
 have s:u≠b+3:=by lia
 have key:∀a:PS,(∀i,i<b->a.di i=m.di i/\a.ba i=m.ba i)->∃x y,k9 a cs=aa [x,y]/\Wk x (ki t.ps)/\Wk y (lr t.ns):=λa h=>
  Dw.data (f.mono (bm _) λi E F=>h i (by lia))
 refine mz A.mo A.Hk (by simp) b (λc=>?_) (λi=>bm _) (λi b' v=> .inl v) (λi es g=> .inl g) trivial;show l7 P (uz A.lp) (yu m [.tmp 4] _ _) _;obtain⟨cP,cN,cells,rfl,r,H,hN⟩:=f
 rcases r with ⟨B,rfl⟩|⟨rfl,z⟩<;>rcases hN with ⟨l,rfl⟩|⟨l,rfl,w⟩<;>
 ·simp only[uz,enter,nk,go_sem,ab,ak,ao,reduceCtorEq,cy,k,s];refine De (key _ λi g=>?_) j rfl ?_
  ·simp only[ar];rw[aq (by lia),aq (by lia)];exact⟨rfl,rfl⟩
  simp only[go_sem,ab,dw,cu,reduceCtorEq,PS.mem,al,qz,uq];exact uw q (by lia) rfl rfl
theorem a2z(e:G7)(t:Tr)(O:t.ns.length<=2^20){k q:Nat}(w:ur t e.n=(k:Int))(z:ur t e.t=(q:Int)){m:Mem}{u B0 b:Nat}{cs:List C}(p:Dw m B0 t cs)(l:m.di u=aa (.loc cs))(B:u<B0)(M:B0+96+64*t.ns.length+64<=b)(E:yg m b):
  sl P A.p8 m [.gz u (m.ba u) 0,.d (.agg (nk e))] m (.d (.int aj 7)):=by
 have s:=λ(x y:D) (hx:Wk x (ki t.ps)) (hy:Wk y (lr t.ns))=>K7 A.toPr (ps:=t.ps) (ns:=t.ns) e.n (by lia) hx hy;have o:=λ(x y:D) (hx:Wk x (ki t.ps)) (hy:Wk y (lr t.ns))=>K7 A.toPr (ps:=t.ps) (ns:=t.ns) e.t (by lia) hx hy;rw[show(⟨t.ps,t.ns⟩:Tr)=t from rfl,w]at s;rw[show(⟨t.ps,t.ns⟩:Tr)=t from rfl,z]at o
 have g:¬((k:Int)<0):=by lia
 have j:(q:Int)>=0:=by lia
 have r:u≠b+3:=by lia
 have key:∀a:PS,(∀i,i<b->a.di i=m.di i/\a.ba i=m.ba i)->∃x y,k9 a cs=aa [x,y]/\Wk x (ki t.ps)/\Wk y (lr t.ns):=λa h=>
  Dw.data (p.mono (bm _) λi K L=>h i (by lia))
 refine mz A.mo A.Hk (by simp) b (λc=>?_) (λi=>bm _) (λi b' G=> .inl G) (λi es f=> .inl f) trivial;show l7 P (uz A.lp) (yu m [.tmp 4] _ _) _;obtain⟨cP,cN,cells,rfl,F,N,hN⟩:=p
 rcases F with ⟨J,rfl⟩|⟨rfl,I⟩<;>rcases hN with ⟨v,rfl⟩|⟨v,rfl,H⟩<;>
 ·simp only[uz,enter,nk,go_sem,ab,ak,ao,reduceCtorEq,cy,l,r];refine De (key _ λi f=>?_) s rfl ?_
  ·simp only[ar];rw[aq (by lia),aq (by lia)];exact⟨rfl,rfl⟩
  simp only[go_sem,ab,ak,ao,reduceCtorEq,cy,l,r,g];refine De (key _ λi f=>?_) o rfl ?_
  ·simp only[ar];rw[aq (by lia),aq (by lia)];exact⟨rfl,rfl⟩
  simp only[go_sem,ab,reduceCtorEq,PS.mem,al,qz,uq,j];exact uw E (by lia) rfl rfl
end
def bX:eh:=
     (.seq (
     .region [⟨aa 42,.bin .lss (.t 41) (.t 40),ae,[]⟩] ag []) (
     (.seq (
      (.cond (.t 42) (
      .skip) (
      .exit 1))) (
      (.seq (
      (.block 2 (
       (.seq (
       .region [⟨aa 43,.xn 5 (.t 39) (.t 41),ae,[]⟩,
        ⟨aa 44,.load 5 ah (.t 43),ae,[]⟩,
        ⟨aa 7,.alloc [(.str ⟨#[]⟩),(.int aj 0),.cj,.cj,.cj],ae,[]⟩,
        ⟨ae,.store 5 (.t 7) (.t 44),ae,[]⟩] ag []) (
       (.seq (
        .region [⟨aa 45,.Ai 4 (.t 7),ae,[]⟩,
         ⟨aa 46,.load 1 ag (.t 45),ae,[]⟩,
         ⟨aa 47,.len .gd (.t 46),ae,[]⟩,
         ⟨aa 48,.kf (.c (.int aj 0)),ae,[]⟩] ag []) (
        (.block 3 (
        (.loop (
         (.seq (
         .region [⟨aa 49,.bin .lss (.t 48) (.t 47),ae,[]⟩] ag []) (
         (.seq (
          (.cond (.t 49) (
          .skip) (
          .exit 3))) (
          (.seq (
          (.block 4 (
           (.seq (
           .region [⟨aa 50,.kf (.t 48),ae,[]⟩,
            ⟨aa 51,.xn 1 (.t 46) (.t 48),ae,[]⟩,
            ⟨aa 52,.load 1 ag (.t 51),ae,[]⟩,
            ⟨aa 8,.kf (.t 50),ae,[]⟩,
            ⟨aa 9,.kf (.t 52),ae,[]⟩] ag []) (
           (.seq (
            .region [⟨aa 53,.kf (.t 9),ae,[]⟩,
             ⟨aa 54,.Ai 1 (.t 3),ae,[]⟩,
             ⟨aa 55,.load 1 ag (.t 54),ae,[]⟩,
             ⟨aa 56,.bin .eql (.t 53) (.t 55),ae,[]⟩] ag []) (
            (.cond (.t 56) (
            .region [⟨aa 57,.Ai 4 (.t 7),ae,[]⟩,
             ⟨aa 58,.load 1 ag (.t 57),ae,[]⟩,
             ⟨aa 59,.kf (.t 8),ae,[]⟩,
             ⟨aa 60,.Ai 2 (.t 3),ae,[]⟩,
             ⟨aa 61,.load 1 ag (.t 60),ae,[]⟩,
             ⟨aa 62,.xn 1 (.t 58) (.t 59),ae,[]⟩,
             ⟨ae,.store 1 (.t 62) (.t 61),ae,[]⟩] ag []) (
            .skip))))))))) (
          .region [⟨aa 63,.bin .add (.t 48) (.c (.int aj 1)),ae,[]⟩,
           ⟨aa 48,.kf (.t 63),ae,[]⟩] ag []))))))))))))))))) (
      .region [⟨aa 64,.bin .add (.t 41) (.c (.int aj 1)),ae,[]⟩,
       ⟨aa 41,.kf (.t 64),ae,[]⟩] ag []))))))
def rnS(o n s:ByteArray):ByteArray:=if i6 s o then n else s
def nX(o n:ByteArray)(x:Nd):Nd:=⟨x.n,x.f,x.ins.map (rnS o n)⟩
def inR(cells:List (List C))(k:Nat):Bool:=isRef ((cells.getD k []).getD 4 (.d .cj))
def inB(o n:ByteArray)(L:List Nd)(k:Nat):B:= .arr 1 ((nX o n (L.getD k n0)).ins.map qt)
def fW(m:Mem)(e:G7)(b B ou:Nat)(L:List Nd)(cells:List (List C))(j:Nat)(s':PS):Prop:=
 s'.base=b/\s'.tmp 3= .gz (b+3) (s'.ba (b+3)) 0/\s'.di (b+3)=aa (.loc ((nk e).map .d))/\s'.tmp 39= .ref ou (m.ba ou) L.length/\s'.tmp 40= .d (.int aj L.length)/\s'.mp=m.mp/\(∀i,i<b->s'.ba i=m.ba i)/\
 s'.di ou=aa (.ru 5 cells)/\(∀i,i<b->i≠ou->s'.di i=R2 m B 35 (inR cells) (inB e.n e.t L) j i)
section
variable{P:Program}(A:Pr4 P)
theorem XJ{m:Mem}{e:G7}{b B ou:Nat}{L:List Nd}{cells:List (List C)}(hC:Of m B L cells)(hl:L.length<=2^20)(Vi:∀n∈L,n.ins.length<=2^30)(hB:B+64+64*L.length+64<=b)(b0:ou<B+64)(Q:Exit->PS->Prop)(j:Nat)(s':PS)(hj:j<=L.length)
  (hR:fW m e b B ou L cells j s')(o:s'.tmp 41= .d (.int aj j))(hQ:∀c,fW m e b B ou L cells L.length c->Q (.exit 1) c):l7 P bX (MX L.length j (λj c=>fW m e b B ou L cells j c/\c.tmp 41= .d (.int aj j)) Q) s':=by
 obtain⟨F,x,b3,l,g,p,w,v,a⟩:=hR
 have B6:ou<b:=by lia
 have V:=w ou B6;have R:=hC.1;by_cases ju:(j:Int)<L.length
 ·have X:j<L.length:=by lia
  have wj:=dr ((j:Int)+1) (by lia) (by lia);obtain⟨cV,cI,a0,oV,oI⟩:=hC.2 j X
  have a8:j<cells.length:=by lia
  have hg:cells[j]? =aa [.d (.str (L.getD j n0).n),.d (.int aj (L.getD j n0).f.k),cV,.d (kh (L.getD j n0).f.ls),cI]:=by
   rw[<-a0];simp[cz,a8]
  have gK:L.getD j n0∈L:=by
   have:L.getD j n0=L[j]:=by simp[cz,X]
   rw[this];exact dj _
  have b2:=Vi _ gK
  have T:inR cells j=isRef cI:=by unfold inR;rw[a0];rfl
  have lA:∀i,(i=B+64+64*j+45\/i=B+64+64*j+35)->s'.di i=m.di i/\s'.ba i=m.ba i:=λi z=>by
   refine⟨?_,w i (by lia)⟩;rw[a i (by lia) (by lia)]
   exact Ha λk hk=>by lia
  have hV:=lA (B+64+64*j+45) (.inl rfl);have Y:=lA (B+64+64*j+35) (.inr rfl)
  generalize a3:L.getD j n0=n at*
  have a4:B+64+64*j+45≠b+7:=by lia
  have S:B+64+64*j+35≠b+7:=by lia
  have a1:B+64+64*j+35≠b+3:=by lia
  have b1:B+64+64*j+35<b:=by lia
  have a2:B+64+64*j+35≠ou:=by lia
  generalize a9:B+64+64*j+45=b4 at*
  generalize uO:B+64+64*j+35=r at*
  simp only[nk,du,ic]at b3;rcases oV with ⟨e1,rfl⟩|⟨rfl,a5⟩<;>rcases oI with ⟨e2,rfl⟩|⟨rfl,U⟩
  ·simp only[bX,kh,go_sem,ab,ak,reduceCtorEq,F,l,g,o,v,V,ju,hg,R,bn,aw];refine gf 0 (λq c=>fW m e b B ou L cells (j+1) c/\c.tmp 41= .d (.int aj j)/\c.tmp 47= .d (.int aj 0)/\c.tmp 48= .d (.int aj 0)) ?_ ?_
   ·refine⟨⟨rfl,?_,?_,?_,?_,p,λi z=>?_,?_,λi z N=>?_⟩,?_,?_,?_⟩
    ·simp only[ar,ab,bp,x,i7]
    ·simp only[ar,i7,ab,bp,b3,nk,du,ic]
    ·simp only[ar,ab,bp,l]
    ·simp only[ar,ab,bp,g]
    ·simp only[ar];rw[aq (by lia)];exact w i z
    ·simp only[ar];rw[aq (by lia),aq (by lia)];exact v
    ·simp only[ar];rw[aq (by lia),aq (by lia),a i z N];rw[Hw,aq (by rw[T];simp[isRef])]
    ·simp only[ar,ab,bp,o]
    ·simp only[ar,ab,bp,da]
    simp only[ar,ab,bp,da]
   rintro q c hq ⟨⟨F,x,b3,l,g,p,w,v,a⟩,o,s,u⟩;simp only[go_sem,ab,reduceCtorEq,s,u,o,wj];exact⟨X,⟨F,x,b3,l,g,p,w,v,a⟩,by rw[mu];rfl⟩
  ·simp only[bX,kh,go_sem,ab,ak,reduceCtorEq,F,l,g,o,v,V,ju,hg,R,bn,aw,ff,al,Y.1,Y.2,U,S]
   have a6:∀q:List ByteArray,q.length=n.ins.length->(q.map qt).length=n.ins.length:=λq h=>by rw[al];exact h
   refine gf n.ins.length (λq c=>c.base=b/\c.tmp 3= .gz (b+3) (c.ba (b+3)) 0/\c.di (b+3)=aa (.loc ((nk e).map .d))/\c.tmp 39= .ref ou (m.ba ou) L.length/\c.tmp 40= .d (.int aj L.length)/\c.mp=m.mp/\(∀i,i<b->c.ba i=m.ba i)/\
    c.di ou=aa (.ru 5 cells)/\(∀i,i<b->i≠ou->i≠r->c.di i=R2 m B 35 (inR cells) (inB e.n e.t L) j i)/\c.di r=aa (.arr 1 (((n.ins.take q).map (rnS e.n e.t)++n.ins.drop q).map qt))/\
    c.tmp 41= .d (.int aj j)/\c.tmp 7= .gz (b+7) (c.ba (b+7)) 0/\(∃c0 c1 O c3,c.di (b+7)=aa (.loc [c0,c1,O,c3,.ref r (m.ba r) n.ins.length]))/\c.tmp 46= .ref r (m.ba r) n.ins.length/\c.tmp 47= .d (.int aj n.ins.length)/\c.tmp 48= .d (.int aj q)) ?_ ?_
   ·refine⟨rfl,?_,?_,?_,?_,p,λi z=>?_,?_,λi z N gJ=>?_,?_,?_,?_,⟨_,_,_,_,de _ _ _⟩,?_,?_,?_⟩
    ·simp only[ar,ab,bp,x,i7]
    ·simp only[ar,i7,ab,bp,b3,nk,du,ic]
    ·simp only[ar,ab,bp,l]
    ·simp only[ar,ab,bp,g]
    ·simp only[ar];rw[aq (by lia)];exact w i z
    ·simp only[ar];rw[aq (by lia),aq (by lia)];exact v
    ·simp only[ar];rw[aq (by lia),aq (by lia),a i z N]
    ·simp only[ar,My,ic,ub,wK];rw[aq (by lia),aq (by lia),Y.1];exact U
    ·simp only[ar,ab,bp,o]
    ·simp only[ar,ab,bp,da]
    ·simp only[ar,ab,bp,da]
    ·simp only[ar,ab,bp,da]
    simp only[ar,ab,bp,da];rfl
   clear x b3 l g o v a F w p;rintro q c hq ⟨F,x,b3,l,g,p,w,v,a,K,o,f7,⟨c0,c1,O,c3,b7⟩,G,s,u⟩;have M:=w r (by lia);by_cases J:(q:Int)<n.ins.length
   ·have E:q<n.ins.length:=by lia
    have wq:=dr ((q:Int)+1) (by lia) (by lia);have hW:=iQ (rnS e.n e.t) n.ins hq
    have H:(((n.ins.take q).map (rnS e.n e.t)++n.ins.drop q).map qt)[q]? =aa [.str n.ins[q]]:=by
     rw[dn,cO _ _ E];rfl
    have Z:=Zs (rnS e.n e.t) n.ins E
    generalize a7:(n.ins.take q).map (rnS e.n e.t)++n.ins.drop q=W at*
    simp only[nk,du,ic]at b3;simp only[go_sem,ab,ak,ao,reduceCtorEq,F,x,b3,G,s,u,J,M,K,H,hW,al,bn,aw];cases hs:i6 n.ins[q] e.n
    ·have Lq:W.set q (rnS e.n e.t n.ins[q])=W:=by
      unfold rnS;rw[hs];refine wJ λi=>?_;rw[u7];split
      ·rename_i h;subst h;have:=H;rw[dn,ax]at this;obtain⟨y,y1,y2⟩:=this;simp only[qt,iI,D.str.injEq,and_true]at y2;subst y2;rw[y1,bc (by lia)];simp
      rfl
     unfold i6 at hs;simp only[go_sem,ab,reduceCtorEq,x,b3,l,g,o,f7,G,s,u,hs,wq];refine⟨E,rfl,p,w,v,a,?_,⟨c0,c1,O,c3,b7⟩,by rw[mu];rfl⟩;rw[Z,Lq];exact K
    have Me:(W.map qt).set q [.str e.t]=((n.ins.take (q+1)).map (rnS e.n e.t)++n.ins.drop (q+1)).map qt:=by
     rw[Z,<-J3];unfold rnS;rw[hs];rfl
    unfold i6 at hs;simp only[go_sem,ab,ak,ao,reduceCtorEq,x,b3,l,g,o,f7,b7,G,s,u,hs,wq,J,M,K,H,hW,al,bn,aw,Me,a2.symm,a1.symm,S.symm];refine⟨E,rfl,p,w,v,λi h1 h2 h3=>?_,⟨c0,c1,O,c3,rfl⟩,by rw[mu];rfl⟩;rw[aq h3];exact a i h1 h2 h3
   have:q=n.ins.length:=by lia
   subst this;rw[fm,Qa,pt]at K;simp only[go_sem,ab,reduceCtorEq,F,s,u,o,wj,J];refine⟨X,⟨rfl,x,b3,l,g,p,w,v,λi z N=>?_⟩,by rw[mu];rfl⟩;rw[Hw,bc (by rw[T];rfl)];by_cases I:i=r
   ·subst I;rw[uO,de];rw[K];unfold inB nX;rw[a3]
   rw[uO,ie _ _ _ _ I];exact a i z N I
  ·simp only[bX,kh,go_sem,ab,ak,reduceCtorEq,F,l,g,o,v,V,ju,hg,R,bn,aw,ff,al,hV.1,hV.2,a5,a4];refine gf 0 (λq c=>fW m e b B ou L cells (j+1) c/\c.tmp 41= .d (.int aj j)/\c.tmp 47= .d (.int aj 0)/\c.tmp 48= .d (.int aj 0)) ?_ ?_
   ·refine⟨⟨rfl,?_,?_,?_,?_,p,λi z=>?_,?_,λi z N=>?_⟩,?_,?_,?_⟩
    ·simp only[ar,ab,bp,x,i7]
    ·simp only[ar,i7,ab,bp,b3,nk,du,ic]
    ·simp only[ar,ab,bp,l]
    ·simp only[ar,ab,bp,g]
    ·simp only[ar];rw[aq (by lia)];exact w i z
    ·simp only[ar];rw[aq (by lia),aq (by lia)];exact v
    ·simp only[ar];rw[aq (by lia),aq (by lia),a i z N];rw[Hw,aq (by rw[T];simp[isRef])]
    ·simp only[ar,ab,bp,o]
    ·simp only[ar,ab,bp,da]
    simp only[ar,ab,bp,da]
   rintro q c hq ⟨⟨F,x,b3,l,g,p,w,v,a⟩,o,s,u⟩;simp only[go_sem,ab,reduceCtorEq,s,u,o,wj];exact⟨X,⟨F,x,b3,l,g,p,w,v,a⟩,by rw[mu];rfl⟩
  simp only[bX,kh,go_sem,ab,ak,reduceCtorEq,F,l,g,o,v,V,ju,hg,R,bn,aw,ff,al,hV.1,hV.2,a5,a4,Y.1,Y.2,U,S]
  have a6:∀q:List ByteArray,q.length=n.ins.length->(q.map qt).length=n.ins.length:=λq h=>by rw[al];exact h
  refine gf n.ins.length (λq c=>c.base=b/\c.tmp 3= .gz (b+3) (c.ba (b+3)) 0/\c.di (b+3)=aa (.loc ((nk e).map .d))/\c.tmp 39= .ref ou (m.ba ou) L.length/\c.tmp 40= .d (.int aj L.length)/\c.mp=m.mp/\(∀i,i<b->c.ba i=m.ba i)/\
   c.di ou=aa (.ru 5 cells)/\(∀i,i<b->i≠ou->i≠r->c.di i=R2 m B 35 (inR cells) (inB e.n e.t L) j i)/\c.di r=aa (.arr 1 (((n.ins.take q).map (rnS e.n e.t)++n.ins.drop q).map qt))/\
   c.tmp 41= .d (.int aj j)/\c.tmp 7= .gz (b+7) (c.ba (b+7)) 0/\(∃c0 c1 O c3,c.di (b+7)=aa (.loc [c0,c1,O,c3,.ref r (m.ba r) n.ins.length]))/\c.tmp 46= .ref r (m.ba r) n.ins.length/\c.tmp 47= .d (.int aj n.ins.length)/\c.tmp 48= .d (.int aj q)) ?_ ?_
  ·refine⟨rfl,?_,?_,?_,?_,p,λi z=>?_,?_,λi z N gJ=>?_,?_,?_,?_,⟨_,_,_,_,de _ _ _⟩,?_,?_,?_⟩
   ·simp only[ar,ab,bp,x,i7]
   ·simp only[ar,i7,ab,bp,b3,nk,du,ic]
   ·simp only[ar,ab,bp,l]
   ·simp only[ar,ab,bp,g]
   ·simp only[ar];rw[aq (by lia)];exact w i z
   ·simp only[ar];rw[aq (by lia),aq (by lia)];exact v
   ·simp only[ar];rw[aq (by lia),aq (by lia),a i z N]
   ·simp only[ar,My,ic,ub,wK];rw[aq (by lia),aq (by lia),Y.1];exact U
   ·simp only[ar,ab,bp,o]
   ·simp only[ar,ab,bp,da]
   ·simp only[ar,ab,bp,da]
   ·simp only[ar,ab,bp,da]
   simp only[ar,ab,bp,da];rfl
  clear x b3 l g o v a F w p;rintro q c hq ⟨F,x,b3,l,g,p,w,v,a,K,o,f7,⟨c0,c1,O,c3,b7⟩,G,s,u⟩;have M:=w r (by lia);by_cases J:(q:Int)<n.ins.length
  ·have E:q<n.ins.length:=by lia
   have wq:=dr ((q:Int)+1) (by lia) (by lia);have hW:=iQ (rnS e.n e.t) n.ins hq
   have H:(((n.ins.take q).map (rnS e.n e.t)++n.ins.drop q).map qt)[q]? =aa [.str n.ins[q]]:=by
    rw[dn,cO _ _ E];rfl
   have Z:=Zs (rnS e.n e.t) n.ins E
   generalize a7:(n.ins.take q).map (rnS e.n e.t)++n.ins.drop q=W at*
   simp only[nk,du,ic]at b3;simp only[go_sem,ab,ak,ao,reduceCtorEq,F,x,b3,G,s,u,J,M,K,H,hW,al,bn,aw];cases hs:i6 n.ins[q] e.n
   ·have Lq:W.set q (rnS e.n e.t n.ins[q])=W:=by
     unfold rnS;rw[hs];refine wJ λi=>?_;rw[u7];split
     ·rename_i h;subst h;have:=H;rw[dn,ax]at this;obtain⟨y,y1,y2⟩:=this;simp only[qt,iI,D.str.injEq,and_true]at y2;subst y2;rw[y1,bc (by lia)];simp
     rfl
    unfold i6 at hs;simp only[go_sem,ab,reduceCtorEq,x,b3,l,g,o,f7,G,s,u,hs,wq];refine⟨E,rfl,p,w,v,a,?_,⟨c0,c1,O,c3,b7⟩,by rw[mu];rfl⟩;rw[Z,Lq];exact K
   have Me:(W.map qt).set q [.str e.t]=((n.ins.take (q+1)).map (rnS e.n e.t)++n.ins.drop (q+1)).map qt:=by
    rw[Z,<-J3];unfold rnS;rw[hs];rfl
   unfold i6 at hs;simp only[go_sem,ab,ak,ao,reduceCtorEq,x,b3,l,g,o,f7,b7,G,s,u,hs,wq,J,M,K,H,hW,al,bn,aw,Me,a2.symm,a1.symm,S.symm];refine⟨E,rfl,p,w,v,λi h1 h2 h3=>?_,⟨c0,c1,O,c3,rfl⟩,by rw[mu];rfl⟩;rw[aq h3];exact a i h1 h2 h3
  have:q=n.ins.length:=by lia
  subst this;rw[fm,Qa,pt]at K;simp only[go_sem,ab,reduceCtorEq,F,s,u,o,wj,J];refine⟨X,⟨rfl,x,b3,l,g,p,w,v,λi z N=>?_⟩,by rw[mu];rfl⟩;rw[Hw,bc (by rw[T];rfl)];by_cases I:i=r
  ·subst I;rw[uO,de];rw[K];unfold inB nX;rw[a3]
  rw[uO,ie _ _ _ _ I];exact a i z N I
 have:j=L.length:=by lia
 subst this;simp only[bX,go_sem,reduceCtorEq,F,g,o,ju];exact hQ _ ⟨by simp only[],x,b3,l,g,p,w,v,a⟩
end
theorem jS{m:Mem}{B off:Nat}{isR:Nat->Bool}{bo:Nat->Go.PI.B}{i:Nat}:∀{j:Nat},R2 m B off isR bo j i=m.di i\/∃k,R2 m B off isR bo j i=aa (bo k):=by
 intro j
 induction j with
 |zero=>exact .inl rfl
 |succ j a=>
  rw[Hw];split
  ·by_cases h:i=B+64+64*j+off
   ·subst h;exact .inr ⟨j,de _ _ _⟩
   rw[ie _ _ _ _ h];exact a
  exact a
def U8(ns:List Nd)(k:Nat)(s:ByteArray):List Nd:=ns.set k ⟨s,(ns.getD k n0).f,(ns.getD k n0).ins⟩
def Mo(t:Tr)(e:G7)(k:Nat):Tr:=⟨t.ps,(U8 t.ns k e.t).map (nX e.n e.t)⟩
theorem rE{α:Type}(l:List α)(k i:Nat)(x d:α)(a:k<l.length):(l.set k x).getD i d=if i=k then x else l.getD i d:=by
 simp only[Bj,u7];by_cases h:k=i
 ·subst h;simp[a]
 rw[aq h,aq (λq=>h q.symm)]
theorem rF{α β:Type}(f:α->β)(l:List α)(i:Nat)(d:α)(e:β)(a:i<l.length):(l.map f).getD i e=f (l.getD i d):=by
 simp[cz,a]
section
variable{P:Program}(A:Pr4 P)
theorem a69(e:G7)(t:Tr)(hl:t.ns.length<=2^20)(Vi:∀n∈t.ns,n.ins.length<=2^30){k:Nat}(O:k<t.ns.length)(hI:ur t e.n=(k:Int))(hJ:ur t e.t= -1){m:Mem}{u B0 b:Nat}{cs:List C}(hT:Dw m B0 t cs)(T:m.di u=aa (.loc cs))(b2:u<B0)(hB:B0+96+64*t.ns.length+64<=b)(lv:yg m b):
  ∃m',sl P A.p8 m [.gz u (m.ba u) 0,.d (.agg (nk e))] m' (.d (.int aj 0))/\Dw m' B0 (Mo t e k) cs/\(∀i,i<B0->m'.di i=m.di i)/\m'.ba=m.ba/\m'.mp=m.mp/\yg m' b:=by
 have vq:=λ(x y:D) (hx:Wk x (ki t.ps)) (hy:Wk y (lr t.ns))=>K7 A.toPr (ps:=t.ps) (ns:=t.ns) e.n (by lia) hx hy;have Ua:=λ(x y:D) (hx:Wk x (ki t.ps)) (hy:Wk y (lr t.ns))=>K7 A.toPr (ps:=t.ps) (ns:=t.ns) e.t (by lia) hx hy;rw[show(⟨t.ps,t.ns⟩:Tr)=t from rfl,hI]at vq;rw[show(⟨t.ps,t.ns⟩:Tr)=t from rfl,hJ]at Ua
 have a5:¬((k:Int)<0):=by lia
 have a6:(k:Int)<t.ns.length:=by lia
 have sj:u≠b+3:=by lia
 have key:∀S:PS,(∀i,i<b->S.di i=m.di i/\S.ba i=m.ba i)->∃x y,k9 S cs=aa [x,y]/\Wk x (ki t.ps)/\Wk y (lr t.ns):=λS h=>
  Dw.data (hT.mono (bm _) λi Y r=>h i (by lia))
 obtain⟨cP,cN,cells,rfl,oP,hC,hN⟩:=hT
 have l8:t.ns≠[]:=λh=>by rw[h]at O;simp at O
 obtain⟨rfl,B6⟩:=(hN.resolve_left λh=>l8 h.1).2
 have a8:u≠B0+51:=by lia
 have a7:B0+51≠b+3:=by lia
 have F:=hC.1;obtain⟨cV,cI,a2,oV,oI⟩:=hC.2 k O
 have Q:k<cells.length:=by lia
 have hg:cells[k]? =aa [.d (.str (t.ns.getD k n0).n),.d (.int aj (t.ns.getD k n0).f.k),cV,.d (kh (t.ns.getD k n0).f.ls),cI]:=by
  rw[<-a2];simp[cz,Q]
 obtain⟨o,R⟩:∃c,c=cells.set k [.d (.str e.t),.d (.int aj (t.ns.getD k n0).f.k),cV,.d (kh (t.ns.getD k n0).f.ls),cI]:=⟨_,rfl⟩
 have V:o.length=t.ns.length:=by rw[R,J8];exact F
 have g:(U8 t.ns k e.t).length=t.ns.length:=by simp[U8]
 have w:Of m (B0+32) (U8 t.ns k e.t) o:=by
  refine⟨by rw[R,J8,g];exact F,λi a=>?_⟩;rw[g]at a;unfold U8;rw[R,rE _ _ _ _ _ O,rE _ _ _ _ _ Q];by_cases G:i=k
  ·subst G;rw[bc rfl,bc rfl];exact⟨cV,cI,rfl,oV,oI⟩
  rw[aq G,aq G];exact hC.2 i a
 have U:∀n∈U8 t.ns k e.t,n.ins.length<=2^30:=by
  intro n hn;rcases a8p hn with h|rfl
  ·exact Vi n h
  refine Vi (t.ns.getD k n0) ?_
  have:t.ns.getD k n0=t.ns[k]:=by simp[cz,O]
  rw[this];exact dj _
 have z:Mo t e k=⟨t.ps,(U8 t.ns k e.t).map (nX e.n e.t)⟩:=rfl
 generalize hL:U8 t.ns k e.t=L at*
 obtain⟨s,M⟩:∃f,f=lu (R2 m (B0+32) 35 (inR o) (inB e.n e.t L) L.length) (B0+51) (aa (.ru 5 o)):=⟨_,rfl⟩
 have E:s (B0+51)=aa (.ru 5 o):=by rw[M,de]
 have l:∀i,i≠B0+51->s i=R2 m (B0+32) 35 (inR o) (inB e.n e.t L) L.length i:=λi a=>by rw[M,ie _ _ _ _ a]
 have I:∀i,b<=i->s i=none:=λi a=>by
  rw[l i (by lia),Ha λq H=>by lia];exact(lv i a).1
 have Fq:∀p:PS,fW m e b (B0+32) (B0+51) L o L.length p->Clean p.mem ⟨s,m.ba,m.mp⟩:=by
  rintro p ⟨eb,f3,b3,a9,b0,X,pg,Be,N⟩
  refine xd (b:=b) (λi a=>⟨?_,(pg i a).symm,by show m.mp i=p.mp i;rw[X]⟩) (λi a=>⟨.inl (I i a),(lv i a).2⟩)
  show s i=p.di i;by_cases h:i=B0+51
  ·subst h;rw[E,Be]
  rw[l i h,N i a h]
 refine⟨⟨s,m.ba,m.mp⟩,mz A.mo A.Hk (by simp) b (λc=>?_) (λi=>bm _) (λi b' v=>?_) (λi es a=> .inl a) trivial,⟨cP,_,o,rfl,oP.mono ?_ rfl,⟨by rw[z,al];exact w.1,λi a=>?_⟩,.inr ⟨?_,by rw[z,al,g],E⟩⟩,λi a=>?_,rfl,rfl,λi a=>⟨I i a,(lv i a).2⟩⟩
 ·show l7 P (uz A.lp) (yu m [.tmp 4] _ _) _
  rcases oP with ⟨e1,rfl⟩|⟨rfl,D3⟩<;>
  ·simp only[uz,enter,nk,go_sem,ab,ak,ao,reduceCtorEq,cy,T,sj];refine De (key _ λi a=>?_) vq rfl ?_
   ·simp only[ar];rw[aq (by lia),aq (by lia)];exact⟨rfl,rfl⟩
   simp only[go_sem,ab,ak,ao,reduceCtorEq,cy,T,sj,a5];refine De (key _ λi a=>?_) Ua rfl ?_
   ·simp only[ar];rw[aq (by lia),aq (by lia)];exact⟨rfl,rfl⟩
   simp only[go_sem,ab,ft,cu,ak,ao,reduceCtorEq,cy,T,sj,a8,a7,B6,a6,hg,F,bn,aw,G5,<-R,V];refine wv (λp=>fW m e b (B0+32) (B0+51) L o L.length p) ?_ ?_
   ·refine gf L.length (λj p=>fW m e b (B0+32) (B0+51) L o j p/\p.tmp 41= .d (.int aj j)) ?_ ?_
    ·have a0:(b+3=B0+51)=False:=by simp;lia
     refine⟨⟨rfl,?_,?_,?_,?_,rfl,λi a=>?_,?_,λi a gJ=>?_⟩,?_⟩
     ·simp only[ar,ab,bp,da]
     ·simp only[ar,a0,bp,da,nk,du,ic]
     ·simp only[ar,ab,bp,da,g]
     ·simp only[ar,ab,bp,da,g]
     ·simp only[ar];rw[aq (by lia)]
     ·simp only[ar,da]
     ·simp only[ar];rw[aq gJ,aq (by lia)];rfl
     simp only[ar,ab,bp,da];rfl
    rintro j p hj ⟨hR,a1⟩;exact XJ w (by rw[g];exact hl) U (by rw[g];lia) (by lia) _ j p hj hR a1 λs3 Z=>Z
   intro p r;simp only[go_sem,qz,uq];exact Fq p r
 ·replace v:s i=aa b':=v;by_cases h:i=B0+51
  ·subst h;rw[E]at v
   injection v with v
   subst v;refine .inr λe2 a3=>?_;obtain⟨q,H,rfl⟩:=j0.1 a3;have:=(w.2 q (by rw[<-w.1];exact H)).wf
   have e1:o.getD q []=o[q]:=by simp[cz,H]
   rw[e1]at this;intro c hc;have r:=this c hc;cases c<;>exact r
  rw[l i h]at v;rcases jS (m:=m) (B:=B0+32) (off:=35) (isR:=inR o) (bo:=inB e.n e.t L) (i:=i) (j:=L.length)with r|⟨q,r⟩
  ·exact .inl (by rw[<-r];exact v)
  rw[r]at v
  injection v with v
  subst v;exact .inr trivial
 ·show s _=_;rw[l _ (by lia),Ha λq H=>by lia]
 ·rw[z,al]at a
  have b1:i<t.ns.length:=by rw[<-g];exact a
  rw[z];rw[rF (nX e.n e.t) L i n0 n0 a];obtain⟨W,J,Y,r,Z⟩:=w.2 i a;refine⟨W,J,Y,r.mono ?_ rfl,?_⟩
  ·show s _=_;rw[l _ (by lia),Ha λq H=>by lia]
  have a4:inR o i=isRef J:=by unfold inR;rw[Y];rfl
  have K:s (B0+32+64+64*i+35)=_:=(l _ (by lia)).trans (HH a);rw[a4]at K;rcases Z with ⟨g1,rfl⟩|⟨rfl,g2⟩
  ·refine .inl ⟨?_,rfl⟩;have:(L.getD i n0).ins=[]:=fw.1 g1;show afi qt ((L.getD i n0).ins.map _)=[];rw[this];rfl
  refine .inr ⟨?_,?_⟩
  ·show C.ref _ (m.ba _) _=C.ref _ (m.ba _) _;simp[nX]
  show s _=_;rw[K];rfl
 ·intro h;have r:=congrArg Ae h;rw[z,al,g]at r;simp only[ew]at r;lia
 show s i=_;rw[l _ (by lia),Ha λq H=>by lia]
end
def bT:eh:=
     (.seq (
     .region [⟨aa 41,.bin .lss (.t 40) (.t 39),ae,[]⟩] ag []) (
     (.seq (
      (.cond (.t 41) (
      .skip) (
      .exit 1))) (
      (.seq (
      (.block 2 (
       (.seq (
       .region [⟨aa 42,.xn 5 (.t 38) (.t 40),ae,[]⟩,
        ⟨aa 43,.load 5 ah (.t 42),ae,[]⟩,
        ⟨aa 7,.alloc [(.str ⟨#[]⟩),(.int aj 0),.cj,.cj,.cj],ae,[]⟩,
        ⟨ae,.store 5 (.t 7) (.t 43),ae,[]⟩] ag []) (
       (.seq (
        .region [⟨aa 44,.Ai 1 (.t 7),ae,[]⟩,
         ⟨aa 45,.Ai 1 (.t 44),ae,[]⟩,
         ⟨aa 46,.load 1 ag (.t 45),ae,[]⟩,
         ⟨aa 47,.len .gd (.t 46),ae,[]⟩,
         ⟨aa 48,.kf (.c (.int aj 0)),ae,[]⟩] ag []) (
        (.block 3 (
        (.loop (
         (.seq (
         .region [⟨aa 49,.bin .lss (.t 48) (.t 47),ae,[]⟩] ag []) (
         (.seq (
          (.cond (.t 49) (
          .skip) (
          .exit 3))) (
          (.seq (
          (.block 4 (
           (.seq (
           .region [⟨aa 50,.kf (.t 48),ae,[]⟩,
            ⟨aa 8,.kf (.t 50),ae,[]⟩] ag []) (
           (.seq (
            .region [⟨aa 51,.Ai 1 (.t 7),ae,[]⟩,
             ⟨aa 52,.Ai 1 (.t 51),ae,[]⟩,
             ⟨aa 53,.load 1 ag (.t 52),ae,[]⟩,
             ⟨aa 54,.kf (.t 8),ae,[]⟩,
             ⟨aa 55,.xn 3 (.t 53) (.t 54),ae,[]⟩,
             ⟨aa 56,.Ai 0 (.t 55),ae,[]⟩,
             ⟨aa 57,.load 1 ag (.t 56),ae,[]⟩,
             ⟨aa 58,.Ai 1 (.t 3),ae,[]⟩,
             ⟨aa 59,.load 1 ag (.t 58),ae,[]⟩,
             ⟨aa 60,.bin .eql (.t 57) (.t 59),ae,[]⟩] ah []) (
            (.cond (.t 60) (
            .region [⟨aa 61,.Ai 1 (.t 7),ae,[]⟩,
             ⟨aa 62,.Ai 1 (.t 61),ae,[]⟩,
             ⟨aa 63,.load 1 ag (.t 62),ae,[]⟩,
             ⟨aa 64,.kf (.t 8),ae,[]⟩,
             ⟨aa 65,.Ai 2 (.t 3),ae,[]⟩,
             ⟨aa 66,.load 1 ag (.t 65),ae,[]⟩,
             ⟨aa 67,.xn 3 (.t 63) (.t 64),ae,[]⟩,
             ⟨aa 68,.Ai 0 (.t 67),ae,[]⟩,
             ⟨ae,.store 1 (.t 68) (.t 66),ae,[]⟩] ag []) (
            .skip))))))))) (
          .region [⟨aa 69,.bin .add (.t 48) (.c (.int aj 1)),ae,[]⟩,
           ⟨aa 48,.kf (.t 69),ae,[]⟩] ag []))))))))))))))))) (
      .region [⟨aa 70,.bin .add (.t 40) (.c (.int aj 1)),ae,[]⟩,
       ⟨aa 40,.kf (.t 70),ae,[]⟩] ag []))))))
def rpV(o n:ByteArray)(v:Vl):Vl:=if i6 v.n o then⟨n,v.t,v.a⟩else v
def Ox(o n:ByteArray)(x:Nd):Nd:=⟨x.n,⟨x.f.k,x.f.vs.map (rpV o n),x.f.ls⟩,x.ins⟩
def vlR(cells:List (List C))(k:Nat):Bool:=isRef ((cells.getD k []).getD 2 (.d .cj))
def vlB(o n:ByteArray)(L:List Nd)(k:Nat):B:= .arr 3 ((Ox o n (L.getD k n0)).f.vs.map B4)
def nH(m:Mem)(e:G7)(b B ou:Nat)(L:List Nd)(cells:List (List C))(j:Nat)(s':PS):Prop:=
 s'.base=b/\s'.tmp 3= .gz (b+3) (s'.ba (b+3)) 0/\s'.di (b+3)=aa (.loc ((nk e).map .d))/\s'.tmp 38= .ref ou (m.ba ou) L.length/\s'.tmp 39= .d (.int aj L.length)/\s'.mp=m.mp/\(∀i,i<b->s'.ba i=m.ba i)/\
 s'.di ou=aa (.ru 5 cells)/\(∀i,i<b->i≠ou->s'.di i=R2 m B 45 (vlR cells) (vlB e.n e.t L) j i)
section
variable{P:Program}(A:Pr4 P)
theorem XH{m:Mem}{e:G7}{b B ou:Nat}{L:List Nd}{cells:List (List C)}(hC:Of m B L cells)(hl:L.length<=2^20)(Vi:∀n∈L,n.f.vs.length<=2^30)(hB:B+64+64*L.length+64<=b)(b0:ou<B+64)(Q:Exit->PS->Prop)(j:Nat)(s':PS)(hj:j<=L.length)
  (hR:nH m e b B ou L cells j s')(l:s'.tmp 40= .d (.int aj j))(hQ:∀g,nH m e b B ou L cells L.length g->Q (.exit 1) g):l7 P bT (MX L.length j (λj g=>nH m e b B ou L cells j g/\g.tmp 40= .d (.int aj j)) Q) s':=by
 obtain⟨E,z,b3,w,u,o,y,v,c⟩:=hR
 have B6:ou<b:=by lia
 have U:=y ou B6;have O:=hC.1;by_cases ju:(j:Int)<L.length
 ·have Z:j<L.length:=by lia
  have wj:=dr ((j:Int)+1) (by lia) (by lia);obtain⟨cI,cV,a0,oI,oV⟩:=hC.2 j Z
  have a8:j<cells.length:=by lia
  have hg:cells[j]? =aa [.d (.str (L.getD j n0).n),.d (.int aj (L.getD j n0).f.k),cI,.d (kh (L.getD j n0).f.ls),cV]:=by
   rw[<-a0];simp[cz,a8]
  have gK:L.getD j n0∈L:=by
   have:L.getD j n0=L[j]:=by simp[cz,Z]
   rw[this];exact dj _
  have b2:=Vi _ gK
  have S:vlR cells j=isRef cI:=by unfold vlR;rw[a0];rfl
  have lA:∀i,(i=B+64+64*j+35\/i=B+64+64*j+45)->s'.di i=m.di i/\s'.ba i=m.ba i:=λi D=>by
   refine⟨?_,y i (by lia)⟩;rw[c i (by lia) (by lia)]
   exact Ha λk hk=>by lia
  have hV:=lA (B+64+64*j+35) (.inl rfl);have hI:=lA (B+64+64*j+45) (.inr rfl)
  generalize a3:L.getD j n0=n at*
  have a4:B+64+64*j+35≠b+7:=by lia
  have R:B+64+64*j+45≠b+7:=by lia
  have a1:B+64+64*j+45≠b+3:=by lia
  have b1:B+64+64*j+45<b:=by lia
  have a2:B+64+64*j+45≠ou:=by lia
  generalize a9:B+64+64*j+35=b4 at*
  generalize uO:B+64+64*j+45=p at*
  simp only[nk,du,ic]at b3;rcases oV with ⟨e1,rfl⟩|⟨rfl,a5⟩<;>rcases oI with ⟨e2,rfl⟩|⟨rfl,T⟩
  ·simp only[bT,kh,go_sem,ab,ak,ao,reduceCtorEq,E,w,u,l,v,U,ju,hg,O,bn,aw];refine gf 0 (λq g=>nH m e b B ou L cells (j+1) g/\g.tmp 40= .d (.int aj j)/\g.tmp 47= .d (.int aj 0)/\g.tmp 48= .d (.int aj 0)) ?_ ?_
   ·refine⟨⟨rfl,?_,?_,?_,?_,o,λi D=>?_,?_,λi D M=>?_⟩,?_,?_,?_⟩
    ·simp only[ar,ab,bp,z,i7]
    ·simp only[ar,i7,ab,bp,b3,nk,du,ic]
    ·simp only[ar,ab,bp,w]
    ·simp only[ar,ab,bp,u]
    ·simp only[ar];rw[aq (by lia)];exact y i D
    ·simp only[ar];rw[aq (by lia),aq (by lia)];exact v
    ·simp only[ar];rw[aq (by lia),aq (by lia),c i D M];rw[Hw,aq (by rw[S];simp[isRef])]
    ·simp only[ar,ab,bp,l]
    ·simp only[ar,ab,bp,da]
    simp only[ar,ab,bp,da]
   rintro q g hq ⟨⟨E,z,b3,w,u,o,y,v,c⟩,l,r,s⟩;simp only[go_sem,ab,reduceCtorEq,r,s,l,wj];exact⟨Z,⟨E,z,b3,w,u,o,y,v,c⟩,by rw[mu];rfl⟩
  ·simp only[bT,kh,go_sem,ab,ak,ao,reduceCtorEq,E,w,u,l,v,U,ju,hg,O,bn,aw,ff,al,hI.1,hI.2,T,R]
   have a6:∀q:List Vl,q.length=n.f.vs.length->(q.map B4).length=n.f.vs.length:=λq h=>by rw[al];exact h
   refine gf n.f.vs.length (λq g=>g.base=b/\g.tmp 3= .gz (b+3) (g.ba (b+3)) 0/\g.di (b+3)=aa (.loc ((nk e).map .d))/\g.tmp 38= .ref ou (m.ba ou) L.length/\g.tmp 39= .d (.int aj L.length)/\g.mp=m.mp/\(∀i,i<b->g.ba i=m.ba i)/\
    g.di ou=aa (.ru 5 cells)/\(∀i,i<b->i≠ou->i≠p->g.di i=R2 m B 45 (vlR cells) (vlB e.n e.t L) j i)/\g.di p=aa (.arr 3 (((n.f.vs.take q).map (rpV e.n e.t)++n.f.vs.drop q).map B4))/\
    g.tmp 40= .d (.int aj j)/\g.tmp 7= .gz (b+7) (g.ba (b+7)) 0/\(∃c0 c1 N c3,g.di (b+7)=aa (.loc [c0,c1,.ref p (m.ba p) n.f.vs.length,N,c3]))/\g.tmp 46= .ref p (m.ba p) n.f.vs.length/\g.tmp 47= .d (.int aj n.f.vs.length)/\g.tmp 48= .d (.int aj q)) ?_ ?_
   ·refine⟨rfl,?_,?_,?_,?_,o,λi D=>?_,?_,λi D M gJ=>?_,?_,?_,?_,⟨_,_,_,_,de _ _ _⟩,?_,?_,?_⟩
    ·simp only[ar,ab,bp,z,i7]
    ·simp only[ar,i7,ab,bp,b3,nk,du,ic]
    ·simp only[ar,ab,bp,w]
    ·simp only[ar,ab,bp,u]
    ·simp only[ar];rw[aq (by lia)];exact y i D
    ·simp only[ar];rw[aq (by lia),aq (by lia)];exact v
    ·simp only[ar];rw[aq (by lia),aq (by lia),c i D M]
    ·simp only[ar,My,ic,ub,wK];rw[aq (by lia),aq (by lia),hI.1];exact T
    ·simp only[ar,ab,bp,l]
    ·simp only[ar,ab,bp,da]
    ·simp only[ar,ab,bp,da]
    ·simp only[ar,ab,bp,da]
    simp only[ar,ab,bp,da];rfl
   clear z b3 w u l v c E y o;rintro q g hq ⟨E,z,b3,w,u,o,y,v,c,H,l,X,⟨c0,c1,N,c3,V⟩,I,r,s⟩;have K:=y p (by lia);by_cases G:(q:Int)<n.f.vs.length
   ·have x:q<n.f.vs.length:=by lia
    have wq:=dr ((q:Int)+1) (by lia) (by lia);have hW:=iQ (rpV e.n e.t) n.f.vs hq
    have J:(((n.f.vs.take q).map (rpV e.n e.t)++n.f.vs.drop q).map B4)[q]? =aa [.str n.f.vs[q].n,.int aj n.f.vs[q].t,.int aj n.f.vs[q].a]:=by
     rw[dn,cO _ _ x];rfl
    have F6:=Zs (rpV e.n e.t) n.f.vs x;have Y:=cO (rpV e.n e.t) n.f.vs x
    generalize a7:(n.f.vs.take q).map (rpV e.n e.t)++n.f.vs.drop q=W at*
    simp only[nk,du,ic]at b3;simp only[go_sem,ab,ak,ao,reduceCtorEq,E,z,b3,X,V,r,s,G,K,H,J,hW,al,bn,aw];cases hs:i6 n.f.vs[q].n e.n
    ·have Lq:W.set q (rpV e.n e.t n.f.vs[q])=W:=by
      unfold rpV;rw[hs];refine wJ λi=>?_;rw[u7];split
      ·rename_i h;subst h;rw[bc (by lia),Y];simp
      rfl
     unfold i6 at hs;simp only[go_sem,ab,reduceCtorEq,z,b3,w,u,l,X,I,r,s,hs,wq];refine⟨x,rfl,o,y,v,c,?_,⟨c0,c1,N,c3,V⟩,by rw[mu];rfl⟩;rw[F6,Lq];exact H
    have Me:(W.map B4).set q [.str e.t,.int aj n.f.vs[q].t,.int aj n.f.vs[q].a]=((n.f.vs.take (q+1)).map (rpV e.n e.t)++n.f.vs.drop (q+1)).map B4:=by
     rw[F6,<-J3];unfold rpV;rw[hs];rfl
    unfold i6 at hs;simp only[go_sem,ab,ak,ao,reduceCtorEq,z,b3,w,u,l,X,V,I,r,s,hs,wq,G,K,H,J,hW,al,bn,aw,Me,a2.symm,a1.symm,R.symm];refine⟨x,rfl,o,y,v,λi h1 h2 h3=>?_,⟨c0,c1,N,c3,rfl⟩,by rw[mu];rfl⟩;rw[aq h3];exact c i h1 h2 h3
   have:q=n.f.vs.length:=by lia
   subst this;rw[fm,Qa,pt]at H;simp only[go_sem,ab,reduceCtorEq,E,r,s,l,wj,G];refine⟨Z,⟨rfl,z,b3,w,u,o,y,v,λi D M=>?_⟩,by rw[mu];rfl⟩;rw[Hw,bc (by rw[S];rfl)];by_cases F:i=p
   ·subst F;rw[uO,de];rw[H];unfold vlB Ox;rw[a3]
   rw[uO,ie _ _ _ _ F];exact c i D M F
  ·simp only[bT,kh,go_sem,ab,ak,ao,reduceCtorEq,E,w,u,l,v,U,ju,hg,O,bn,aw,ff,al,hV.1,hV.2,a5,a4];refine gf 0 (λq g=>nH m e b B ou L cells (j+1) g/\g.tmp 40= .d (.int aj j)/\g.tmp 47= .d (.int aj 0)/\g.tmp 48= .d (.int aj 0)) ?_ ?_
   ·refine⟨⟨rfl,?_,?_,?_,?_,o,λi D=>?_,?_,λi D M=>?_⟩,?_,?_,?_⟩
    ·simp only[ar,ab,bp,z,i7]
    ·simp only[ar,i7,ab,bp,b3,nk,du,ic]
    ·simp only[ar,ab,bp,w]
    ·simp only[ar,ab,bp,u]
    ·simp only[ar];rw[aq (by lia)];exact y i D
    ·simp only[ar];rw[aq (by lia),aq (by lia)];exact v
    ·simp only[ar];rw[aq (by lia),aq (by lia),c i D M];rw[Hw,aq (by rw[S];simp[isRef])]
    ·simp only[ar,ab,bp,l]
    ·simp only[ar,ab,bp,da]
    simp only[ar,ab,bp,da]
   rintro q g hq ⟨⟨E,z,b3,w,u,o,y,v,c⟩,l,r,s⟩;simp only[go_sem,ab,reduceCtorEq,r,s,l,wj];exact⟨Z,⟨E,z,b3,w,u,o,y,v,c⟩,by rw[mu];rfl⟩
  simp only[bT,kh,go_sem,ab,ak,ao,reduceCtorEq,E,w,u,l,v,U,ju,hg,O,bn,aw,ff,al,hV.1,hV.2,a5,a4,hI.1,hI.2,T,R]
  have a6:∀q:List Vl,q.length=n.f.vs.length->(q.map B4).length=n.f.vs.length:=λq h=>by rw[al];exact h
  refine gf n.f.vs.length (λq g=>g.base=b/\g.tmp 3= .gz (b+3) (g.ba (b+3)) 0/\g.di (b+3)=aa (.loc ((nk e).map .d))/\g.tmp 38= .ref ou (m.ba ou) L.length/\g.tmp 39= .d (.int aj L.length)/\g.mp=m.mp/\(∀i,i<b->g.ba i=m.ba i)/\
   g.di ou=aa (.ru 5 cells)/\(∀i,i<b->i≠ou->i≠p->g.di i=R2 m B 45 (vlR cells) (vlB e.n e.t L) j i)/\g.di p=aa (.arr 3 (((n.f.vs.take q).map (rpV e.n e.t)++n.f.vs.drop q).map B4))/\
   g.tmp 40= .d (.int aj j)/\g.tmp 7= .gz (b+7) (g.ba (b+7)) 0/\(∃c0 c1 N c3,g.di (b+7)=aa (.loc [c0,c1,.ref p (m.ba p) n.f.vs.length,N,c3]))/\g.tmp 46= .ref p (m.ba p) n.f.vs.length/\g.tmp 47= .d (.int aj n.f.vs.length)/\g.tmp 48= .d (.int aj q)) ?_ ?_
  ·refine⟨rfl,?_,?_,?_,?_,o,λi D=>?_,?_,λi D M gJ=>?_,?_,?_,?_,⟨_,_,_,_,de _ _ _⟩,?_,?_,?_⟩
   ·simp only[ar,ab,bp,z,i7]
   ·simp only[ar,i7,ab,bp,b3,nk,du,ic]
   ·simp only[ar,ab,bp,w]
   ·simp only[ar,ab,bp,u]
   ·simp only[ar];rw[aq (by lia)];exact y i D
   ·simp only[ar];rw[aq (by lia),aq (by lia)];exact v
   ·simp only[ar];rw[aq (by lia),aq (by lia),c i D M]
   ·simp only[ar,My,ic,ub,wK];rw[aq (by lia),aq (by lia),hI.1];exact T
   ·simp only[ar,ab,bp,l]
   ·simp only[ar,ab,bp,da]
   ·simp only[ar,ab,bp,da]
   ·simp only[ar,ab,bp,da]
   simp only[ar,ab,bp,da];rfl
  clear z b3 w u l v c E y o;rintro q g hq ⟨E,z,b3,w,u,o,y,v,c,H,l,X,⟨c0,c1,N,c3,V⟩,I,r,s⟩;have K:=y p (by lia);by_cases G:(q:Int)<n.f.vs.length
  ·have x:q<n.f.vs.length:=by lia
   have wq:=dr ((q:Int)+1) (by lia) (by lia);have hW:=iQ (rpV e.n e.t) n.f.vs hq
   have J:(((n.f.vs.take q).map (rpV e.n e.t)++n.f.vs.drop q).map B4)[q]? =aa [.str n.f.vs[q].n,.int aj n.f.vs[q].t,.int aj n.f.vs[q].a]:=by
    rw[dn,cO _ _ x];rfl
   have F6:=Zs (rpV e.n e.t) n.f.vs x;have Y:=cO (rpV e.n e.t) n.f.vs x
   generalize a7:(n.f.vs.take q).map (rpV e.n e.t)++n.f.vs.drop q=W at*
   simp only[nk,du,ic]at b3;simp only[go_sem,ab,ak,ao,reduceCtorEq,E,z,b3,X,V,r,s,G,K,H,J,hW,al,bn,aw];cases hs:i6 n.f.vs[q].n e.n
   ·have Lq:W.set q (rpV e.n e.t n.f.vs[q])=W:=by
     unfold rpV;rw[hs];refine wJ λi=>?_;rw[u7];split
     ·rename_i h;subst h;rw[bc (by lia),Y];simp
     rfl
    unfold i6 at hs;simp only[go_sem,ab,reduceCtorEq,z,b3,w,u,l,X,I,r,s,hs,wq];refine⟨x,rfl,o,y,v,c,?_,⟨c0,c1,N,c3,V⟩,by rw[mu];rfl⟩;rw[F6,Lq];exact H
   have Me:(W.map B4).set q [.str e.t,.int aj n.f.vs[q].t,.int aj n.f.vs[q].a]=((n.f.vs.take (q+1)).map (rpV e.n e.t)++n.f.vs.drop (q+1)).map B4:=by
    rw[F6,<-J3];unfold rpV;rw[hs];rfl
   unfold i6 at hs;simp only[go_sem,ab,ak,ao,reduceCtorEq,z,b3,w,u,l,X,V,I,r,s,hs,wq,G,K,H,J,hW,al,bn,aw,Me,a2.symm,a1.symm,R.symm];refine⟨x,rfl,o,y,v,λi h1 h2 h3=>?_,⟨c0,c1,N,c3,rfl⟩,by rw[mu];rfl⟩;rw[aq h3];exact c i h1 h2 h3
  have:q=n.f.vs.length:=by lia
  subst this;rw[fm,Qa,pt]at H;simp only[go_sem,ab,reduceCtorEq,E,r,s,l,wj,G];refine⟨Z,⟨rfl,z,b3,w,u,o,y,v,λi D M=>?_⟩,by rw[mu];rfl⟩;rw[Hw,bc (by rw[S];rfl)];by_cases F:i=p
  ·subst F;rw[uO,de];rw[H];unfold vlB Ox;rw[a3]
  rw[uO,ie _ _ _ _ F];exact c i D M F
 have:j=L.length:=by lia
 subst this;simp only[bT,go_sem,reduceCtorEq,E,u,l,ju];exact hQ _ ⟨by simp only[],z,b3,w,u,o,y,v,c⟩
end
def Zr(ps:List Pm)(k:Nat)(s:ByteArray):List Pm:=ps.set k ⟨s,(ps.getD k p0).v⟩
def K9(t:Tr)(e:G7)(k:Nat):Tr:=⟨Zr t.ps k e.t,t.ns.map (Ox e.n e.t)⟩
section
variable{P:Program}(A:Pr4 P)
theorem XG(e:G7)(t:Tr)(I:t.ps.length<=2^20)(o:ku t e.n= -1){m:Mem}{u B0 b:Nat}{cs:List C}(f:Dw m B0 t cs)(k:m.di u=aa (.loc cs))(p:u<B0)(G:B0+96+64*t.ns.length+64<=b)(q:yg m b):
  sl P A.o9 m [.gz u (m.ba u) 0,.d (.agg (nk e))] m (.d (.int aj 4)):=by
 have j:=λ(x y:D) (hx:Wk x (ki t.ps)) (hy:Wk y (lr t.ns))=>H7 A.toPr (ps:=t.ps) (ns:=t.ns) e.n (by lia) hx hy;rw[show(⟨t.ps,t.ns⟩:Tr)=t from rfl,o]at j
 have s:u≠b+3:=by lia
 have key:∀a:PS,(∀i,i<b->a.di i=m.di i/\a.ba i=m.ba i)->∃x y,k9 a cs=aa [x,y]/\Wk x (ki t.ps)/\Wk y (lr t.ns):=λa h=>
  Dw.data (f.mono (bm _) λi E F=>h i (by lia))
 refine mz A.mo A.Gr (by simp) b (λc=>?_) (λi=>bm _) (λi b' v=> .inl v) (λi es g=> .inl g) trivial;show l7 P (sn A.jm) (yu m [.tmp 4] _ _) _;obtain⟨cP,cN,cells,rfl,r,H,hN⟩:=f
 rcases r with ⟨B,rfl⟩|⟨rfl,z⟩<;>rcases hN with ⟨l,rfl⟩|⟨l,rfl,w⟩<;>
 ·simp only[sn,enter,nk,go_sem,ab,ak,ao,reduceCtorEq,cy,k,s];refine De (key _ λi g=>?_) j rfl ?_
  ·simp only[ar];rw[aq (by lia),aq (by lia)];exact⟨rfl,rfl⟩
  simp only[go_sem,ab,dw,cu,reduceCtorEq,PS.mem,al,qz,uq];exact uw q (by lia) rfl rfl
theorem a2y(e:G7)(t:Tr)(O:t.ps.length<=2^20){k q:Nat}(w:ku t e.n=(k:Int))(z:ku t e.t=(q:Int)){m:Mem}{u B0 b:Nat}{cs:List C}(p:Dw m B0 t cs)(l:m.di u=aa (.loc cs))(B:u<B0)(M:B0+96+64*t.ns.length+64<=b)(E:yg m b):
  sl P A.o9 m [.gz u (m.ba u) 0,.d (.agg (nk e))] m (.d (.int aj 7)):=by
 have s:=λ(x y:D) (hx:Wk x (ki t.ps)) (hy:Wk y (lr t.ns))=>H7 A.toPr (ps:=t.ps) (ns:=t.ns) e.n (by lia) hx hy;have o:=λ(x y:D) (hx:Wk x (ki t.ps)) (hy:Wk y (lr t.ns))=>H7 A.toPr (ps:=t.ps) (ns:=t.ns) e.t (by lia) hx hy;rw[show(⟨t.ps,t.ns⟩:Tr)=t from rfl,w]at s;rw[show(⟨t.ps,t.ns⟩:Tr)=t from rfl,z]at o
 have g:¬((k:Int)<0):=by lia
 have j:(q:Int)>=0:=by lia
 have r:u≠b+3:=by lia
 have key:∀a:PS,(∀i,i<b->a.di i=m.di i/\a.ba i=m.ba i)->∃x y,k9 a cs=aa [x,y]/\Wk x (ki t.ps)/\Wk y (lr t.ns):=λa h=>
  Dw.data (p.mono (bm _) λi K L=>h i (by lia))
 refine mz A.mo A.Gr (by simp) b (λc=>?_) (λi=>bm _) (λi b' G=> .inl G) (λi es f=> .inl f) trivial;show l7 P (sn A.jm) (yu m [.tmp 4] _ _) _;obtain⟨cP,cN,cells,rfl,F,N,hN⟩:=p
 rcases F with ⟨J,rfl⟩|⟨rfl,I⟩<;>rcases hN with ⟨v,rfl⟩|⟨v,rfl,H⟩<;>
 ·simp only[sn,enter,nk,go_sem,ab,ak,ao,reduceCtorEq,cy,l,r];refine De (key _ λi f=>?_) s rfl ?_
  ·simp only[ar];rw[aq (by lia),aq (by lia)];exact⟨rfl,rfl⟩
  simp only[go_sem,ab,ak,ao,reduceCtorEq,cy,l,r,g];refine De (key _ λi f=>?_) o rfl ?_
  ·simp only[ar];rw[aq (by lia),aq (by lia)];exact⟨rfl,rfl⟩
  simp only[go_sem,ab,reduceCtorEq,PS.mem,al,qz,uq,j];exact uw E (by lia) rfl rfl
theorem a65(e:G7)(t:Tr)(b0:t.ps.length<=2^20)(hl:t.ns.length<=2^20)(Vi:∀n∈t.ns,n.f.vs.length<=2^30){k:Nat}(hk:k<t.ps.length)(hI:ku t e.n=(k:Int))(hJ:ku t e.t= -1){m:Mem}{u B0 b:Nat}{cs:List C}(hT:Dw m B0 t cs)(L:m.di u=aa (.loc cs))(b1:u<B0)(hB:B0+96+64*t.ns.length+64<=b)(lv:yg m b):
  ∃m',sl P A.o9 m [.gz u (m.ba u) 0,.d (.agg (nk e))] m' (.d (.int aj 0))/\Dw m' B0 (K9 t e k) cs/\(∀i,i<B0->m'.di i=m.di i)/\m'.ba=m.ba/\m'.mp=m.mp/\yg m' b:=by
 have vq:=λ(x y:D) (hx:Wk x (ki t.ps)) (hy:Wk y (lr t.ns))=>H7 A.toPr (ps:=t.ps) (ns:=t.ns) e.n (by lia) hx hy;have Ua:=λ(x y:D) (hx:Wk x (ki t.ps)) (hy:Wk y (lr t.ns))=>H7 A.toPr (ps:=t.ps) (ns:=t.ns) e.t (by lia) hx hy;rw[show(⟨t.ps,t.ns⟩:Tr)=t from rfl,hI]at vq;rw[show(⟨t.ps,t.ns⟩:Tr)=t from rfl,hJ]at Ua
 have U:¬((k:Int)<0):=by lia
 have V:(k:Int)<t.ps.length:=by lia
 have O:u≠b+3:=by lia
 have key:∀s1:PS,(∀i,i<b->s1.di i=m.di i/\s1.ba i=m.ba i)->∃x y,k9 s1 cs=aa [x,y]/\Wk x (ki t.ps)/\Wk y (lr t.ns):=λs1 h=>
  Dw.data (hT.mono (bm _) λi K I=>h i (by lia))
 obtain⟨cP,cN,cells,rfl,oP,S,hN⟩:=hT
 have SK:t.ps.map mg≠[]:=λh=>by have:=congrArg Ae h;simp at this;rw[this]at hk;simp at hk
 obtain⟨rfl,D3⟩:=oP.ref SK
 have X:u≠B0+15:=by lia
 have W:B0+15≠b+3:=by lia
 have a7:=S.1;have hg:=aS hk
 have Me:(t.ps.map mg).set k [.str e.t,.int aj (t.ps.getD k p0).v]=(Zr t.ps k e.t).map mg:=by
  unfold Zr;rw[<-J3];rfl
 have a6:(Zr t.ps k e.t).length=t.ps.length:=by simp[Zr]
 obtain⟨E,w⟩:∃E,E=m.put (B0+15) (m.ba (B0+15)) (.arr 2 ((Zr t.ps k e.t).map mg)):=⟨_,rfl⟩
 have G:E.ba=m.ba:=by
  rw[w];funext i;simp only[Mem.put,ar];split
  ·rename_i h;rw[h]
  rfl
 have Z:E.mp=m.mp:=by rw[w];rfl
 have o:∀i,i≠B0+15->E.di i=m.di i:=λi a=>by rw[w];exact ie _ _ _ _ a
 have Y:E.di (B0+15)=aa (.arr 2 ((Zr t.ps k e.t).map mg)):=by rw[w];exact de _ _ _
 have a5:Of E (B0+32) t.ns cells:=⟨S.1,λi a=>(S.2 i a).mono (o _ (by lia)) (by rw[G]) (o _ (by lia)) (by rw[G])⟩;obtain⟨s,H⟩:∃f,f=R2 E (B0+32) 45 (vlR cells) (vlB e.n e.t t.ns) t.ns.length:=⟨_,rfl⟩
 have p:∀i,(∀q,q<t.ns.length->i≠B0+32+64+64*q+45)->s i=E.di i:=λi a=>by rw[H];exact Ha a
 have Q:∀i,b<=i->s i=none:=λi a=>by
  rw[p i λq J=>by lia,o i (by lia)];exact(lv i a).1
 have Fq:∀g:PS,g.mp=m.mp->(∀i,i<b->g.ba i=m.ba i)->(∀i,i<b->g.di i=s i)->Clean g.mem ⟨s,m.ba,m.mp⟩:=by
  intro g F pg l
  refine xd (b:=b) (λi a=>⟨(l i a).symm,(pg i a).symm,by show m.mp i=g.mp i;rw[F]⟩) (λi a=>⟨.inl (Q i a),(lv i a).2⟩)
 have r:K9 t e k=⟨Zr t.ps k e.t,t.ns.map (Ox e.n e.t)⟩:=rfl;refine⟨⟨s,m.ba,m.mp⟩,mz A.mo A.Gr (by simp) b (λc=>?_) (λi=>bm _) (λi b' z=>?_) (λi es a=> .inl a) trivial,⟨_,cN,cells,rfl,.inr ⟨by rw[r,al,al,a6],?_⟩,⟨by rw[r,al];exact S.1,λi a=>?_⟩,?_⟩,λi a=>?_,rfl,rfl,λi a=>⟨Q i a,(lv i a).2⟩⟩
 ·show l7 P (sn A.jm) (yu m [.tmp 4] _ _) _;rcases hN with ⟨M,rfl⟩|⟨M,rfl,B6⟩
  ·simp only[sn,enter,nk,go_sem,ab,ak,ao,reduceCtorEq,cy,L,O];refine De (key _ λi a=>?_) vq rfl ?_
   ·simp only[ar];rw[aq (by lia),aq (by lia)];exact⟨rfl,rfl⟩
   simp only[go_sem,ab,ak,ao,reduceCtorEq,cy,L,O,U];refine De (key _ λi a=>?_) Ua rfl ?_
   ·simp only[ar];rw[aq (by lia),aq (by lia)];exact⟨rfl,rfl⟩
   simp only[go_sem,ab,ft,cu,ak,ao,reduceCtorEq,cy,L,O,X,W,D3,V,hg,bn,aw,al,Me];refine gf 0 (λj g=>g.mp=m.mp/\(∀i,i<b->g.ba i=m.ba i)/\(∀i,i<b->g.di i=s i)/\g.tmp 39= .d (.int aj 0)/\g.tmp 40= .d (.int aj 0)) ?_ ?_
   ·refine⟨rfl,λi a=>?_,λi a=>?_,?_,?_⟩
    ·simp only[ar];rw[aq (by lia)]
    ·rw[p i λq J=>by rw[M]at J;exact absurd J (by simp)];simp only[ar,w,Mem.put];split
     ·rfl
     rw[aq (by lia)]
    ·simp only[ar,ab,bp,da]
    simp only[ar,ab,bp,da]
   rintro j g hj ⟨F,pg,l,a1,a3⟩;simp only[go_sem,ab,reduceCtorEq,a1,a3,qz,uq];exact Fq _ F pg l
  have a9:B0+51≠b+3:=by lia
  simp only[sn,enter,nk,go_sem,ab,ak,ao,reduceCtorEq,cy,L,O];refine De (key _ λi a=>?_) vq rfl ?_
  ·simp only[ar];rw[aq (by lia),aq (by lia)];exact⟨rfl,rfl⟩
  simp only[go_sem,ab,ak,ao,reduceCtorEq,cy,L,O,U];refine De (key _ λi a=>?_) Ua rfl ?_
  ·simp only[ar];rw[aq (by lia),aq (by lia)];exact⟨rfl,rfl⟩
  simp only[go_sem,ab,ft,cu,ak,ao,reduceCtorEq,cy,al,L,O,X,W,D3,B6,a9,a7,V,hg,bn,aw,al,Me];refine wv (λg=>nH E e b (B0+32) (B0+51) t.ns cells t.ns.length g) ?_ ?_
  ·refine gf t.ns.length (λj g=>nH E e b (B0+32) (B0+51) t.ns cells j g/\g.tmp 40= .d (.int aj j)) ?_ ?_
   ·have a2:(b+3=B0+15)=False:=by simp;lia
    refine⟨⟨rfl,?_,?_,?_,?_,Z.symm,λi a=>?_,?_,λi a gJ=>?_⟩,?_⟩
    ·simp only[ar,ab,bp,da]
    ·simp only[ar,a2,bp,da,nk,du,ic]
    ·simp only[ar,ab,bp,da,G]
    ·simp only[ar,ab,bp,da]
    ·simp only[ar,G];rw[aq (by lia)]
    ·simp only[ar];rw[aq (by lia),aq (by lia)];exact B6
    ·simp only[ar,R2,w,Mem.put];split
     ·rfl
     rw[aq (by lia)]
    simp only[ar,ab,bp,da];rfl
   rintro j g hj ⟨hR,a4⟩;exact XH a5 hl Vi (by lia) (by lia) _ j g hj hR a4 λs3 N=>N
  rintro g ⟨eb,f3,b3,fA,fB,F,pg,Be,l⟩;simp only[go_sem,qz,uq];refine Fq _ (by rw[<-Z];exact F) (λi a=>by rw[<-G];exact pg i a) λi a=>?_;by_cases h:i=B0+51
  ·subst h;show g.di _=_;rw[Be,p _ λq J=>by lia,o _ (by lia),B6]
  show g.di _=_;rw[l i a h,H]
 ·replace z:s i=aa b':=z;rw[H]at z;rcases jS (m:=E) (B:=B0+32) (off:=45) (isR:=vlR cells) (bo:=vlB e.n e.t t.ns) (i:=i) (j:=t.ns.length)with I|⟨q,I⟩
  ·rw[I]at z;by_cases h:i=B0+15
   ·subst h;rw[Y]at z
    injection z with z
    subst z;exact .inr trivial
   exact .inl (by rw[<-o i h];exact z)
  rw[I]at z
  injection z with z
  subst z;exact .inr trivial
 ·show s _=_;rw[p _ λq J=>by lia];exact Y
 ·rw[r,al]at a;rw[r];rw[rF (Ox e.n e.t) t.ns i n0 n0 a];obtain⟨R,a0,K,N,I⟩:=S.2 i a;refine⟨R,a0,K,?_,I.mono ?_ rfl⟩
  ·have a8:vlR cells i=isRef R:=by unfold vlR;rw[K];rfl
   have T:s (B0+32+64+64*i+45)=_:=(congrFun H _).trans (HH a);rw[a8]at T;rcases N with ⟨g1,rfl⟩|⟨rfl,g2⟩
   ·refine .inl ⟨?_,rfl⟩;have:(t.ns.getD i n0).f.vs=[]:=fw.1 g1;show afi B4 ((t.ns.getD i n0).f.vs.map _)=[];rw[this];rfl
   refine .inr ⟨?_,?_⟩
   ·show C.ref _ (m.ba _) _=C.ref _ (m.ba _) _;simp[Ox]
   show s _=_;rw[T];rfl
  show s _=_;rw[p _ λq J=>by lia];exact o _ (by lia)
 ·rcases hN with ⟨M,K⟩|⟨M,K,I⟩
  ·exact .inl ⟨by rw[r,M];rfl,K⟩
  refine .inr ⟨?_,?_,?_⟩
  ·intro h;have N:=congrArg Ae h;rw[r,al]at N;exact M (jf N)
  ·rw[r,al];exact K
  show s _=_;rw[p _ λq J=>by lia,o _ (by lia)];exact I
 show s i=_;rw[p _ λq J=>by lia];exact o _ (by lia)
end
def byC(a b:ByteArray):Int:=if strLt a b then-1 else if(!(strLt a b||i6 a b))then 1 else 0
theorem iY{a b:ByteArray}:byC a b<0<->strLt a b=true:=by
 unfold byC;split
 ·rename_i h;simp[h]
 rename_i h;constructor
 ·intro c;split at c<;>lia
 intro c;exact absurd c h
section
variable{α:Type}(key:α->ByteArray)
def tp:List α->α->List α
 |[],x=>[x]
 |y::r,x=>if strLt (key x) (key y)then y::tp r x else x::y::r
def ji(l:List α):List α:=l.foldl (λacc x=>(tp key acc.reverse x).reverse) []
theorem kS(l:List α)(x:α):(tp key l x).length=l.length+1:=by
 induction l with
 |nil=>rfl
 |cons y r a=>unfold tp;split<;>simp[a]
theorem fF(l:List α)(x:α):(tp key l x).Perm (x::l):=by
 induction l with
 |nil=>exact ae7 _
 |cons y r a=>
  unfold tp;split
  ·exact(a.cons y).trans (List.Perm.swap x y r)
  exact ae7 _
theorem Bv(l:List α)(x:α):ji key (l++[x])=(tp key (ji key l).reverse x).reverse:=by
 unfold ji;rw[qu];rfl
theorem Al(l:List α):(ji key l).length=l.length:=by
 have:∀r:List α,(ji key r.reverse).length=r.length:=by
  intro r
  induction r with
  |nil=>rfl
  |cons x r a=>rw[oq,Bv,fX,kS,fX,a];rfl
 have h:=this l.reverse
 rwa[ue,fX]at h
theorem Pt(l:List α):(ji key l).Perm l:=by
 have:∀r:List α,(ji key r.reverse).Perm r.reverse:=by
  intro r
  induction r with
  |nil=>exact ae7 _
  |cons x r a=>
   rw[oq,Bv];refine(List.reverse_perm _).trans ((fF key _ x).trans ?_)
   refine((List.reverse_perm _).trans a).cons x|>.trans ?_
   exact(a5j x r.reverse).symm
 have h:=this l.reverse
 rwa[ue]at h
end
def zG(sz:Nat):eh:=
 (.seq (
 .region [⟨aa 10,.kf (.t 1),ae,[]⟩,
  ⟨aa 11,.bin .add (.t 10) (.c (.int aj 1)),ae,[]⟩,
  ⟨aa 8,.kf (.t 11),ae,[]⟩] ag []) (
 (.block 0 (
  (.loop (
  (.seq (
   (.seq (
   .region [⟨aa 12,.kf (.t 8),ae,[]⟩,
    ⟨aa 13,.kf (.t 2),ae,[]⟩,
    ⟨aa 14,.bin .lss (.t 12) (.t 13),ae,[]⟩] ag []) (
   (.cond (.t 14) (
    .skip) (
    .exit 0))))) (
   (.seq (
   (.block 1 (
    (.seq (
    .region [⟨aa 17,.kf (.t 8),ae,[]⟩,
     ⟨aa 9,.kf (.t 17),ae,[]⟩] ag []) (
    (.block 2 (
     (.loop (
     (.seq (
      (.seq (
      .region [⟨aa 18,.kf (.t 9),ae,[]⟩,
       ⟨aa 19,.kf (.t 1),ae,[]⟩,
       ⟨aa 20,.bin .gtr (.t 18) (.t 19),ae,[]⟩,
       ⟨aa 21,.kf (.t 20),ae,[]⟩,
       ⟨aa 22,.kf (.t 3),aa (21,ah),[]⟩,
       ⟨aa 23,.kf (.t 0),aa (21,ah),[]⟩,
       ⟨aa 24,.kf (.t 9),aa (21,ah),[]⟩,
       ⟨aa 25,.xn sz (.t 23) (.t 24),aa (21,ah),[]⟩,
       ⟨aa 26,.load sz ah (.t 25),aa (21,ah),[]⟩,
       ⟨aa 27,.kf (.t 0),aa (21,ah),[]⟩,
       ⟨aa 28,.kf (.t 9),aa (21,ah),[]⟩,
       ⟨aa 29,.bin .sub (.t 28) (.c (.int aj 1)),aa (21,ah),[]⟩,
       ⟨aa 30,.xn sz (.t 27) (.t 29),aa (21,ah),[]⟩,
       ⟨aa 31,.load sz ah (.t 30),aa (21,ah),[]⟩,
       ⟨aa 32,.zq (.t 22) [(.t 26),(.t 31)],aa (21,ah),[]⟩,
       ⟨aa 33,.bin .lss (.t 32) (.c (.int aj 0)),aa (21,ah),[]⟩,
       ⟨aa 34,.pick (.t 21) (.t 33) (.c (.bool ag)),ae,[]⟩] ah []) (
      (.cond (.t 34) (
       .skip) (
       .exit 2))))) (
      (.seq (
      (.block 3 (
       .region [⟨aa 37,.kf (.t 0),ae,[]⟩,
        ⟨aa 38,.kf (.t 9),ae,[]⟩,
        ⟨aa 39,.kf (.t 0),ae,[]⟩,
        ⟨aa 40,.kf (.t 9),ae,[]⟩,
        ⟨aa 41,.bin .sub (.t 40) (.c (.int aj 1)),ae,[]⟩,
        ⟨aa 42,.kf (.t 0),ae,[]⟩,
        ⟨aa 43,.kf (.t 9),ae,[]⟩,
        ⟨aa 44,.bin .sub (.t 43) (.c (.int aj 1)),ae,[]⟩,
        ⟨aa 45,.xn sz (.t 42) (.t 44),ae,[]⟩,
        ⟨aa 46,.load sz ah (.t 45),ae,[]⟩,
        ⟨aa 47,.kf (.t 0),ae,[]⟩,
        ⟨aa 48,.kf (.t 9),ae,[]⟩,
        ⟨aa 49,.xn sz (.t 47) (.t 48),ae,[]⟩,
        ⟨aa 50,.load sz ah (.t 49),ae,[]⟩,
        ⟨aa 51,.xn sz (.t 37) (.t 38),ae,[]⟩,
        ⟨ae,.store sz (.t 51) (.t 46),ae,[]⟩,
        ⟨aa 52,.xn sz (.t 39) (.t 41),ae,[]⟩,
        ⟨ae,.store sz (.t 52) (.t 50),ae,[]⟩] ah []))) (
      .region [⟨aa 35,.kf (.t 9),ae,[]⟩,
       ⟨aa 36,.bin .sub (.t 35) (.c (.int aj 1)),ae,[]⟩,
       ⟨aa 9,.kf (.t 36),ae,[]⟩] ag []))))))))))))) (
   .region [⟨aa 15,.kf (.t 8),ae,[]⟩,
    ⟨aa 16,.bin .add (.t 15) (.c (.int aj 1)),ae,[]⟩,
    ⟨aa 8,.kf (.t 16),ae,[]⟩] ag []))))))))))
def a1h(i:Nat)(M:PS->Prop)(Q:Exit->PS->Prop):Exit->PS->Prop
 | .exit j,s=>if j=i then M s else Q (.exit j) s
 |e,s=>Q e s
theorem mB{i j:Nat}{M:PS->Prop}{Q:Exit->PS->Prop}{s:PS}:a1h i M Q (.exit j) s=if j=i then M s else Q (.exit j) s:=rfl
theorem bZ{P:Program}{c:eh}{i:Nat}{Q:Exit->PS->Prop}{s:PS}(M:PS->Prop)(a:l7 P c (a1h i M Q) s)(b:∀s',M s'->Q (.exit i) s'):l7 P c Q s:=
 H8 (λe s' h=>by
  cases e with
  |exit j=>
   rw[mB]at h;split at h
   ·rename_i d;subst d;exact b s' h
   exact h
  |_=>exact h) a
attribute [go_sem] mB
def BP{α:Type}(m:Mem)(b id q sz g:Nat)(ce:α->List D)(n:Nat)(a b':Nat)(W:List α)(s':PS):Prop:=
 s'.base=b/\s'.tmp 0= .ref id (m.ba id) n/\s'.tmp 1= .d (.int aj a)/\s'.tmp 2= .d (.int aj b')/\s'.tmp 3= .qb g [(q,m.ba q)]/\s'.ba=m.ba/\s'.mp=m.mp/\s'.di=lu m.di id (aa (.arr sz (W.map ce)))
theorem eQ{P:Program}{K:PS->Prop}{s:PS}{r:List RI}{d:Option Nat}{g:Nat}{j9:List D}{own:Bool}{a b x:D}(c:iv P g (a::b::j9) x)(hx:x.flat=ah)(e:mc P r (s.put d (.d x)) K):Gt P g [.d a,.d b] j9 own d s (Bo P r K):=⟨[a,b],x,rfl,c.toC,.inl hx,e⟩
theorem wW{α:Type}(F R:List α)(x y:α):((F++y::x::R).set (F.length+1) y).set F.length x=F++x::y::R:=by
 rw[nO _ _ (by lia)];simp only[ac2,List.set_cons_succ,List.set_cons_zero];rw[nO _ _ (by lia),Wu];rfl
theorem at0{α β:Type}(f:α->β)(F R:List α)(x y:α):((F++y::x::R).map f)[F.length]? =aa (f y):=by
 rw[dn,l9 (bm _),Wu];rfl
theorem at1{α β:Type}(f:α->β)(F R:List α)(x y:α):((F++y::x::R).map f)[F.length+1]? =aa (f x):=by
 rw[dn,l9 (by lia),ac2];rfl
section
variable{P:Program}
theorem ZI(hm:P.follows .mixedOrders=ah){f:Nat}{sz:Nat}(hf:fu P f {}=aa (zG sz,[],53)){α:Type}{ce:α->List D}{key:α->ByteArray}(K:∀x,(ce x).length=sz)(yr:∀x,(ce x).all D.one=ah){g q qv:Nat}{X:D}
  (zS:∀x y,iv P g [.agg (ce x),.agg (ce y),.ym [X] 0] (.int aj (byC (key x) (key y)))){m:Mem}{id ba:Nat}{W:List α}{a b':Nat}(b3:a<=b')(sv:b'<=W.length)(hl:W.length<=2^30)(hb:m.di id=aa (.arr sz (W.map ce)))(hv:m.ba id=ba)
  (hq:m.di q=aa (.loc [.d X]))(a6:m.ba q=qv)(l8:id≠q)(b:Nat):
  sl P f m [.ref id ba W.length,.d (.int aj a),.d (.int aj b'),.qb g [(q,qv)]] (m.put id ba (.arr sz ((W.take a++ji key ((W.drop a).take (b'-a))++W.drop b').map ce))) (.Bb []):=by
 subst hv a6;refine mz hm hf (by simp) b (λc=>?_) (Mem.Mq (bm _)) Mem.Rr (λi es hi=> .inl hi) (by simp[Im]);show l7 P (zG sz) (yu m [] _ _) _;have wa:=dr ((a:Int)+1) (by lia) (by lia);simp only[zG,enter,go_sem,ab,reduceCtorEq,wa];have a8:(W.map ce).length=W.length:=al _;have zR:∀x,(ce x).drop sz=[]:=λx=>Oo (by rw[K];exact bm _)
 have a9:∀x y,(ce x).drop (ce y).length=[]:=λx y=>by rw[K];exact zR x
 have kY:∀x,(ce x).take sz=ce x:=λx=>D0 (by rw[K];exact bm _)
 have Q:∀(s:PS) x,((ce x).map C.d).all (C.one s)=true:=λs x=>by
  have:=yr x;rw[dg]at this|-;intro c hc;obtain⟨d,hd,rfl⟩:=j6.1 hc;exact this d hd
 have Fq:∀(s':PS) W',BP m b id q sz g ce W.length a b' W' s'->W'=W.take a++ji key ((W.drop a).take (b'-a))++W.drop b'->Clean s'.mem (m.put id (m.ba id) (.arr sz ((W.take a++ji key ((W.drop a).take (b'-a))++W.drop b').map ce))):=by
  rintro s' W' ⟨v,o,p,n,u,ev,j,e⟩ rfl i;simp only[Mem.put,PS.mem,ev,j,e,ar];by_cases hi:i=id
  ·subst hi;simp
  simp[hi]
 by_cases a0:b'=a
 ·subst a0;refine gf 0 (λk s'=>BP m b id q sz g ce W.length b' b' W s'/\s'.tmp 8= .d (.int aj ((b':Int)+1))) ?_ ?_
  ·refine⟨⟨rfl,rfl,rfl,rfl,rfl,rfl,rfl,?_⟩,rfl⟩
   funext i
   simp only[ar];split
   ·rename_i h;rw[h];exact hb
   rfl
  rintro k s' hk ⟨hS,w⟩;have a1:=hS;obtain⟨v,o,p,n,u,ev,j,e⟩:=a1
  have a4:¬((b':Int)+1<b'):=by lia
  simp only[go_sem,ab,reduceCtorEq,n,w,a4,qz,K8];refine Fq _ W ⟨v,o,p,n,u,ev,j,e⟩ ?_;simp[ji]
 refine gf (b'-(a+1)) (λk s'=>BP m b id q sz g ce W.length a b' (W.take a++ji key ((W.drop a).take (k+1))++W.drop (a+1+k)) s'/\s'.tmp 8= .d (.int aj ((a+1+k:Nat):Int))) ?_ ?_
 ·refine⟨⟨rfl,rfl,rfl,rfl,rfl,rfl,rfl,?_⟩,?_⟩
  ·funext i
   have:W.take a++ji key ((W.drop a).take 1)++W.drop (a+1)=W:=by
    have e1:(W.drop a).take 1=[W[a]'(by lia)]:=by rw[jx (by lia)];rfl
    rw[e1];show W.take a++[_]++_=_;rw[uy];show W.take a++(W[a]'(by lia)::W.drop (a+1))=W;rw[<-jx (by lia),Ej]
   simp only[ar,gj,Ad,this];split
   ·rename_i h;rw[h];exact hb
   rfl
  simp only[ar,da];rfl
 rintro k s' hk ⟨⟨v,o,p,n,u,ev,j,e⟩,w⟩;by_cases ju:((a+1+k:Nat):Int)<b'
 ·have ep:a+1+k<b':=by lia
  have wk:=dr (((a+1+k:Nat):Int)+1) (by lia) (by lia);simp only[go_sem,ab,reduceCtorEq,n,w,ju];obtain⟨x,hx⟩:∃x,x=W[a+1+k]'(by lia):=⟨_,rfl⟩
  have hd:W.drop (a+1+k)=x::W.drop (a+1+k+1):=by rw[hx];exact jx (by lia)
  have a7:(W.drop a).take (k+1+1)=(W.drop a).take (k+1)++[x]:=by
   rw[j3];simp only[pv];rw[show a+(k+1)=a+1+k by lia,bh (by lia),<-hx];rfl
  have Y:(ji key ((W.drop a).take (k+1))).length=k+1:=by
   rw[Al];simp only[ey,A0];lia
  have IF:=Bv key ((W.drop a).take (k+1)) x;rw[<-a7]at IF
  generalize b1:ji key ((W.drop a).take (k+1))=I at*
  generalize N:W.drop (a+1+k+1)=l at*
  rw[hd]at e
  have a5:(W.take a).length=a:=by simp only[ey];lia
  have b0:W.length=a+(k+1)+1+l.length:=by rw[<-N];simp only[A0];lia
  generalize W.take a=z at*
  refine bZ (i:=2) (λt=>BP m b id q sz g ce W.length a b' (z++(tp key I.reverse x).reverse++l) t/\t.tmp 8= .d (.int aj ((a+1+k:Nat):Int))) ?_ ?_
  ·refine gf (k+1) (λr t=>∃A B,A.length+r=k+1/\BP m b id q sz g ce W.length a b' (z++A++x::B++l) t/\t.tmp 8= .d (.int aj ((a+1+k:Nat):Int))/\t.tmp 9= .d (.int aj ((a+A.length:Nat):Int))/\(tp key A.reverse x).reverse++B=(tp key I.reverse x).reverse) ?_ ?_
   ·refine⟨I,[],by lia,⟨v,o,p,n,u,ev,j,?_⟩,?_,?_,by simp⟩
    ·show s'.di=_;rw[e];simp only[uy,qc,ub]
    ·simp only[ar,ab,bp,w]
    simp only[ar,da];rw[Y,show a+1+k=a+(k+1)by lia]
   clear v o p n u ev j e w;rintro r t hr ⟨A,B,H,⟨v,o,p,n,u,ev,j,e⟩,w,f9,L⟩;rcases List.eq_nil_or_concat A with rfl|⟨E,y,rfl⟩
   ·have T:¬(((a+([]:List α).length:Nat):Int)>a):=by simp
    simp only[go_sem,ab,reduceCtorEq,p,w,f9];refine⟨v,o,p,n,u,ev,j,?_⟩;show t.di=_;rw[e,<-L];simp[tp]
   obtain⟨F,Z⟩:∃F,F=z++E:=⟨_,rfl⟩;obtain⟨R,hR⟩:∃R,R=B++l:=⟨_,rfl⟩
   have G:(E++[y]).length=E.length+1:=by simp
   have O:F.length=a+E.length:=by rw[Z,dz,a5]
   have a2:z++E.concat y++x::B++l=F++y::x::R:=by rw[Z,hR];simp
   rw[ad3]at H L;rw[a2]at e
   have h9:t.tmp 9= .d (.int aj ((F.length+1:Nat):Int)):=by
    rw[f9,O,ad3,G,tc]
   have T:((F.length+1:Nat):Int)>a:=by lia
   have b2:F.length+1+1+R.length=W.length:=by
    rw[G]at H
    have:R.length=B.length+l.length:=by rw[hR,dz]
    have h6:=congrArg Ae L;simp only[dz,fX,kS,Y,cq,ew]at h6;lia
   have wj:=dr (((F.length+1:Nat):Int)-1) (by lia) (by lia)
   have J:((F.length+1:Nat):Int)-1=(F.length:Int):=by lia
   rw[J]at wj;have g0:=at0 ce F R x y;have g1:=at1 ce F R x y
   have U:((F.length+1:Nat):Int)<(W.length:Int):=by lia
   have V:(F.length:Int)<(W.length:Int):=by lia
   have S:t.di id=aa (.arr sz ((F++y::x::R).map ce)):=by rw[e,de]
   have a3:t.di q=aa (.loc [.d X]):=by rw[e,ie _ _ _ _ l8.symm];exact hq
   have ZV:((F++y::x::R).map ce).length=W.length:=by simp only[al,dz,cq];lia
   have hc:=zS x y
   generalize hM:(F++y::x::R).map ce=M at*
   simp only[go_sem,ab,reduceCtorEq,o,p,u,h9,T,ev,S,a3,ZV,wj,J,U,V,g0,g1,K,kY,bn,aw,mkd,k9,ow];refine eQ hc rfl ?_
   have b4:F.length+1<W.length:=by lia
   have g2:(M.set (F.length+1) (ce y))[F.length]? =aa (ce y):=by rw[u7,aq (by lia)];exact g0
   have Me:(M.set (F.length+1) (ce y)).set F.length (ce x)=(F++x::y::R).map ce:=by
    rw[<-hM,J3,J3,wW]
   cases uN:strLt (key x) (key y)
   ·have EH:¬(byC (key x) (key y)<0):=by rw[iY,uN];simp
    simp only[go_sem,ab,reduceCtorEq,w,EH];refine⟨v,o,p,n,u,?_,j,?_⟩
    ·rfl
    show t.di=_;rw[e,hM.symm]
    congr 3
    rw[<-L,W6];simp only[oq,rZ,ub,qc,tp,uN,gp,bp,Z,hR];simp
   have EH:byC (key x) (key y)<0:=by rw[iY,uN]
   simp only[go_sem,ab,reduceCtorEq,o,w,h9,EH,S,ZV,wj,J,U,V,g0,g1,K,kY,bn,aw,mkd,bD,Q,zR,J8,g2,Me];rw[G]at H;refine⟨by lia,E,y::B,by lia,⟨v,o,p,n,u,rfl,j,?_⟩,by rw[O],?_⟩
   ·show lu _ _ _=lu _ _ _;rw[e]
    have e5:F++x::y::R=z++E++x::(y::B)++l:=by rw[Z,hR];simp
    rw[e5]
    funext i
    simp only[ar];split<;>rfl
   rw[<-L,W6];simp only[oq,rZ,ub,qc,tp,uN,da];simp
  rintro t ⟨⟨v,o,p,n,u,ev,j,e⟩,w⟩;simp only[go_sem,ab,reduceCtorEq,w,wk];refine⟨by lia,⟨v,o,p,n,u,ev,j,?_⟩,?_⟩
  ·show t.di=_;rw[e,IF,show a+1+(k+1)=a+1+k+1 by lia,N]
  rfl
 have:a+1+k=b':=by lia
 simp only[go_sem,ab,reduceCtorEq,n,w,ju,qz,K8];refine Fq _ _ ⟨v,o,p,n,u,ev,j,e⟩ ?_;rw[this,show k+1=b'-a by lia]
end
theorem eI{a b c:ByteArray}(h:strLt b a=ag)(k:strLt c b=ag):strLt c a=false:=by
 rw[Sb,decide_eq_false_iff_not,af7]at*
 exact List.le_trans h k
theorem OT{a b c:ByteArray}(h:strLt a b=ah)(k:strLt c b=ag):strLt a c=true:=by
 cases q:strLt a c
 ·have:=eI k q;rw[h]at this;cases this
 rfl
section
variable{α:Type}(key:α->ByteArray)
def eC(l:List α):Prop:=l.Pairwise λx y=>strLt (key y) (key x)=ag
theorem oE{l:List α}{x:α}(h:l.Pairwise λx y=>strLt (key x) (key y)=ag):(tp key l x).Pairwise λx y=>strLt (key x) (key y)=false:=by
 induction l with
 |nil=>simp[tp]
 |cons y r c=>
  rw[yh]at h;unfold tp;split
  ·rename_i a;rw[yh];refine⟨λz hz=>?_,c h.2⟩;rcases fa.1 ((fF key r x).mem_iff.1 hz)with rfl|hz
   ·exact Jq a
   exact h.1 z hz
  rename_i a
  have b:strLt (key x) (key y)=false:=by simpa using a
  rw[yh];refine⟨λz hz=>?_,yh.2 h⟩;rcases fa.1 hz with rfl|hz
  ·exact b
  exact eI (h.1 z hz) b
theorem Tp(l:List α):eC key (ji key l):=by
 have:∀r:List α,eC key (ji key r.reverse):=by
  intro r
  induction r with
  |nil=>exact List.Pairwise.nil
  |cons x r a=>
   rw[oq,Bv];unfold eC;rw[ad1];refine oE key ?_;rw[ad1];exact a
 have h:=this l.reverse
 rwa[ue]at h
theorem fD{B:List α}{x:α}(h:∀y∈B,strLt (key x) (key y)=ah)(A:List α):tp key (B++A) x=B++tp key A x:=by
 induction B with
 |nil=>rfl
 |cons y r a=>
  show tp key (y::(r++A)) x=y::(r++tp key A x);rw[tp,bc (h y (by simp)),a λz hz=>h z (by simp[hz])]
theorem fG{A:List α}{x:α}(h:∀y∈A,strLt (key x) (key y)=ag):tp key A x=x::A:=by
 cases A with
 |nil=>rfl
 |cons y r=>rw[tp,aq (by rw[h y (by simp)];simp)]
theorem CF{S:List α}{x:α}{i:Nat}(a:∀y∈S.take i,strLt (key x) (key y)=ag)(b:∀y∈S.drop i,strLt (key x) (key y)=ah):(tp key S.reverse x).reverse=S.take i++x::S.drop i:=by
 have e:S.reverse=(S.drop i).reverse++(S.take i).reverse:=by rw[<-W6,Ej]
 rw[e,fD key (λy hy=>b y (by simpa using hy)),fG key (λy hy=>a y (by simpa using hy))];simp
end
def WE(sz a b:Nat):eh:=
 (.seq (
 (.seq (
  .region [⟨aa 25,.kf (.t 2),ae,[]⟩,
   ⟨aa 26,.kf (.t 1),ae,[]⟩,
   ⟨aa 27,.bin .sub (.t 25) (.t 26),ae,[]⟩,
   ⟨aa 28,.bin .eql (.t 27) (.c (.int aj 1)),ae,[]⟩] ag []) (
  (.cond (.t 28) (
  (.seq (
   .region [⟨aa 29,.kf (.t 2),ae,[]⟩,
    ⟨aa 10,.kf (.t 29),ae,[]⟩] ag []) (
   (.seq (
   .region [⟨aa 30,.kf (.t 3),ae,[]⟩,
    ⟨aa 11,.kf (.t 30),ae,[]⟩] ag []) (
   (.seq (
    (.block 0 (
    (.loop (
     (.seq (
     (.seq (
      .region [⟨aa 31,.kf (.t 10),ae,[]⟩,
       ⟨aa 32,.kf (.t 11),ae,[]⟩,
       ⟨aa 33,.bin .lss (.t 31) (.t 32),ae,[]⟩] ag []) (
      (.cond (.t 33) (
      .skip) (
      .exit 0))))) (
     (.block 1 (
      (.seq (
      .region [⟨aa 34,.kf (.t 10),ae,[]⟩,
       ⟨aa 35,.kf (.t 11),ae,[]⟩,
       ⟨aa 36,.bin .add (.t 34) (.t 35),ae,[]⟩,
       ⟨aa 37,.conv .u64 (.t 36),ae,[]⟩,
       ⟨aa 38,.bin .shr (.t 37) (.c (.int .u64 1)),ae,[]⟩,
       ⟨aa 39,.conv aj (.t 38),ae,[]⟩,
       ⟨aa 12,.kf (.t 39),ae,[]⟩] ag []) (
      (.seq (
       .region [⟨aa 40,.kf (.t 4),ae,[]⟩,
        ⟨aa 41,.kf (.t 0),ae,[]⟩,
        ⟨aa 42,.kf (.t 12),ae,[]⟩,
        ⟨aa 43,.xn sz (.t 41) (.t 42),ae,[]⟩,
        ⟨aa 44,.load sz ah (.t 43),ae,[]⟩,
        ⟨aa 45,.kf (.t 0),ae,[]⟩,
        ⟨aa 46,.kf (.t 1),ae,[]⟩,
        ⟨aa 47,.xn sz (.t 45) (.t 46),ae,[]⟩,
        ⟨aa 48,.load sz ah (.t 47),ae,[]⟩,
        ⟨aa 49,.zq (.t 40) [(.t 44),(.t 48)],ae,[]⟩,
        ⟨aa 50,.bin .lss (.t 49) (.c (.int aj 0)),ae,[]⟩] ah []) (
       (.cond (.t 50) (
       .region [⟨aa 51,.kf (.t 12),ae,[]⟩,
        ⟨aa 52,.bin .add (.t 51) (.c (.int aj 1)),ae,[]⟩,
        ⟨aa 10,.kf (.t 52),ae,[]⟩] ag []) (
       .region [⟨aa 53,.kf (.t 12),ae,[]⟩,
        ⟨aa 11,.kf (.t 53),ae,[]⟩] ag []))))))))))))))) (
    (.seq (
    (.seq (
     .region [⟨aa 54,.kf (.t 1),ae,[]⟩,
      ⟨aa 13,.kf (.t 54),ae,[]⟩] ag []) (
     (.block 2 (
     (.loop (
      (.seq (
      (.seq (
       .region [⟨aa 55,.kf (.t 13),ae,[]⟩,
        ⟨aa 56,.kf (.t 10),ae,[]⟩,
        ⟨aa 57,.bin .sub (.t 56) (.c (.int aj 1)),ae,[]⟩,
        ⟨aa 58,.bin .lss (.t 55) (.t 57),ae,[]⟩] ag []) (
       (.cond (.t 58) (
       .skip) (
       .exit 2))))) (
      (.seq (
       (.block 3 (
       .region [⟨aa 61,.kf (.t 0),ae,[]⟩,
        ⟨aa 62,.kf (.t 13),ae,[]⟩,
        ⟨aa 63,.kf (.t 0),ae,[]⟩,
        ⟨aa 64,.kf (.t 13),ae,[]⟩,
        ⟨aa 65,.bin .add (.t 64) (.c (.int aj 1)),ae,[]⟩,
        ⟨aa 66,.kf (.t 0),ae,[]⟩,
        ⟨aa 67,.kf (.t 13),ae,[]⟩,
        ⟨aa 68,.bin .add (.t 67) (.c (.int aj 1)),ae,[]⟩,
        ⟨aa 69,.xn sz (.t 66) (.t 68),ae,[]⟩,
        ⟨aa 70,.load sz ah (.t 69),ae,[]⟩,
        ⟨aa 71,.kf (.t 0),ae,[]⟩,
        ⟨aa 72,.kf (.t 13),ae,[]⟩,
        ⟨aa 73,.xn sz (.t 71) (.t 72),ae,[]⟩,
        ⟨aa 74,.load sz ah (.t 73),ae,[]⟩,
        ⟨aa 75,.xn sz (.t 61) (.t 62),ae,[]⟩,
        ⟨ae,.store sz (.t 75) (.t 70),ae,[]⟩,
        ⟨aa 76,.xn sz (.t 63) (.t 65),ae,[]⟩,
        ⟨ae,.store sz (.t 76) (.t 74),ae,[]⟩] ah []))) (
       .region [⟨aa 59,.kf (.t 13),ae,[]⟩,
        ⟨aa 60,.bin .add (.t 59) (.c (.int aj 1)),ae,[]⟩,
        ⟨aa 13,.kf (.t 60),ae,[]⟩] ag []))))))))))) (
    .ret))))))))) (
  .skip))))) (
 (.seq (
  (.seq (
  .region [⟨aa 77,.kf (.t 3),ae,[]⟩,
   ⟨aa 78,.kf (.t 2),ae,[]⟩,
   ⟨aa 79,.bin .sub (.t 77) (.t 78),ae,[]⟩,
   ⟨aa 80,.bin .eql (.t 79) (.c (.int aj 1)),ae,[]⟩] ag []) (
  (.cond (.t 80) (
   (.seq (
   .region [⟨aa 81,.kf (.t 1),ae,[]⟩,
    ⟨aa 14,.kf (.t 81),ae,[]⟩] ag []) (
   (.seq (
    .region [⟨aa 82,.kf (.t 2),ae,[]⟩,
     ⟨aa 15,.kf (.t 82),ae,[]⟩] ag []) (
    (.seq (
    (.block 4 (
     (.loop (
     (.seq (
      (.seq (
      .region [⟨aa 83,.kf (.t 14),ae,[]⟩,
       ⟨aa 84,.kf (.t 15),ae,[]⟩,
       ⟨aa 85,.bin .lss (.t 83) (.t 84),ae,[]⟩] ag []) (
      (.cond (.t 85) (
       .skip) (
       .exit 4))))) (
      (.block 5 (
      (.seq (
       .region [⟨aa 86,.kf (.t 14),ae,[]⟩,
        ⟨aa 87,.kf (.t 15),ae,[]⟩,
        ⟨aa 88,.bin .add (.t 86) (.t 87),ae,[]⟩,
        ⟨aa 89,.conv .u64 (.t 88),ae,[]⟩,
        ⟨aa 90,.bin .shr (.t 89) (.c (.int .u64 1)),ae,[]⟩,
        ⟨aa 91,.conv aj (.t 90),ae,[]⟩,
        ⟨aa 16,.kf (.t 91),ae,[]⟩] ag []) (
       (.seq (
       .region [⟨aa 92,.kf (.t 4),ae,[]⟩,
        ⟨aa 93,.kf (.t 0),ae,[]⟩,
        ⟨aa 94,.kf (.t 2),ae,[]⟩,
        ⟨aa 95,.xn sz (.t 93) (.t 94),ae,[]⟩,
        ⟨aa 96,.load sz ah (.t 95),ae,[]⟩,
        ⟨aa 97,.kf (.t 0),ae,[]⟩,
        ⟨aa 98,.kf (.t 16),ae,[]⟩,
        ⟨aa 99,.xn sz (.t 97) (.t 98),ae,[]⟩,
        ⟨aa 100,.load sz ah (.t 99),ae,[]⟩,
        ⟨aa 101,.zq (.t 92) [(.t 96),(.t 100)],ae,[]⟩,
        ⟨aa 102,.bin .lss (.t 101) (.c (.int aj 0)),ae,[]⟩,
        ⟨aa 103,.un .not (.t 102),ae,[]⟩] ah []) (
       (.cond (.t 103) (
        .region [⟨aa 104,.kf (.t 16),ae,[]⟩,
         ⟨aa 105,.bin .add (.t 104) (.c (.int aj 1)),ae,[]⟩,
         ⟨aa 14,.kf (.t 105),ae,[]⟩] ag []) (
        .region [⟨aa 106,.kf (.t 16),ae,[]⟩,
         ⟨aa 15,.kf (.t 106),ae,[]⟩] ag []))))))))))))))) (
    (.seq (
     (.seq (
     .region [⟨aa 107,.kf (.t 2),ae,[]⟩,
      ⟨aa 17,.kf (.t 107),ae,[]⟩] ag []) (
     (.block 6 (
      (.loop (
      (.seq (
       (.seq (
       .region [⟨aa 108,.kf (.t 17),ae,[]⟩,
        ⟨aa 109,.kf (.t 14),ae,[]⟩,
        ⟨aa 110,.bin .gtr (.t 108) (.t 109),ae,[]⟩] ag []) (
       (.cond (.t 110) (
        .skip) (
        .exit 6))))) (
       (.seq (
       (.block 7 (
        .region [⟨aa 113,.kf (.t 0),ae,[]⟩,
         ⟨aa 114,.kf (.t 17),ae,[]⟩,
         ⟨aa 115,.kf (.t 0),ae,[]⟩,
         ⟨aa 116,.kf (.t 17),ae,[]⟩,
         ⟨aa 117,.bin .sub (.t 116) (.c (.int aj 1)),ae,[]⟩,
         ⟨aa 118,.kf (.t 0),ae,[]⟩,
         ⟨aa 119,.kf (.t 17),ae,[]⟩,
         ⟨aa 120,.bin .sub (.t 119) (.c (.int aj 1)),ae,[]⟩,
         ⟨aa 121,.xn sz (.t 118) (.t 120),ae,[]⟩,
         ⟨aa 122,.load sz ah (.t 121),ae,[]⟩,
         ⟨aa 123,.kf (.t 0),ae,[]⟩,
         ⟨aa 124,.kf (.t 17),ae,[]⟩,
         ⟨aa 125,.xn sz (.t 123) (.t 124),ae,[]⟩,
         ⟨aa 126,.load sz ah (.t 125),ae,[]⟩,
         ⟨aa 127,.xn sz (.t 113) (.t 114),ae,[]⟩,
         ⟨ae,.store sz (.t 127) (.t 122),ae,[]⟩,
         ⟨aa 128,.xn sz (.t 115) (.t 117),ae,[]⟩,
         ⟨ae,.store sz (.t 128) (.t 126),ae,[]⟩] ah []))) (
       .region [⟨aa 111,.kf (.t 17),ae,[]⟩,
        ⟨aa 112,.bin .sub (.t 111) (.c (.int aj 1)),ae,[]⟩,
        ⟨aa 17,.kf (.t 112),ae,[]⟩] ag []))))))))))) (
     .ret))))))))) (
   .skip))))) (
  (.seq (
  .region [⟨aa 129,.kf (.t 1),ae,[]⟩,
   ⟨aa 130,.kf (.t 3),ae,[]⟩,
   ⟨aa 131,.bin .add (.t 129) (.t 130),ae,[]⟩,
   ⟨aa 132,.conv .u64 (.t 131),ae,[]⟩,
   ⟨aa 133,.bin .shr (.t 132) (.c (.int .u64 1)),ae,[]⟩,
   ⟨aa 134,.conv aj (.t 133),ae,[]⟩,
   ⟨aa 18,.kf (.t 134),ae,[]⟩] ag []) (
  (.seq (
   .region [⟨aa 135,.kf (.t 18),ae,[]⟩,
    ⟨aa 136,.kf (.t 2),ae,[]⟩,
    ⟨aa 137,.bin .add (.t 135) (.t 136),ae,[]⟩,
    ⟨aa 19,.kf (.t 137),ae,[]⟩] ag []) (
   (.seq (
   .region [⟨aa 20,.kf (.c (.int aj 0)),ae,[]⟩,
    ⟨aa 21,.kf (.c (.int aj 0)),ae,[]⟩] ag []) (
   (.seq (
    (.seq (
    .region [⟨aa 138,.kf (.t 2),ae,[]⟩,
     ⟨aa 139,.kf (.t 18),ae,[]⟩,
     ⟨aa 140,.bin .gtr (.t 138) (.t 139),ae,[]⟩] ag []) (
    (.cond (.t 140) (
     (.seq (
     .region [⟨aa 141,.kf (.t 19),ae,[]⟩,
      ⟨aa 142,.kf (.t 3),ae,[]⟩,
      ⟨aa 143,.bin .sub (.t 141) (.t 142),ae,[]⟩,
      ⟨aa 20,.kf (.t 143),ae,[]⟩] ag []) (
     .region [⟨aa 144,.kf (.t 18),ae,[]⟩,
      ⟨aa 21,.kf (.t 144),ae,[]⟩] ag []))) (
     (.seq (
     .region [⟨aa 145,.kf (.t 1),ae,[]⟩,
      ⟨aa 20,.kf (.t 145),ae,[]⟩] ag []) (
     .region [⟨aa 146,.kf (.t 2),ae,[]⟩,
      ⟨aa 21,.kf (.t 146),ae,[]⟩] ag []))))))) (
    (.seq (
    .region [⟨aa 147,.kf (.t 19),ae,[]⟩,
     ⟨aa 148,.bin .sub (.t 147) (.c (.int aj 1)),ae,[]⟩,
     ⟨aa 22,.kf (.t 148),ae,[]⟩] ag []) (
    (.seq (
     (.block 8 (
     (.loop (
      (.seq (
      (.seq (
       .region [⟨aa 149,.kf (.t 20),ae,[]⟩,
        ⟨aa 150,.kf (.t 21),ae,[]⟩,
        ⟨aa 151,.bin .lss (.t 149) (.t 150),ae,[]⟩] ag []) (
       (.cond (.t 151) (
       .skip) (
       .exit 8))))) (
      (.block 9 (
       (.seq (
       .region [⟨aa 152,.kf (.t 20),ae,[]⟩,
        ⟨aa 153,.kf (.t 21),ae,[]⟩,
        ⟨aa 154,.bin .add (.t 152) (.t 153),ae,[]⟩,
        ⟨aa 155,.conv .u64 (.t 154),ae,[]⟩,
        ⟨aa 156,.bin .shr (.t 155) (.c (.int .u64 1)),ae,[]⟩,
        ⟨aa 157,.conv aj (.t 156),ae,[]⟩,
        ⟨aa 23,.kf (.t 157),ae,[]⟩] ag []) (
       (.seq (
        .region [⟨aa 158,.kf (.t 4),ae,[]⟩,
         ⟨aa 159,.kf (.t 0),ae,[]⟩,
         ⟨aa 160,.kf (.t 22),ae,[]⟩,
         ⟨aa 161,.kf (.t 23),ae,[]⟩,
         ⟨aa 162,.bin .sub (.t 160) (.t 161),ae,[]⟩,
         ⟨aa 163,.xn sz (.t 159) (.t 162),ae,[]⟩,
         ⟨aa 164,.load sz ah (.t 163),ae,[]⟩,
         ⟨aa 165,.kf (.t 0),ae,[]⟩,
         ⟨aa 166,.kf (.t 23),ae,[]⟩,
         ⟨aa 167,.xn sz (.t 165) (.t 166),ae,[]⟩,
         ⟨aa 168,.load sz ah (.t 167),ae,[]⟩,
         ⟨aa 169,.zq (.t 158) [(.t 164),(.t 168)],ae,[]⟩,
         ⟨aa 170,.bin .lss (.t 169) (.c (.int aj 0)),ae,[]⟩,
         ⟨aa 171,.un .not (.t 170),ae,[]⟩] ah []) (
        (.cond (.t 171) (
        .region [⟨aa 172,.kf (.t 23),ae,[]⟩,
         ⟨aa 173,.bin .add (.t 172) (.c (.int aj 1)),ae,[]⟩,
         ⟨aa 20,.kf (.t 173),ae,[]⟩] ag []) (
        .region [⟨aa 174,.kf (.t 23),ae,[]⟩,
         ⟨aa 21,.kf (.t 174),ae,[]⟩] ag []))))))))))))))) (
     (.seq (
     .region [⟨aa 175,.kf (.t 19),ae,[]⟩,
      ⟨aa 176,.kf (.t 20),ae,[]⟩,
      ⟨aa 177,.bin .sub (.t 175) (.t 176),ae,[]⟩,
      ⟨aa 24,.kf (.t 177),ae,[]⟩] ag []) (
     (.seq (
      (.seq (
      .region [⟨aa 178,.kf (.t 20),ae,[]⟩,
       ⟨aa 179,.kf (.t 2),ae,[]⟩,
       ⟨aa 180,.bin .lss (.t 178) (.t 179),ae,[]⟩,
       ⟨aa 181,.kf (.t 180),ae,[]⟩,
       ⟨aa 182,.kf (.t 2),aa (181,ah),[]⟩,
       ⟨aa 183,.kf (.t 24),aa (181,ah),[]⟩,
       ⟨aa 184,.bin .lss (.t 182) (.t 183),aa (181,ah),[]⟩,
       ⟨aa 185,.pick (.t 181) (.t 184) (.c (.bool ag)),ae,[]⟩] ag []) (
      (.cond (.t 185) (
       .region [⟨aa 186,.kf (.t 0),ae,[]⟩,
        ⟨aa 187,.kf (.t 20),ae,[]⟩,
        ⟨aa 188,.kf (.t 2),ae,[]⟩,
        ⟨aa 189,.kf (.t 24),ae,[]⟩,
        ⟨aa 190,.kf (.t 4),ae,[]⟩,
        ⟨aa 191,.call a [(.t 186),(.t 187),(.t 188),(.t 189),(.t 190)],ae,[]⟩] ag []) (
       .skip))))) (
      (.seq (
      (.seq (
       .region [⟨aa 192,.kf (.t 1),ae,[]⟩,
        ⟨aa 193,.kf (.t 20),ae,[]⟩,
        ⟨aa 194,.bin .lss (.t 192) (.t 193),ae,[]⟩,
        ⟨aa 195,.kf (.t 194),ae,[]⟩,
        ⟨aa 196,.kf (.t 20),aa (195,ah),[]⟩,
        ⟨aa 197,.kf (.t 18),aa (195,ah),[]⟩,
        ⟨aa 198,.bin .lss (.t 196) (.t 197),aa (195,ah),[]⟩,
        ⟨aa 199,.pick (.t 195) (.t 198) (.c (.bool ag)),ae,[]⟩] ag []) (
       (.cond (.t 199) (
       .region [⟨aa 200,.kf (.t 0),ae,[]⟩,
        ⟨aa 201,.kf (.t 1),ae,[]⟩,
        ⟨aa 202,.kf (.t 20),ae,[]⟩,
        ⟨aa 203,.kf (.t 18),ae,[]⟩,
        ⟨aa 204,.kf (.t 4),ae,[]⟩,
        ⟨aa 205,.call b [(.t 200),(.t 201),(.t 202),(.t 203),(.t 204)],ae,[]⟩] ag []) (
       .skip))))) (
      (.seq (
       .region [⟨aa 206,.kf (.t 18),ae,[]⟩,
        ⟨aa 207,.kf (.t 24),ae,[]⟩,
        ⟨aa 208,.bin .lss (.t 206) (.t 207),ae,[]⟩,
        ⟨aa 209,.kf (.t 208),ae,[]⟩,
        ⟨aa 210,.kf (.t 24),aa (209,ah),[]⟩,
        ⟨aa 211,.kf (.t 3),aa (209,ah),[]⟩,
        ⟨aa 212,.bin .lss (.t 210) (.t 211),aa (209,ah),[]⟩,
        ⟨aa 213,.pick (.t 209) (.t 212) (.c (.bool ag)),ae,[]⟩] ag []) (
       (.cond (.t 213) (
       .region [⟨aa 214,.kf (.t 0),ae,[]⟩,
        ⟨aa 215,.kf (.t 18),ae,[]⟩,
        ⟨aa 216,.kf (.t 24),ae,[]⟩,
        ⟨aa 217,.kf (.t 3),ae,[]⟩,
        ⟨aa 218,.kf (.t 4),ae,[]⟩,
        ⟨aa 219,.call b [(.t 214),(.t 215),(.t 216),(.t 217),(.t 218)],ae,[]⟩] ag []) (
       .skip))))))))))))))))))))))))))
def a5a{α:Type}(m:Mem)(b id q sz g:Nat)(ce:α->List D)(n:Nat)(W:List α)(s':PS):Prop:=
 s'.base=b/\s'.tmp 0= .ref id (m.ba id) (n+1)/\s'.tmp 2= .d (.int aj n)/\s'.tmp 4= .qb g [(q,m.ba q)]/\s'.ba=m.ba/\s'.mp=m.mp/\s'.di=lu m.di id (aa (.arr sz (W.map ce)))
theorem a2e{n:Nat}(h:n<2^63):IntKind.u64.wrap (n:Int)=n:=by
 unfold Qy;simp only[IntKind.bits,ae8,fh,gp,bp];lia
section
variable{P:Program}
theorem WD(hm:P.follows .mixedOrders=ah){f fr fs:Nat}{sz:Nat}(hf:fu P f {}=aa (WE sz fr fs,[],220)){α:Type}{ce:α->List D}{key:α->ByteArray}(L:∀x,(ce x).length=sz)(yr:∀x,(ce x).all D.one=ah){g q qv:Nat}{X:D}
  (zS:∀x y,iv P g [.agg (ce x),.agg (ce y),.ym [X] 0] (.int aj (byC (key x) (key y)))){m:Mem}{id ba:Nat}{S:List α}{x:α}(hl:S.length<=2^30)(h1:S.length≠1)(hS:eC key S)(hb:m.di id=aa (.arr sz ((S++[x]).map ce)))(hv:m.ba id=ba)
  (hq:m.di q=aa (.loc [.d X]))(a8:m.ba q=qv)(l8:id≠q)(b:Nat):
  sl P f m [.ref id ba (S.length+1),.d (.int aj 0),.d (.int aj S.length),.d (.int aj ((S.length+1:Nat):Int)),.qb g [(q,qv)]] (m.put id ba (.arr sz ((tp key S.reverse x).reverse.map ce))) (.Bb []):=by
 subst hv a8;refine mz hm hf (by simp) b (λc=>?_) (Mem.Mq (bm _)) Mem.Rr (λi es I=> .inl I) (by simp[Im]);show l7 P (WE sz fr fs) (yu m [] _ _) _;have w0:=dr ((S.length:Int)-0) (by lia) (by lia);have w1:=dr (((S.length+1:Nat):Int)-S.length) (by lia) (by lia)
 have Z:((S.length:Int)-0==1)=false:=by rw[beq_eq_false_iff_ne];lia
 have e2:(((S.length+1:Nat):Int)-S.length==1)=true:=by rw[beq_iff_eq];lia
 simp only[WE,enter,go_sem,ab,reduceCtorEq,w0,w1,Z,e2]
 have W:((S++[x]).map ce).length=S.length+1:=by simp
 have b2:(S++[x]).length=S.length+1:=by simp
 have zR:∀x,(ce x).drop sz=[]:=λx=>Oo (by rw[L];exact bm _)
 have b1:∀x y,(ce x).drop (ce y).length=[]:=λx y=>by rw[L];exact zR x
 have kY:∀x,(ce x).take sz=ce x:=λx=>D0 (by rw[L];exact bm _)
 have Q:∀(s:PS) x,((ce x).map C.d).all (C.one s)=true:=λs x=>by
  have:=yr x;rw[dg]at this|-;intro c hc;obtain⟨d,hd,rfl⟩:=j6.1 hc;exact this d hd
 have gx:((S++[x]).map ce)[S.length]? =aa (ce x):=by simp
 have gS:∀h (l:h<S.length),((S++[x]).map ce)[h]? =aa (ce S[h]):=λh l=>by
  rw[dn,kq l,bh l];rfl
 have up:∀h v (l:h<S.length) (o:v<S.length),h<=v->strLt (key x) (key S[h])=ah->strLt (key x) (key S[v])=true:=λh v l o a7 hx=>by
  rcases Nat.lt_or_eq_of_le a7 with w|w
  ·exact OT hx ((Cy.1 hS) h v l o w)
  subst w;exact hx
 refine bZ (i:=4) (λt=>∃i,i<=S.length/\a5a m b id q sz g ce S.length (S++[x]) t/\t.tmp 14= .d (.int aj i)/\(∀y∈S.take i,strLt (key x) (key y)=ag)/\∀y∈S.drop i,strLt (key x) (key y)=ah) ?_ ?_
 ·refine gf S.length (λk t=>∃i j,i<=j/\j<=S.length/\(j-i)+k<=S.length/\a5a m b id q sz g ce S.length (S++[x]) t/\t.tmp 14= .d (.int aj i)/\t.tmp 15= .d (.int aj j)/\(∀h (l:h<S.length),h<i->strLt (key x) (key S[h])=ag)/\∀h (l:h<S.length),j<=h->strLt (key x) (key S[h])=ah) ?_ ?_
  ·refine⟨0,S.length,aei _,bm _,by lia,⟨rfl,?_,?_,?_,rfl,rfl,?_⟩,?_,?_,λh _ w=>absurd w (by lia),λh l w=>absurd w (by lia)⟩
   ·simp only[ar,ab,bp];rfl
   ·simp only[ar,ab,bp];rfl
   ·simp only[ar,ab,bp];rfl
   ·funext i
    simp only[ar];split
    ·rename_i h;rw[h];exact hb
    rfl
   ·simp only[ar,ab,bp,da];rfl
   simp only[ar,ab,bp,da]
  rintro k t hk ⟨i,j,Js,hj,hd,⟨B,u,p,A,ev,e,a⟩,f14,f15,lo,I⟩
  have G:t.di id=aa (.arr sz ((S++[x]).map ce)):=by rw[a,de]
  have a2:t.di q=aa (.loc [.d X]):=by rw[a,ie _ _ _ _ l8.symm];exact hq
  by_cases K:(i:Int)<j
  ·have ep:i<j:=by lia
   have wa:=dr ((i:Int)+j) (by lia) (by lia)
   have wu:IntKind.u64.wrap ((i:Int)+j)=((i+j:Nat):Int):=by
    have:=a2e (n:=i+j) (by lia);rw[<-this];congr 1
   have wf:(((i+j:Nat):Int).fdiv (2^(min 1 64:Nat)))=((i+j)/2:Nat):=by
    rw[Int.fdiv_eq_ediv_of_nonneg _ (by decide)];rfl
   have wi:=dr (((i+j)/2:Nat):Int) (by lia) (by lia);obtain⟨h,l⟩:∃h,h=(i+j)/2:=⟨_,rfl⟩;rw[<-l]at wf wi
   have H:h<S.length:=by lia
   have gh:=gS h H
   have a3:(h:Int)<((S.length+1:Nat):Int):=by lia
   have a0:((S.length:Nat):Int)<((S.length+1:Nat):Int):=by lia
   have b0:=dr ((h:Int)+1) (by lia) (by lia);have hc:=zS x S[h];simp only[go_sem,ab,dw,fk,reduceCtorEq,u,p,A,f14,f15,K,wa,wu,wf,wi,ev,G,a2,W,a3,a0,gx,gh,L,kY,bn,aw,mkd,k9,ow];refine eQ hc rfl ?_;cases U:strLt (key x) (key S[h])
   ·have V:¬(byC (key x) (key S[h])<0):=by rw[iY,U];simp
    simp only[go_sem,ab,reduceCtorEq,f14,f15,V,b0];refine⟨by lia,h+1,j,by lia,hj,by lia,⟨B,u,p,A,rfl,e,a⟩,by rw[mu];rfl,rfl,λv o w=>?_,I⟩;cases q2:strLt (key x) (key S[v])
    ·rfl
    have:=up v h o H (by lia) q2;rw[U]at this;cases this
   have V:byC (key x) (key S[h])<0:=by rw[iY,U]
   simp only[go_sem,ab,reduceCtorEq,f14,f15,V];exact⟨by lia,i,h,by lia,by lia,by lia,⟨B,u,p,A,rfl,e,a⟩,rfl,rfl,lo,λv o w=>up h v H o w U⟩
  have Y:i=j:=by lia
  subst Y;simp only[go_sem,ab,reduceCtorEq,p,f14,f15,K];refine⟨i,hj,⟨B,u,p,A,ev,e,a⟩,rfl,λy hy=>?_,λy hy=>?_⟩
  ·obtain⟨h,l,rfl⟩:=j0.1 hy;simp only[ey]at l;rw[a8v];exact lo h (by lia) (by lia)
  obtain⟨h,l,rfl⟩:=j0.1 hy;simp only[A0]at l;rw[List.getElem_drop];exact I (i+h) (by lia) (by lia)
 rintro t ⟨i,b5,⟨B,u,p,A,ev,e,a⟩,f14,lo,a4⟩;have P1:=CF key lo a4;simp only[go_sem,p];refine bZ (i:=6) (λz=>z.ba=m.ba/\z.mp=m.mp/\z.di=lu m.di id (aa (.arr sz ((tp key S.reverse x).reverse.map ce)))) ?_ ?_
 ·refine gf (S.length-i) (λr z=>r<=S.length-i/\a5a m b id q sz g ce S.length (S.take (S.length-r)++x::S.drop (S.length-r)) z/\z.tmp 14= .d (.int aj i)/\z.tmp 17= .d (.int aj ((S.length-r:Nat):Int))) ?_ ?_
  ·refine⟨aei _,⟨B,?_,?_,?_,ev,e,?_⟩,?_,?_⟩
   ·simp only[ar,ab,bp];exact u
   ·simp only[ar,ab,bp];exact p
   ·simp only[ar,ab,bp];exact A
   ·show t.di=_;rw[a,Wt,fm,Qa]
   ·simp only[ar,ab,bp];exact f14
   simp only[ar,ab,bp,da];rfl
  clear B u p A ev e a f14;rintro r z hr ⟨_,⟨B,u,p,A,ev,e,a⟩,f14,E⟩;by_cases K:((S.length-r:Nat):Int)>i
  ·obtain⟨F,hF⟩:∃F,F=S.take (S.length-r-1):=⟨_,rfl⟩;obtain⟨R,hR⟩:∃R,R=S.drop (S.length-r):=⟨_,rfl⟩
   have b3:F.length=S.length-r-1:=by rw[hF,ey];lia
   have J:S.length-r=F.length+1:=by lia
   have N:F.length<S.length:=by lia
   obtain⟨y,hy⟩:∃y,y=S[F.length]:=⟨_,rfl⟩
   have O:S.take (S.length-r)++x::S.drop (S.length-r)=F++y::x::R:=by
    rw[<-hR,J,j3,bh N,<-hy,hF];simp only[JA,uy,qc,ub]
    congr 2
    rw[ey];lia
   have a1:F++x::y::R=S.take (S.length-(r+1))++x::S.drop (S.length-(r+1)):=by
    have Z:S.length-(r+1)=F.length:=by lia
    have e2:S.drop F.length=y::S.drop (F.length+1):=by rw[hy];exact jx N
    rw[Z,e2,hR,J]
    congr 1
    rw[hF,ey]
    congr 1
    lia
   rw[O]at a;rw[J]at E K
   have b4:R.length=r:=by rw[hR];simp only[A0];lia
   have wj:=dr (((F.length+1:Nat):Int)-1) (by lia) (by lia)
   have T:((F.length+1:Nat):Int)-1=(F.length:Int):=by lia
   rw[T]at wj;have g0:=at0 ce F R x y;have g1:=at1 ce F R x y
   have a5:((F.length+1:Nat):Int)<((S.length+1:Nat):Int):=by lia
   have a6:(F.length:Int)<((S.length+1:Nat):Int):=by lia
   have b6:F.length+1<S.length+1:=by lia
   have G:z.di id=aa (.arr sz ((F++y::x::R).map ce)):=by rw[a,de]
   have ZV:((F++y::x::R).map ce).length=S.length+1:=by
    have h6:=congrArg Ae O;simp only[dz,cq,ey,A0]at h6;simp only[al,dz,cq];lia
   generalize hM:(F++y::x::R).map ce=M at*
   have g2:(M.set (F.length+1) (ce y))[F.length]? =aa (ce y):=by rw[u7,aq (by lia)];exact g0
   have Me:(M.set (F.length+1) (ce y)).set F.length (ce x)=(F++x::y::R).map ce:=by
    rw[<-hM,J3,J3,wW]
   simp only[go_sem,ab,reduceCtorEq,u,f14,E,K,ev,G,ZV,wj,T,a5,a6,g0,g1,L,kY,bn,aw,mkd,bD,Q,zR,J8,g2,Me];refine⟨by lia,by lia,⟨B,u,p,A,rfl,e,?_⟩,?_⟩
   ·show lu _ _ _=lu _ _ _;rw[a,a1]
    funext i
    simp only[ar];split<;>rfl
   rw[show S.length-(r+1)=F.length by lia]
  have a9:S.length-r=i:=by lia
  simp only[go_sem,ab,reduceCtorEq,f14,E,K];refine⟨ev,e,?_⟩;rw[a,a9,<-P1]
 rintro z ⟨ev,e,a⟩;simp only[go_sem,qz,K8];intro i;simp only[Mem.put,PS.mem,ev,e,a,ar];by_cases I:i=id
 ·subst I;simp
 simp[I]
end
end Go.PI
