/- A part of the proof for HistoryApplies: F69 to F114. Printed from longer texts. -/
import Derived.Test.YtjhpceooekjbfaaGreatDoorE
set_option linter.all false
set_option maxHeartbeats 64000000
open Array renaming getElem?_eq_some_iff->la
open Bool renaming and_eq_true->dc,and_self->Iq,and_true->Ip,false->ag,false_eq_true->gp,false_or->C0,not_eq_true'->ot,or_eq_false_iff->K4,or_false->R0,or_true->adn,true->ah,true_and->rv,true_or->D1
open Classical renaming axiomOfChoice->ac6,byContradiction->sJ
open Decidable renaming byContradiction->Oq
open Fin renaming mk_lt_mk->aee
open Go.IntKind renaming i64->aj
open Go.Op renaming bytesLess->Ws
open Int renaming le_of_mul_le_mul_right->Ug,lt_trichotomy->Xu,mul_comm->Af,mul_eq_zero->Bi,mul_le_mul_of_nonneg_left->Q8,mul_nonpos_of_nonneg_of_nonpos->Ar,mul_nonpos_of_nonpos_of_nonneg->JG,mul_pos->Ck,natCast_nonneg->aw,reduceAdd->adx,reduceBEq->Bz,reduceBNe->mj,reduceLE->ft,reduceLT->dw,reduceNeg->cu,zero_mul->Wv
open List renaming all_cons->X8,all_eq_true->dg,all_nil->adh,any_cons->a8q,any_eq_true->Bm,append_assoc->uy,append_nil->pt,append_of_mem->nS,cons_append->qc,drop_eq_getElem_cons->jx,drop_eq_nil_of_le->Oo,drop_length->Qa,drop_of_length_le->fY,eq_nil_of_length_eq_zero->jf,eraseIdx_eq_take_drop_succ->ta,ext_getElem->Xt,filter_append->Jy,filter_cons->Bl,finRange->adu,foldl_append->qu,foldl_cons->yb,foldl_nil->a5l,getD->cz,getElem?_append_left->kq,getElem?_append_right->l9,getElem?_eq_getElem->bh,getElem?_eq_some_iff->bd,getElem?_map->dn,getElem_append_left->a8w,getElem_mem->dj,getElem_of_mem->x8,length->Ae,length_append->dz,length_cons->cq,length_eraseIdx_le->ac3,length_filter_le->tu,length_map->al,length_nil->ew,length_pos_iff->W8,length_set->J8,length_take->ey,map->afi,map_append->fj,map_congr_left->Nj,map_cons->du,map_drop->a1s,map_eq_append_iff->acf,map_eq_nil_iff->fw,map_map->JE,map_nil->ic,map_reverse->JD,map_set->aey,map_take->Mm,mem_append->jz,mem_cons->fa,mem_cons_of_mem->sD,mem_flatMap->K3,mem_map->j6,mem_of_mem_take->sC,mem_or_eq_of_mem_set->a8p,mem_range->er,mem_singleton->Q9,mem_take_iff_getElem->a8o,nil_append->ub,nodup_append->Xs,nodup_cons->VM,nodup_iff_pairwise_ne->yi,not_lt->af7,not_mem_nil->kz,pairwise_append->sA,pairwise_iff_getElem->Cy,range_succ->adb,reduceReplicate->cw,reverse_append->W6,reverse_cons->oq,reverse_nil->rZ,reverse_reverse->ue,sum_append->a8n,sum_cons->a1r,take_add_one->j3,take_append_drop->Ej,take_append_of_le_length->a0r,take_left->ae2,take_left'->ada,take_length->fm,take_of_length_le->D0,take_succ_eq_append_getElem->ux,take_zero->My
open List.cons renaming injEq->iI
open Nat renaming add_assoc->tc,add_zero->Ad,le_of_eq->ae1,le_refl->bm,le_trans->jg,lt_or_ge->iZ,lt_or_gt_of_ne->a5i,min_eq_left->rY,mod_add_mod->VL,mod_eq_of_lt->zz,mod_lt->Ht,mod_self->acb,not_lt_zero->a8m,reduceAdd->ak,reduceEqDiff->ab,reduceLeDiff->ao,reduceMul->fp,reducePow->Qw,sub_zero->Wt,zero_add->gj,zero_le->aei
open Ne renaming symm->P8
open Option renaming getD_some->jj,isSome->cy,map_some->jc,ne_none_iff_exists'->Hs,none->ae,some->aa
open Option.some renaming injEq->av
open Prod renaming ext->tq,fst->afq
namespace Go.PI
def pY(a b:Nat):eh:=
 (.seq (
 .region [⟨aa 6,.kf (.c (.int aj 20)),ae,[]⟩] ag []) (
 (.seq (
  .region [⟨aa 10,.kf (.t 6),ae,[]⟩,
   ⟨aa 7,.kf (.c (.int aj 0)),ae,[]⟩,
   ⟨aa 8,.kf (.t 10),ae,[]⟩] ag []) (
  (.seq (
  (.block 0 (
   (.loop (
   (.seq (
    (.seq (
    .region [⟨aa 11,.kf (.t 8),ae,[]⟩,
     ⟨aa 12,.kf (.t 1),ae,[]⟩,
     ⟨aa 13,.bin .leq (.t 11) (.t 12),ae,[]⟩] ag []) (
    (.cond (.t 13) (
     .skip) (
     .exit 0))))) (
    (.block 1 (
    (.seq (
     .region [⟨aa 14,.kf (.t 0),ae,[]⟩,
      ⟨aa 15,.kf (.t 7),ae,[]⟩,
      ⟨aa 16,.kf (.t 8),ae,[]⟩,
      ⟨aa 17,.kf (.t 2),ae,[]⟩,
      ⟨aa 18,.ua a [(.t 14),(.t 15),(.t 16),(.t 17)],ae,[]⟩] ag []) (
     (.seq (
     .region [⟨aa 19,.kf (.t 8),ae,[]⟩,
      ⟨aa 7,.kf (.t 19),ae,[]⟩] ag []) (
     .region [⟨aa 20,.kf (.t 8),ae,[]⟩,
      ⟨aa 21,.kf (.t 6),ae,[]⟩,
      ⟨aa 22,.bin .add (.t 20) (.t 21),ae,[]⟩,
      ⟨aa 8,.kf (.t 22),ae,[]⟩] ag []))))))))))))) (
  (.seq (
   .region [⟨aa 23,.kf (.t 0),ae,[]⟩,
    ⟨aa 24,.kf (.t 7),ae,[]⟩,
    ⟨aa 25,.kf (.t 1),ae,[]⟩,
    ⟨aa 26,.kf (.t 2),ae,[]⟩,
    ⟨aa 27,.ua a [(.t 23),(.t 24),(.t 25),(.t 26)],ae,[]⟩] ag []) (
   (.block 2 (
   (.loop (
    (.seq (
    (.seq (
     .region [⟨aa 28,.kf (.t 6),ae,[]⟩,
      ⟨aa 29,.kf (.t 1),ae,[]⟩,
      ⟨aa 30,.bin .lss (.t 28) (.t 29),ae,[]⟩] ag []) (
     (.cond (.t 30) (
     .skip) (
     .exit 2))))) (
    (.block 3 (
     (.seq (
     .region [⟨aa 31,.kf (.t 6),ae,[]⟩,
      ⟨aa 32,.bin .mul (.c (.int aj 2)) (.t 31),ae,[]⟩,
      ⟨aa 7,.kf (.c (.int aj 0)),ae,[]⟩,
      ⟨aa 8,.kf (.t 32),ae,[]⟩] ag []) (
     (.seq (
      (.block 4 (
      (.loop (
       (.seq (
       (.seq (
        .region [⟨aa 33,.kf (.t 8),ae,[]⟩,
         ⟨aa 34,.kf (.t 1),ae,[]⟩,
         ⟨aa 35,.bin .leq (.t 33) (.t 34),ae,[]⟩] ag []) (
        (.cond (.t 35) (
        .skip) (
        .exit 4))))) (
       (.block 5 (
        (.seq (
        .region [⟨aa 36,.kf (.t 0),ae,[]⟩,
         ⟨aa 37,.kf (.t 7),ae,[]⟩,
         ⟨aa 38,.kf (.t 7),ae,[]⟩,
         ⟨aa 39,.kf (.t 6),ae,[]⟩,
         ⟨aa 40,.bin .add (.t 38) (.t 39),ae,[]⟩,
         ⟨aa 41,.kf (.t 8),ae,[]⟩,
         ⟨aa 42,.kf (.t 2),ae,[]⟩,
         ⟨aa 43,.ua b [(.t 36),(.t 37),(.t 40),(.t 41),(.t 42)],ae,[]⟩] ag []) (
        (.seq (
         .region [⟨aa 44,.kf (.t 8),ae,[]⟩,
          ⟨aa 7,.kf (.t 44),ae,[]⟩] ag []) (
         .region [⟨aa 45,.kf (.t 8),ae,[]⟩,
          ⟨aa 46,.kf (.t 6),ae,[]⟩,
          ⟨aa 47,.bin .mul (.c (.int aj 2)) (.t 46),ae,[]⟩,
          ⟨aa 48,.bin .add (.t 45) (.t 47),ae,[]⟩,
          ⟨aa 8,.kf (.t 48),ae,[]⟩] ag []))))))))))))) (
      (.seq (
      (.seq (
       .region [⟨aa 49,.kf (.t 7),ae,[]⟩,
        ⟨aa 50,.kf (.t 6),ae,[]⟩,
        ⟨aa 51,.bin .add (.t 49) (.t 50),ae,[]⟩,
        ⟨aa 9,.kf (.t 51),ae,[]⟩] ag []) (
       (.seq (
       .region [⟨aa 52,.kf (.t 9),ae,[]⟩,
        ⟨aa 53,.kf (.t 1),ae,[]⟩,
        ⟨aa 54,.bin .lss (.t 52) (.t 53),ae,[]⟩] ag []) (
       (.cond (.t 54) (
        .region [⟨aa 55,.kf (.t 0),ae,[]⟩,
         ⟨aa 56,.kf (.t 7),ae,[]⟩,
         ⟨aa 57,.kf (.t 9),ae,[]⟩,
         ⟨aa 58,.kf (.t 1),ae,[]⟩,
         ⟨aa 59,.kf (.t 2),ae,[]⟩,
         ⟨aa 60,.ua b [(.t 55),(.t 56),(.t 57),(.t 58),(.t 59)],ae,[]⟩] ag []) (
        .skip))))))) (
      .region [⟨aa 61,.kf (.t 6),ae,[]⟩,
       ⟨aa 62,.bin .mul (.t 61) (.c (.int aj 2)),ae,[]⟩,
       ⟨aa 6,.kf (.t 62),ae,[]⟩] ag []))))))))))))))))))))))
def Xp{α:Type}(m:Mem)(b id q sz g:Nat)(ce:α->List D)(n:Nat)(V:List α)(s':PS):Prop:=
 s'.base=b/\s'.tmp 0= .ref id (m.ba id) n/\s'.tmp 1= .d (.int aj n)/\s'.tmp 2= .qb g [(q,m.ba q)]/\s'.ba=m.ba/\s'.mp=m.mp/\s'.di=lu m.di id (aa (.arr sz (V.map ce)))
section
variable{P:Program}
def a8e(l:List Nat):Ann:={imm:=[],x7:=[],ce:=[],cf:=[],cr:=l,kp:=[],cv:=[],dyn:=[],od:=[]}
theorem xA(hm:P.follows .mixedOrders=ah){f fi fs fr a1:Nat}{sz:Nat}(hf:fu P f (a8e [18,27,43,60])=aa (pY fi fs,[],63))(a2:fu P fi {}=aa (zG sz,[],53))(a3:fu P fs {}=aa (WE sz fr a1,[],220)){α:Type}{ce:α->List D}{key:α->ByteArray}(En:∀x,(ce x).length=sz)(yr:∀x,(ce x).all D.one=ah){g q qv:Nat}{X:D}
  (zS:∀x y,iv P g [.agg (ce x),.agg (ce y),.ym [X] 0] (.int aj (byC (key x) (key y)))){m:Mem}{id ba:Nat}{W:List α}(hl:W.length<=21)(hb:m.di id=aa (.arr sz (W.map ce)))(hv:m.ba id=ba)
  (hq:m.di q=aa (.loc [.d X]))(a5:m.ba q=qv)(l8:id≠q)(b:Nat):
  sl P f m [.ref id ba W.length,.d (.int aj W.length),.qb g [(q,qv)]] (m.put id ba (.arr sz ((ji key W).map ce))) (.Bb []):=by
 subst hv a5;refine mz hm hf (by simp) b (λc=>?_) (Mem.Mq (bm _)) Mem.Rr (λi es T=> .inl T) (by simp[Im]);show l7 P (pY fi fs) (yu m [] _ _) _
 have Vi:∀(C:Mem) (V:List α) (a b':Nat),V.length=W.length->a<=b'->b'<=W.length->C.di id=aa (.arr sz (V.map ce))->C.ba=m.ba->C.di q=m.di q->sl P fi C [.ref id (m.ba id) W.length,.d (.int aj a),.d (.int aj b'),.qb g [(q,m.ba q)]] (C.put id (m.ba id) (.arr sz ((V.take a++ji key ((V.drop a).take (b'-a))++V.drop b').map ce))) (.Bb []):=by
  intro C V a b' h1 h2 h3 h4 h5 h6;rw[<-h1];exact ZI hm a2 En yr zS h2 (by lia) (by lia) h4 (by rw[h5]) (by rw[h6];exact hq) (by rw[h5]) l8 (b+100)
 have Fq:∀(s':PS),s'.ba=m.ba->s'.mp=m.mp->s'.di=lu m.di id (aa (.arr sz ((ji key W).map ce)))->Clean s'.mem (m.put id (m.ba id) (.arr sz ((ji key W).map ce))):=by
  intro s' ev j e i;simp only[Mem.put,PS.mem,ev,j,e,ar];by_cases T:i=id
  ·subst T;simp
  simp[T]
 have U:∀(C:Mem) O,C.ba=m.ba->(C.put id (m.ba id) O).ba=m.ba:=λC O h=>by
  funext i
  simp only[Mem.put,ar,h];split
  ·rename_i h;rw[h]
  rfl
 simp only[pY,enter,go_sem,ab]
 have Z:lu m.di id (aa (.arr sz (W.map ce)))=m.di:=by
  funext i
  simp only[ar];split
  ·rename_i h;subst h;exact hb.symm
  rfl
 have a4:∀O,lu m.di id O q=m.di q:=λO=>ie _ _ _ _ l8.symm
 have gK:∀(s':PS) V,Xp m b id q sz g ce W.length V s'->s'.mem.di id=aa (.arr sz (V.map ce))/\s'.mem.ba=m.ba/\s'.mem.di q=m.di q:=by
  rintro s' V ⟨_,_,_,_,ev,j,e⟩;exact⟨by show s'.di id=_;rw[e,de],ev,by show s'.di q=_;rw[e,a4]⟩
 refine bZ (i:=0) (λs'=>s'.tmp 6= .d (.int aj 20)/\((W.length<20/\Xp m b id q sz g ce W.length W s'/\s'.tmp 7= .d (.int aj 0))\/(20<=W.length/\Xp m b id q sz g ce W.length (ji key (W.take 20)++W.drop 20) s'/\s'.tmp 7= .d (.int aj 20)))) ?_ ?_
 ·refine gf 1 (λk s'=>s'.tmp 6= .d (.int aj 20)/\((k=0/\Xp m b id q sz g ce W.length W s'/\s'.tmp 7= .d (.int aj 0)/\s'.tmp 8= .d (.int aj 20))\/(k=1/\20<=W.length/\Xp m b id q sz g ce W.length (ji key (W.take 20)++W.drop 20) s'/\s'.tmp 7= .d (.int aj 20)/\s'.tmp 8= .d (.int aj 40)))) ?_ ?_
  ·exact⟨rfl,.inl ⟨rfl,⟨rfl,rfl,rfl,rfl,rfl,rfl,Z.symm⟩,rfl,rfl⟩⟩
  rintro k s' hk ⟨f6,h⟩;rcases h with ⟨rfl,s,u,J⟩|⟨rfl,w,s,u,J⟩
  ·have o:=s;obtain⟨v,p,n,t,ev,j,e⟩:=o;by_cases w:(20:Int)<=W.length
   ·have R:20<=W.length:=by lia
    simp only[go_sem,ab,reduceCtorEq,p,n,t,u,J,w];obtain⟨q1,q2,q3⟩:=gK s' W s;refine ml (sl.toR (Vi _ W 0 20 rfl (by lia) R q1 q2 q3)) ?_;rintro m' r ⟨rfl,rfl⟩
    have G:aj.wrap 40=40:=by decide
    simp only[go_sem,ab,adx,reduceCtorEq,PS.ke,PS.mem,Mem.put,f6,u,J,G];refine⟨by lia,.inr ⟨R,⟨v,p,n,t,?_,j,?_⟩⟩⟩
    ·show lu s'.ba _ _=m.ba;exact U s'.mem (.loc []) ev
    show lu s'.di _ _=_;rw[e]
    funext i
    simp only[ar,Wt];split<;>rfl
   have R:W.length<20:=by lia
   simp only[go_sem,ab,reduceCtorEq,n,J,f6,u,w];exact .inl ⟨R,v,p,n,t,ev,j,e⟩
  have o:=s;obtain⟨v,p,n,t,ev,j,e⟩:=o
  have B:¬((40:Int)<=W.length):=by lia
  simp only[go_sem,ab,reduceCtorEq,n,J,f6,u,B];exact .inr ⟨w,v,p,n,t,ev,j,e⟩
 intro L h1
 have Y:L.tmp 6= .d (.int aj 20)/\∃V a,V.length=W.length/\a<=W.length/\Xp m b id q sz g ce W.length V L/\L.tmp 7= .d (.int aj (a:Nat))/\V.take a++ji key ((V.drop a).take (W.length-a))++V.drop W.length=if W.length<=20 then ji key W else ji key (W.take 20)++W.drop 20:=by
  obtain⟨f6,h⟩:=h1;refine⟨f6,?_⟩;rcases h with ⟨w,s,u⟩|⟨w,s,u⟩
  ·refine⟨W,0,rfl,aei _,s,u,?_⟩;rw[bc (by lia)];simp
  have E:(ji key (W.take 20)++W.drop 20).length=W.length:=by
   rw[dz,Al,<-dz,Ej]
  have F:(ji key (W.take 20)).length=20:=by rw[Al,ey];lia
  refine⟨_,20,E,w,s,u,?_⟩;have e1:(ji key (W.take 20)++W.drop 20).take 20=ji key (W.take 20):=ada F;have e2:(ji key (W.take 20)++W.drop 20).drop 20=W.drop 20:=List.drop_left' F;rw[e1,e2,fY (ae1 E),pt];by_cases A:W.length<=20
  ·have H:W.length=20:=by lia
   rw[bc A,H,fY (ae1 H)];rw[D0 (ae1 H)];show ji key W++ji key []=_;simp[ji]
  have I:W.length=21:=by lia
  rw[aq A]
  have:W.drop 20=[W[20]]:=by
   rw[jx (by lia),fY (by lia)]
  have a0:W.length-20=1:=by lia
  rw[this,a0];rfl
 obtain⟨f6,V,a,E,ha,s,u,hV⟩:=Y;have o:=s;obtain⟨v,p,n,t,ev,j,e⟩:=o;simp only[go_sem,ab,p,n,t,u];obtain⟨q1,q2,q3⟩:=gK L V s;refine ml (sl.toR (Vi _ V a W.length E ha (bm _) q1 q2 q3)) ?_;rintro m' r ⟨rfl,rfl⟩;rw[hV]
 generalize Q:(if W.length<=20 then ji key W else ji key (W.take 20)++W.drop 20)=M at*
 simp only[go_sem,PS.ke,PS.mem,Mem.put];refine gf 1 (λk s'=>(k=0/\Xp m b id q sz g ce W.length M s'/\s'.tmp 6= .d (.int aj 20))\/(k=1/\Xp m b id q sz g ce W.length (ji key W) s'/\s'.tmp 6= .d (.int aj 40))) ?_ ?_
 ·refine .inl ⟨rfl,⟨v,p,n,t,U L.mem (.loc []) ev,j,?_⟩,f6⟩;show lu L.di _ _=_;rw[e]
  funext i
  simp only[ar];split<;>rfl
 clear v p n t ev j e f6 u;rintro k s2 hk h;rcases h with ⟨rfl,s,f6⟩|⟨rfl,s,f6⟩
 ·have o:=s;obtain⟨v,p,n,t,ev,j,e⟩:=o;by_cases A:(20:Int)<W.length
  ·have I:W.length=21:=by lia
   have G:aj.wrap 40=40:=by decide
   have a6:aj.wrap 20=20:=by decide
   have B:¬((40:Int)<=W.length):=by lia
   simp only[go_sem,ab,Int.reduceMul,reduceCtorEq,n,f6,A,G];refine bZ (i:=4) (λz=>Xp m b id q sz g ce W.length M z/\z.tmp 6= .d (.int aj 20)/\z.tmp 7= .d (.int aj 0)) ?_ ?_
   ·refine gf 0 (λk z=>Xp m b id q sz g ce W.length M z/\z.tmp 6= .d (.int aj 20)/\z.tmp 7= .d (.int aj 0)/\z.tmp 8= .d (.int aj 40)) ?_ ?_
    ·exact⟨⟨v,p,n,t,ev,j,e⟩,f6,rfl,rfl⟩
    rintro k z _ ⟨⟨v,p,n,t,ev,j,e⟩,f6,u,J⟩;simp only[go_sem,ab,adx,reduceCtorEq,n,f6,u,J,B];exact⟨v,p,n,t,ev,j,e⟩
   clear v p n t ev j e f6 s;rintro z ⟨s,f6,u⟩;have o:=s;obtain⟨v,p,n,t,ev,j,e⟩:=o;obtain⟨q1,q2,q3⟩:=gK z M s
   have eV:M=ji key (W.take 20)++[W[20]]:=by
    rw[<-Q,aq (by lia),jx (by lia),fY (show W.length<=20+1 by lia)]
   have F:(ji key (W.take 20)).length=20:=by rw[Al,ey];lia
   rw[eV]at q1;have K:=WD hm a3 En yr zS (m:=z.mem) (id:=id) (ba:=m.ba id) (S:=ji key (W.take 20)) (x:=W[20]) (by lia) (by lia) (Tp key _) q1 (by rw[q2]) (qv:=m.ba q) (by rw[q3];exact hq) (by rw[q2]) l8 (b+100);rw[F]at K
   have P1:(tp key (ji key (W.take 20)).reverse W[20]).reverse=ji key W:=by
    rw[<-Bv]
    congr 1
    have:W.take 20++[W[20]]=W.take 21:=by
     have h:=j3 (l:=W) (i:=20);rw[bh (show 20<W.length by lia)]at h;exact h.symm
    rw[this,D0 (by lia)]
   rw[P1]at K
   have N:((W.length:Nat):Int)=21:=by lia
   rw[I]at p;rw[N]at n;simp only[go_sem,ab,dw,adx,reduceCtorEq,p,n,t,f6,u,a6];refine ml (sl.toR K) ?_;rintro m' r ⟨rfl,rfl⟩;simp only[go_sem,ab,Int.reduceMul,reduceCtorEq,PS.ke,PS.mem,Mem.put,f6,G];refine⟨by lia,.inr ⟨v,?_,?_,t,U z.mem (.loc []) ev,j,?_⟩⟩
   ·rw[I];exact p
   ·show z.tmp 1=_;rw[n,N]
   show lu z.di _ _=_;rw[e]
   funext i
   simp only[ar];split<;>rfl
  simp only[go_sem,ab,reduceCtorEq,n,f6,A,qz,K8];refine Fq _ ev j ?_;show s2.di=_;rw[e,<-Q,bc (by lia)]
 have o:=s;obtain⟨v,p,n,t,ev,j,e⟩:=o
 have B:¬((40:Int)<W.length):=by lia
 simp only[go_sem,ab,reduceCtorEq,n,f6,B,qz,K8];exact Fq _ ev j e
end
section
variable{P:Program}
theorem ZJ(l:P.follows .mixedOrders=ah){f:Nat}{sz:Nat}(h:fu P f {}=aa (zG sz,[],53))(m:Mem)(v:V)(n:Im m v)(b:Nat):sl P f m [.d .cj,.d (.int aj 0),.d (.int aj 0),v] m (.Bb []):=by
 refine mz l h (by simp) b (λc=>?_) (λi=>bm _) (λi x hx=> .inl hx) (λi es j=> .inl j) (by simp[Im]);show l7 P (zG sz) (yu m [] _ _) _
 have w1:aj.wrap 1=1:=by decide
 simp only[zG,enter,go_sem,ab,adx,reduceCtorEq,w1];refine gf 0 (λk s'=>s'.tmp 8= .d (.int aj 1)/\s'.tmp 2= .d (.int aj 0)/\s'.mem=m) ?_ ?_
 ·exact⟨rfl,rfl,rfl⟩
 rintro k s' _ ⟨g,e,a⟩;simp only[go_sem,ab,dw,reduceCtorEq,g,e,qz,K8];show Clean s'.mem m;rw[a];exact λi=>⟨.inr ⟨rfl,rfl⟩,.inr ⟨rfl,rfl⟩⟩
theorem xB(n:P.follows .mixedOrders=ah){f fi fs:Nat}{sz:Nat}(p:fu P f (a8e [18,27,43,60])=aa (pY fi fs,[],63))(l:fu P fi {}=aa (zG sz,[],53))(m:Mem)(v:V)(s:Im m v)(b:Nat):sl P f m [.d .cj,.d (.int aj 0),v] m (.Bb []):=by
 refine mz n p (by simp) b (λc=>?_) (λi=>bm _) (λi x hx=> .inl hx) (λi es q=> .inl q) (by simp[Im]);show l7 P (pY fi fs) (yu m [] _ _) _;simp only[pY,enter,go_sem,ab];refine bZ (i:=0) (λs'=>s'.tmp 0= .d .cj/\s'.tmp 1= .d (.int aj 0)/\s'.tmp 2=v/\s'.tmp 6= .d (.int aj 20)/\s'.tmp 7= .d (.int aj 0)/\s'.mem=m) ?_ ?_
 ·refine gf 0 (λk s'=>s'.tmp 0= .d .cj/\s'.tmp 1= .d (.int aj 0)/\s'.tmp 2=v/\s'.tmp 6= .d (.int aj 20)/\s'.tmp 7= .d (.int aj 0)/\s'.tmp 8= .d (.int aj 20)/\s'.mem=m) ?_ ?_
  ·exact⟨rfl,rfl,rfl,rfl,rfl,rfl,rfl⟩
  rintro k s' _ ⟨g,e,h,f6,j,o,a⟩;simp only[go_sem,ab,ft,reduceCtorEq,g,e,h,f6,j,o];exact a
 rintro t ⟨g,e,h,f6,j,a⟩;simp only[go_sem,ab,g,e,h,j];refine ml (sl.toR (ZJ n l _ v (by show Im t.mem v;rw[a];exact s) (b+100))) ?_;rintro m' r ⟨rfl,rfl⟩;simp only[go_sem,PS.ke,PS.mem];refine gf 0 (λk s'=>s'.tmp 1= .d (.int aj 0)/\s'.tmp 6= .d (.int aj 20)/\s'.mem=m) ?_ ?_
 ·refine⟨?_,?_,a⟩
  ·simp only[ar,ab,bp];exact e
  simp only[ar,ab,bp];exact f6
 rintro k s' _ ⟨e,f6,a⟩;simp only[go_sem,ab,dw,reduceCtorEq,e,f6,qz,K8];show Clean s'.mem m;rw[a];exact λi=>⟨.inr ⟨rfl,rfl⟩,.inr ⟨rfl,rfl⟩⟩
end
section
variable{P:Program}(A:Pr4 P)
theorem jJ(a b:ByteArray):iv P A.oi [.str a,.str b] (.int aj (byC a b)):=by
 refine ez A.mo A.Yn (by simp) ?_;show l7 P Co (ly _ _) _;unfold byC;cases e:strLt a b
 ·have c:=e;unfold strLt at c;cases f:i6 a b
  ·have d:=f;unfold i6 at d;simp only[Co,go_sem,ab,cu,reduceCtorEq,c,d,Bool.or_self]
  have d:=f;unfold i6 at d;simp only[Co,go_sem,ab,cu,reduceCtorEq,c,d,adn]
 have c:=e;unfold strLt at c;simp only[Co,go_sem,ab,cu,reduceCtorEq,c]
theorem CJ(p q:Pm):iv P A.qq [.agg (mg p),.agg (mg q),.ym [.qb A.oi []] 0] (.int aj (byC p.n q.n)):=by
 refine ez A.mo A.Ym (by simp) ?_;show l7 P Jf (ly _ _) _;simp only[Jf,mg,go_sem,ab,ak,ao];refine Q2 (jJ A p.n q.n) ?_;simp only[go_sem,ab]
theorem CI(x y:WN):iv P A.qp [.agg (D7 x),.agg (D7 y),.ym [.qb A.oi []] 0] (.int aj (byC x.n.n y.n.n)):=by
 refine ez A.mo A.Yl (by simp) ?_;show l7 P Je (ly _ _) _;have ox:=x.ox;have oy:=x.oy;have a:=y.ox;have b:=y.oy;simp only[D.one]at ox oy a b;simp only[Je,D7,kh,go_sem,ab,ak,ao];refine ir (jJ A x.n.n y.n.n) ?_;simp only[go_sem,ab]
theorem a0f(z:WN):(D7 z).all D.one=true:=by
 simp only[D7,X8,adh,z.ox,z.oy,Ip];rfl
theorem a0z{m:Mem}{id ba q qv:Nat}{ps:List Pm}(f:ps.length<=21)(hb:m.di id=aa (.arr 2 (ps.map mg)))(h:m.ba id=ba)(g:m.di q=aa (.loc [.d (.qb A.oi [])]))(a:m.ba q=qv)(j:id≠q)(b:Nat):
  sl P A.ja m [.ref id ba ps.length,.qb A.qq [(q,qv)]] (m.put id ba (.arr 2 ((ji Pm.n ps).map mg))) (.Bb []):=by
 subst h a;refine mz A.mo A.B8 (by simp) b (λc=>?_) (Mem.Mq (bm _)) Mem.Rr (λi es e=> .inl e) (by simp[Im]);show l7 P (pe A.nu) (yu m [] _ _) _;simp only[pe,enter,go_sem,ab,reduceCtorEq,hb,al];refine ml (sl.toR (xA A.mo (fi:=A.jv) (fs:=A.iy) A.Bp A.yq A.Hj (ce:=mg) (key:=Pm.n) (λ_=>rfl) (λ_=>rfl) (CJ A) f hb rfl g rfl j (b+100))) ?_;rintro m' r ⟨rfl,rfl⟩;simp only[go_sem,PS.ke,PS.mem,qz,K8];exact λi=>⟨.inr ⟨rfl,rfl⟩,.inr ⟨rfl,rfl⟩⟩
theorem a10{m:Mem}{id ba q qv:Nat}{zs:List WN}(f:zs.length<=21)(hb:m.di id=aa (.arr 5 (zs.map D7)))(h:m.ba id=ba)(g:m.di q=aa (.loc [.d (.qb A.oi [])]))(a:m.ba q=qv)(j:id≠q)(b:Nat):
  sl P A.jd m [.ref id ba zs.length,.qb A.qp [(q,qv)]] (m.put id ba (.arr 5 ((ji (λz=>z.n.n) zs).map D7))) (.Bb []):=by
 subst h a;refine mz A.mo A.Bq (by simp) b (λc=>?_) (Mem.Mq (bm _)) Mem.Rr (λi es e=> .inl e) (by simp[Im]);show l7 P (pz A.o6) (yu m [] _ _) _;simp only[pz,enter,go_sem,ab,reduceCtorEq,hb,al];refine ml (sl.toR (xA A.mo (fi:=A.kg) (fs:=A.j1) A.C7 A.zc A.I4 (ce:=D7) (key:=λz=>z.n.n) (λ_=>rfl) a0f (CI A) f hb rfl g rfl j (b+100))) ?_;rintro m' r ⟨rfl,rfl⟩;simp only[go_sem,PS.ke,PS.mem,qz,K8];exact λi=>⟨.inr ⟨rfl,rfl⟩,.inr ⟨rfl,rfl⟩⟩
theorem xJ(m:Mem)(q qv:Nat)(e:qv<=m.ba q)(b:Nat):sl P A.ja m [.d .cj,.qb A.qq [(q,qv)]] m (.Bb []):=by
 refine mz A.mo A.B8 (by simp) b (λc=>?_) (λi=>bm _) (λi x hx=> .inl hx) (λi es a=> .inl a) (by simp[Im]);show l7 P (pe A.nu) (yu m [] _ _) _;simp only[pe,enter,go_sem,ab,reduceCtorEq];refine ml (sl.toR (xB A.mo (fi:=A.jv) (fs:=A.iy) (sz:=2) A.Bp A.yq _ _ (by simpa[Im,PS.mem]using e) (b+100))) ?_;rintro m' r ⟨rfl,rfl⟩;simp only[go_sem,PS.ke,PS.mem,qz,K8];exact λi=>⟨.inr ⟨rfl,rfl⟩,.inr ⟨rfl,rfl⟩⟩
theorem xK(m:Mem)(q qv:Nat)(e:qv<=m.ba q)(b:Nat):sl P A.jd m [.d .cj,.qb A.qp [(q,qv)]] m (.Bb []):=by
 refine mz A.mo A.Bq (by simp) b (λc=>?_) (λi=>bm _) (λi x hx=> .inl hx) (λi es a=> .inl a) (by simp[Im]);show l7 P (pz A.o6) (yu m [] _ _) _;simp only[pz,enter,go_sem,ab,reduceCtorEq];refine ml (sl.toR (xB A.mo (fi:=A.kg) (fs:=A.j1) (sz:=5) A.C7 A.zc _ _ (by simpa[Im,PS.mem]using e) (b+100))) ?_;rintro m' r ⟨rfl,rfl⟩;simp only[go_sem,PS.ke,PS.mem,qz,K8];exact λi=>⟨.inr ⟨rfl,rfl⟩,.inr ⟨rfl,rfl⟩⟩
def Sc(m:Mem)(pid:Nat)(ps:List Pm)(cP:C):Mem:=if isRef cP=ah then m.put pid (m.ba pid) (.arr 2 ((ji Pm.n ps).map mg))else m
def Sd(m:Mem)(ou:Nat)(zs:List WN)(cN:C):Mem:=if isRef cN=ah then m.put ou (m.ba ou) (.arr 5 ((ji (λz=>z.n.n) zs).map D7))else m
theorem Wb{m:Mem}{b pid ou:Nat}{ps:List Pm}{zs:List WN}{cP cN:C}(F:ps.length<=21)(E:zs.length<=21)(V:Own m pid 2 (ps.map mg) cP)(U:Own m ou 5 (zs.map D7) cN)(K:pid≠ou)(u:yg m b):
  sl P A.sr m [mkv ah [cP,cN]] (Sd (Sc m pid ps cP) ou zs cN) (mkv ah [cP,cN]):=by
 have N:∀{x},m.di pid=aa x->pid<b:=λh=>u.lt h;have M:∀{x},m.di ou=aa x->ou<b:=λh=>u.lt h
 have H:∀(y G:Mem),y.ba=m.ba->y.mp=m.mp->(∀i,b<=i->y.di i=ae)->(∀i,i<b->G.ba i=m.ba i)->G.mp=m.mp->(∀i,i<b->G.di i=y.di i)->Clean G y:=by
  intro y G O L Q R S T;refine xd (b:=b) (λi e=>⟨(T i e).symm,?_,?_⟩) (λi e=>⟨.inl (Q i e),?_⟩)
  ·rw[O,R i e]
  ·rw[L,S]
  rw[L];exact(u i e).2
 rcases V with ⟨W,rfl⟩|⟨rfl,w⟩<;>rcases U with ⟨e2,rfl⟩|⟨rfl,v⟩
 ·have g:Sd (Sc m pid ps (.d .cj)) ou zs (.d .cj)=m:=by
   simp only[Sd,Sc,isRef,gp,bp]
  rw[g];have B:(ji Pm.n ps).length=ps.length:=Al _ _;have D:(ji (λz:WN=>z.n.n) zs).length=zs.length:=Al _ _
  have a:m.ba=m.ba:=by
   rfl
  have f:∀i,b<=i->m.di i=none:=λi e=>by
   exact(u i e).1
  have k:∀i x,m.di i=aa x->m.di i=aa x\/Ni m x:=λi x hx=>by
   exact .inl hx
  refine mz A.mo A.I5 (by simp) b (λc=>?_) (λi=>by rw[a];exact bm _) k (λi es e=> .inl e) (cL λc l=>?_);rotate_left
  ·simp only[fa,kz,or_false]at l;rcases l with rfl|rfl
   ·trivial
   trivial
  show l7 P (wh A.oi A.qq A.ja A.qp A.jd) (yu m [.cell 2 2 ah] _ _) _;simp only[wh,enter,go_sem,ab,ak,ao];refine ml (sl.toR (xJ A _ _ _ ?_ (b+100))) ?_
  ·simp only[PS.mem,de];exact bm _
  rintro m' r ⟨rfl,rfl⟩;simp only[go_sem,ab,ak,PS.ke,PS.mem];refine ml (sl.toR (xK A _ _ _ ?_ (b+100))) ?_
  ·simp only[PS.mem,ar]
   (try rw[aq (by lia)])
   simp only[da];exact bm _
  rintro m' r ⟨rfl,rfl⟩;simp only[go_sem,ab,ak,PS.ke,PS.mem,qz,uq];refine H _ _ a rfl f (λi e=>?_) ?_ (λi e=>?_)
  ·simp only[ar]
   (repeat' split)<;>first|rfl|lia|(subst_vars;first|rfl|lia)
  ·rfl
  simp only[ar]
  (repeat' split)<;>first|rfl|lia|(subst_vars;first|rfl|lia)
 ·have g:Sd (Sc m pid ps (.d .cj)) ou zs (.ref ou (m.ba ou) (zs.map D7).length)=(m.put ou (m.ba ou) (.arr 5 ((ji (λz=>z.n.n) zs).map D7))):=by
   simp only[Sd,Sc,isRef,da,gp,bp]
  rw[g];have B:(ji Pm.n ps).length=ps.length:=Al _ _;have D:(ji (λz:WN=>z.n.n) zs).length=zs.length:=Al _ _;have I:=M v
  have q:ou≠b+3:=by lia
  have o:ou≠b+1:=by lia
  have p:ou≠b+2:=by lia
  have a:(m.put ou (m.ba ou) (.arr 5 ((ji (λz=>z.n.n) zs).map D7))).ba=m.ba:=by
   funext i
   simp only[Mem.put,ar]
   (repeat' split)<;>first|rfl|(subst_vars;rfl)
  have f:∀i,b<=i->(m.put ou (m.ba ou) (.arr 5 ((ji (λz=>z.n.n) zs).map D7))).di i=none:=λi e=>by
   simp only[Mem.put,ar]
   (repeat' rw[aq (by lia)])
   exact(u i e).1
  have k:∀i x,(m.put ou (m.ba ou) (.arr 5 ((ji (λz=>z.n.n) zs).map D7))).di i=aa x->m.di i=aa x\/Ni (m.put ou (m.ba ou) (.arr 5 ((ji (λz=>z.n.n) zs).map D7))) x:=λi x hx=>by
   simp only[Mem.put,ar]at hx
   (repeat' split at hx)<;>first|exact .inl hx|(injection hx with hx;subst hx;exact .inr trivial)
  refine mz A.mo A.I5 (by simp) b (λc=>?_) (λi=>by rw[a];exact bm _) k (λi es e=> .inl e) (cL λc l=>?_);rotate_left
  ·simp only[fa,kz,or_false]at l;rcases l with rfl|rfl
   ·trivial
   show m.ba ou<=(m.put ou (m.ba ou) (.arr 5 ((ji (λz=>z.n.n) zs).map D7))).ba ou;rw[a];exact bm _
  show l7 P (wh A.oi A.qq A.ja A.qp A.jd) (yu m [.cell 2 2 ah] _ _) _;simp only[wh,enter,go_sem,ab,ak,ao,al];refine ml (sl.toR (xJ A _ _ _ ?_ (b+100))) ?_
  ·simp only[PS.mem,de];exact bm _
  rintro m' r ⟨rfl,rfl⟩;simp only[go_sem,ab,ak,PS.ke,PS.mem,Mem.put];refine ml (sl.toR (a10 A E ?_ ?_ ?_ ?_ q (b+100))) ?_
  ·simp only[PS.mem,ar]
   (repeat' rw[aq (by lia)])
   exact v
  ·simp only[PS.mem,ar]
   (repeat' rw[aq (by lia)])
  ·simp only[PS.mem,ar]
   (try rw[aq (by lia)])
   simp only[da]
  ·simp only[PS.mem,ar]
   (try rw[aq (by lia)])
   simp only[da]
  rintro m' r ⟨rfl,rfl⟩;simp only[go_sem,ab,ak,PS.ke,PS.mem,Mem.put,ff,al,qz,uq,v,q,o,p,o.symm,p.symm,D];refine H _ _ a rfl f (λi e=>?_) ?_ (λi e=>?_)
  ·simp only[ar]
   (repeat' split)<;>first|rfl|lia|(subst_vars;first|rfl|lia)
  ·rfl
  simp only[ar]
  (repeat' split)<;>first|rfl|lia|(subst_vars;first|rfl|lia)
 ·have g:Sd (Sc m pid ps (.ref pid (m.ba pid) (ps.map mg).length)) ou zs (.d .cj)=(m.put pid (m.ba pid) (.arr 2 ((ji Pm.n ps).map mg))):=by
   simp only[Sd,Sc,isRef,da,gp,bp]
  rw[g];have B:(ji Pm.n ps).length=ps.length:=Al _ _;have D:(ji (λz:WN=>z.n.n) zs).length=zs.length:=Al _ _;have J:=N w
  have t:pid≠b+3:=by lia
  have j:pid≠b+1:=by lia
  have s:pid≠b+2:=by lia
  have a:(m.put pid (m.ba pid) (.arr 2 ((ji Pm.n ps).map mg))).ba=m.ba:=by
   funext i
   simp only[Mem.put,ar]
   (repeat' split)<;>first|rfl|(subst_vars;rfl)
  have f:∀i,b<=i->(m.put pid (m.ba pid) (.arr 2 ((ji Pm.n ps).map mg))).di i=none:=λi e=>by
   simp only[Mem.put,ar]
   (repeat' rw[aq (by lia)])
   exact(u i e).1
  have k:∀i x,(m.put pid (m.ba pid) (.arr 2 ((ji Pm.n ps).map mg))).di i=aa x->m.di i=aa x\/Ni (m.put pid (m.ba pid) (.arr 2 ((ji Pm.n ps).map mg))) x:=λi x hx=>by
   simp only[Mem.put,ar]at hx
   (repeat' split at hx)<;>first|exact .inl hx|(injection hx with hx;subst hx;exact .inr trivial)
  refine mz A.mo A.I5 (by simp) b (λc=>?_) (λi=>by rw[a];exact bm _) k (λi es e=> .inl e) (cL λc l=>?_);rotate_left
  ·simp only[fa,kz,or_false]at l;rcases l with rfl|rfl
   ·show m.ba pid<=(m.put pid (m.ba pid) (.arr 2 ((ji Pm.n ps).map mg))).ba pid;rw[a];exact bm _
   trivial
  show l7 P (wh A.oi A.qq A.ja A.qp A.jd) (yu m [.cell 2 2 ah] _ _) _;simp only[wh,enter,go_sem,ab,ak,ao,al];refine ml (sl.toR (a0z A F ?_ ?_ ?_ ?_ t (b+100))) ?_
  ·simp only[PS.mem,ar]
   (repeat' rw[aq (by lia)])
   exact w
  ·simp only[PS.mem,ar]
   (repeat' rw[aq (by lia)])
  ·simp only[PS.mem,ar,da]
  ·simp only[PS.mem,ar,da]
  rintro m' r ⟨rfl,rfl⟩;simp only[go_sem,ab,ak,PS.ke,PS.mem,Mem.put,j.symm];refine ml (sl.toR (xK A _ _ _ ?_ (b+100))) ?_
  ·simp only[PS.mem,ar]
   (try rw[aq (by lia)])
   simp only[da];exact bm _
  rintro m' r ⟨rfl,rfl⟩;simp only[go_sem,ab,ak,PS.ke,PS.mem,ff,al,qz,uq,w,t,j,s,j.symm,s.symm,B];refine H _ _ a rfl f (λi e=>?_) ?_ (λi e=>?_)
  ·simp only[ar]
   (repeat' split)<;>first|rfl|lia|(subst_vars;first|rfl|lia)
  ·rfl
  simp only[ar]
  (repeat' split)<;>first|rfl|lia|(subst_vars;first|rfl|lia)
 have g:Sd (Sc m pid ps (.ref pid (m.ba pid) (ps.map mg).length)) ou zs (.ref ou (m.ba ou) (zs.map D7).length)=((m.put pid (m.ba pid) (.arr 2 ((ji Pm.n ps).map mg))).put ou (m.ba ou) (.arr 5 ((ji (λz=>z.n.n) zs).map D7))):=by
  simp only[Sd,Sc,isRef,da];simp only[Mem.put,ie _ _ _ _ K.symm]
 rw[g];have B:(ji Pm.n ps).length=ps.length:=Al _ _;have D:(ji (λz:WN=>z.n.n) zs).length=zs.length:=Al _ _;have J:=N w
 have t:pid≠b+3:=by lia
 have j:pid≠b+1:=by lia
 have s:pid≠b+2:=by lia
 have I:=M v
 have q:ou≠b+3:=by lia
 have o:ou≠b+1:=by lia
 have p:ou≠b+2:=by lia
 have a:((m.put pid (m.ba pid) (.arr 2 ((ji Pm.n ps).map mg))).put ou (m.ba ou) (.arr 5 ((ji (λz=>z.n.n) zs).map D7))).ba=m.ba:=by
  funext i
  simp only[Mem.put,ar]
  (repeat' split)<;>first|rfl|(subst_vars;rfl)
 have f:∀i,b<=i->((m.put pid (m.ba pid) (.arr 2 ((ji Pm.n ps).map mg))).put ou (m.ba ou) (.arr 5 ((ji (λz=>z.n.n) zs).map D7))).di i=none:=λi e=>by
  simp only[Mem.put,ar]
  (repeat' rw[aq (by lia)])
  exact(u i e).1
 have k:∀i x,((m.put pid (m.ba pid) (.arr 2 ((ji Pm.n ps).map mg))).put ou (m.ba ou) (.arr 5 ((ji (λz=>z.n.n) zs).map D7))).di i=aa x->m.di i=aa x\/Ni ((m.put pid (m.ba pid) (.arr 2 ((ji Pm.n ps).map mg))).put ou (m.ba ou) (.arr 5 ((ji (λz=>z.n.n) zs).map D7))) x:=λi x hx=>by
  simp only[Mem.put,ar]at hx
  (repeat' split at hx)<;>first|exact .inl hx|(injection hx with hx;subst hx;exact .inr trivial)
 refine mz A.mo A.I5 (by simp) b (λc=>?_) (λi=>by rw[a];exact bm _) k (λi es e=> .inl e) (cL λc l=>?_);rotate_left
 ·simp only[fa,kz,or_false]at l;rcases l with rfl|rfl
  ·show m.ba pid<=((m.put pid (m.ba pid) (.arr 2 ((ji Pm.n ps).map mg))).put ou (m.ba ou) (.arr 5 ((ji (λz=>z.n.n) zs).map D7))).ba pid;rw[a];exact bm _
  show m.ba ou<=((m.put pid (m.ba pid) (.arr 2 ((ji Pm.n ps).map mg))).put ou (m.ba ou) (.arr 5 ((ji (λz=>z.n.n) zs).map D7))).ba ou;rw[a];exact bm _
 show l7 P (wh A.oi A.qq A.ja A.qp A.jd) (yu m [.cell 2 2 ah] _ _) _;simp only[wh,enter,go_sem,ab,ak,ao,al];refine ml (sl.toR (a0z A F ?_ ?_ ?_ ?_ t (b+100))) ?_
 ·simp only[PS.mem,ar]
  (repeat' rw[aq (by lia)])
  exact w
 ·simp only[PS.mem,ar]
  (repeat' rw[aq (by lia)])
 ·simp only[PS.mem,ar,da]
 ·simp only[PS.mem,ar,da]
 rintro m' r ⟨rfl,rfl⟩;simp only[go_sem,ab,ak,PS.ke,PS.mem,Mem.put,j.symm];refine ml (sl.toR (a10 A E ?_ ?_ ?_ ?_ q (b+100))) ?_
 ·simp only[PS.mem,ar]
  (repeat' rw[aq (by lia)])
  exact v
 ·simp only[PS.mem,ar]
  (repeat' rw[aq (by lia)])
 ·simp only[PS.mem,ar]
  (try rw[aq (by lia)])
  simp only[da]
 ·simp only[PS.mem,ar]
  (try rw[aq (by lia)])
  simp only[da]
 rintro m' r ⟨rfl,rfl⟩;simp only[go_sem,ab,ak,PS.ke,PS.mem,Mem.put,ff,al,qz,uq,w,t,j,s,j.symm,s.symm,B,v,q,o,p,o.symm,p.symm,D,K,K.symm];refine H _ _ a rfl f (λi e=>?_) ?_ (λi e=>?_)
 ·simp only[ar]
  (repeat' split)<;>first|rfl|lia|(subst_vars;first|rfl|lia)
 ·rfl
 simp only[ar]
 (repeat' split)<;>first|rfl|lia|(subst_vars;first|rfl|lia)
end
def tn(t:Tr)(e:G7):Tr×Int:=
 if e.k=0 then(if ku t e.n<0 then(t,4)else(⟨V0 t.ps (ku t e.n).toNat e.v,t.ns⟩,0))
 else if e.k=1 then(if ku t e.n<0 then(⟨t.ps++[⟨e.n,e.v⟩],t.ns⟩,0)else(t,7))
 else if e.k=2 then(if ku t e.n<0 then(t,4)else(⟨t.ps.eraseIdx (ku t e.n).toNat,t.ns⟩,0))
 else if e.k=3 then(if ur t e.nd.n<0 then(⟨t.ps,t.ns++[e.nd]⟩,0)else(⟨t.ps,t.ns.set (ur t e.nd.n).toNat e.nd⟩,0))
 else if e.k=4 then(if ur t e.n<0 then(t,4)else(⟨t.ps,t.ns.eraseIdx (ur t e.n).toNat⟩,0))
 else if e.k=5 then(if ur t e.n<0 then(t,4)else if ur t e.t<0 then(Mo t e (ur t e.n).toNat,0)else(t,7))
 else(if ku t e.n<0 then(t,4)else if ku t e.t<0 then(K9 t e (ku t e.n).toNat,0)else(t,7))
def H6(t:Tr):Tr:=⟨ji Pm.n t.ps,ji Nd.n t.ns⟩
def applyN(pr:List (List Sp)->Bool)(t:Tr)(e:G7):Tr×Int:=
 if e.k<0\/7<=e.k then(⟨[],[]⟩,1)
 else if(tn t e).2≠0 then(⟨[],[]⟩,(tn t e).2)
 else if yj pr (H6 (tn t e).1)=ah then(H6 (tn t e).1,0)else(⟨[],[]⟩,230)
theorem MJ{α β:Type}(key:β->ByteArray)(f:α->β)(l:List α):(ji (λx=>key (f x)) l).map f=ji key (l.map f):=by
 have ins:∀(r:List α) (x:α),(tp (λx=>key (f x)) r x).map f=tp key (r.map f) (f x):=by
  intro r x
  induction r with
  |nil=>rfl
  |cons y r a=>
   simp only[tp,du];split
   ·rw[du,a]
   rfl
 have:∀r:List α,(ji (λx=>key (f x)) r.reverse).map f=ji key (r.reverse.map f):=by
  intro r
  induction r with
  |nil=>rfl
  |cons x r a=>rw[oq,Bv,fj,du,ic,Bv,JD,ins,JD,a]
 have h:=this l.reverse
 rwa[ue]at h
theorem Wk.Bb{xs ys:List D}(e:xs.length=ys.length)(h:∀(i:Nat) (x y:D),xs[i]? =aa x->ys[i]? =aa y->Wk x y):Wk (.Bb xs) (.Bb ys):=by
 intro G v c
 cases c with
 | @Bb _ vs f d=>
  refine .Bb (by lia) λi y u hy b=>?_
  have a:i<xs.length:=by have:=(bd.1 hy).1;lia
  exact h i xs[i] y (bh a) hy G u (d i _ u (bh a) b)
theorem Mn{x d y:D}(h:Wk x d):Wk (.Bb [x,y]) (.Bb [d,y]):=by
 refine Wk.Bb rfl λi a b c hb=>?_
 match i with
 |0=>simp at c hb;subst c hb;exact h
 |1=>simp at c hb;subst c hb;exact Wk.refl _
 |i+2=>simp at c
def Ve{P:Program}(A:Pr4 P):List D:=[.qb A.ti [],.qb A.th [],.qb A.tg [],.qb A.tf [],.qb A.te [],.qb A.p8 [],.qb A.o9 []]
def Vf{P:Program}(A:Pr4 P)(k:Int):Nat:=
 if k=0 then A.ti else if k=1 then A.th else if k=2 then A.tg else if k=3 then A.tf else if k=4 then A.te else if k=5 then A.p8 else A.o9
section
variable{P:Program}(A:Pr4 P)
theorem jL:iv P A.zy [] (.agg (Ve A)):=by
 refine ez A.mo A.iA (by simp) ?_;show l7 P (O5 A.ti A.th A.tg A.tf A.te A.p8 A.o9) (ly _ _) _;simp only[O5,Ve,go_sem,ak,ao,reduceCtorEq]
theorem YW{k:Nat}(a:k<7):(Ve A)[k]? =aa (.qb (Vf A k) []):=by
 match k,a with
 |0,_=>rfl
 |1,_=>rfl
 |2,_=>rfl
 |3,_=>rfl
 |4,_=>rfl
 |5,_=>rfl
 |6,_=>rfl
theorem a57(t:Tr)(e:G7)(c:e.k<0\/7<=e.k):iv P A.ql [.agg (vt t),.agg (nk e)] (.Bb [.agg [.cj,.cj],.int aj 1]):=by
 refine ez A.mo A.Ub (by simp) ?_;show l7 P (D9 A.zy A.lz A.sr A.ll) (ly _ _) _;by_cases a:e.k<0
 ·simp only[D9,vt,nk,ki,lr,go_sem,ab,ak,ao,reduceCtorEq,a]
 have b:e.k>=7:=by lia
 simp only[D9,vt,nk,ki,lr,go_sem,ab,ak,ao,reduceCtorEq,a];refine Ic (jL A) ?_;simp only[Ve,go_sem,ab,ak,reduceCtorEq,b]
end
section
variable{P:Program}{K:PS->Prop}{s:PS}{r:List RI}{af:List Nat}
theorem LP{old cs:List C}(h:cs.length=old.length):patch old 0 cs=cs:=by
 unfold patch;rw[My,ub,gj,h,Qa,pt]
theorem yJ{t x n id ba:Nat}{cs old:List C}(hx:(s.tmp x).cells s=aa cs)(c:s.tmp t= .gz id ba 0)(d:s.cs id ba=aa old)(e:old.length=n)(a:cs.length=n)(b:cs.all (C.one s)=ah)
  (h:mc P r {s with di:=lu s.di id (aa (.loc cs))} K):mc P (⟨ae,.store n (.t t) (.t x),ae,af⟩::r) s K:=by
 rw[HJ];simp only[lg.qi,AL,hx,c,Ac,d];rw[bc ⟨b,a,by lia⟩,Dk,LP (by lia)];exact h
end
theorem Dw.XY{s:PS}{m:Mem}{b:Nat}{t:Tr}{cs:List C}(h:Dw m b t cs)(d:s.mem=m):cs.all (C.one s)=true:=by
 subst d;obtain⟨cP,cN,cells,rfl,e,c,hN⟩:=h
 have a:C.one s cN=true:=by
  rcases hN with ⟨_,rfl⟩|⟨_,rfl,hb⟩
  ·rfl
  have f:s.di (b+51)=aa (.ru 5 cells):=hb;simp[C.one,V.live,PS.K2,PS.mem,f,B.Ei,c.1]
 simp only[X8,adh,e.one,a,Ip]
theorem Dw.len{m:Mem}{b:Nat}{t:Tr}{cs:List C}(h:Dw m b t cs):cs.length=2:=by
 obtain⟨_,_,_,rfl,_⟩:=h;rfl
theorem AE{s:PS}{ids:List Nat}{j:Nat}(h:s.di j=ae):Hm s ids j=none:=by
 unfold Hm;rw[h]
theorem ET{s:PS}{ids:List Nat}{j sz:Nat}{dv:List (List D)}(h:s.di j=aa (.arr sz dv)):Hm s ids j=aa (.arr sz dv):=by
 unfold Hm;rw[h]
theorem AF{s:PS}{ids:List Nat}{j:Nat}{ds:List D}(h:s.di j=aa (.loc (ds.map .d))):Hm s ids j=aa (.loc (ds.map .d)):=by
 unfold Hm;rw[h];simp only[JE];rfl
theorem AB{s:PS}{ids:List Nat}{c:C}(h:∀i v l,c= .ref i v l->i∉ids)(a:∀i v,c≠ .o8 i v):C.x7 s ids c=c:=by
 cases c with
 |d x=>rfl
 |ref i v l=>simp only[C.x7,aq (h i v l rfl)]
 |o8 i v=>exact absurd rfl (a i v)
 |ptr i v o=>rfl
theorem VD(l:List (List D)):fV (l.map (·.map .d))=aa l:=by
 induction l with
 |nil=>rfl
 |cons e r a=>simp only[du,fV,bD,a]
theorem Vs{s:PS}{ids:List Nat}:(s.x7 ids).ba=s.ba:=by
 by_cases h:ids=[]
 ·rw[h];rfl
 exact aK h
theorem Sz{s:PS}{ids:List Nat}{t i v o:Nat}(h:s.tmp t= .gz i v o):(s.x7 ids).tmp t= .gz i v o:=by
 by_cases a:ids=[]
 ·rw[a];exact h
 rw[Dl a,h];rfl
theorem fK{s:PS}{B0 u b:Nat}{t:Tr}{cs:List C}(B:Dw s.mem B0 t cs)(x:s.di u=aa (.loc cs))(E:u<B0)(G:B0+96+64*t.ns.length+64<=b)(f:yg s.mem b):
  ∃zs:List WN,zs.map WN.n=t.ns/\U4 (s.x7 (F5 (B0+32) t.ns.length)).mem u (u+1) t.ps zs/\(∀j,j<B0->∀ds:List D,s.di j=aa (.loc (ds.map .d))->(s.x7 (F5 (B0+32) t.ns.length)).di j=aa (.loc (ds.map .d)))/\
   yg (s.x7 (F5 (B0+32) t.ns.length)).mem b:=by
 obtain⟨cP,cN,cells,rfl,q,A,hN⟩:=B;obtain⟨zs,m,_,z3⟩:=A.data
 generalize r:F5 (B0+32) t.ns.length=ids at*
 have c:∀i,i∈ids->B0+96<=i/\i<b:=λi a=>by
  rw[<-r]at a;obtain⟨k,I,h|h⟩:=Wh.1 a<;>lia
 have hP:C.x7 s ids cP=cP:=AB (λi v l h a=>by
  have:=c i a;rcases q with ⟨_,rfl⟩|⟨rfl,_⟩
  ·cases h
  ·injection h with h;lia) (λi v h=>by
  rcases q with ⟨_,rfl⟩|⟨rfl,_⟩<;>cases h)
 have p:C.x7 s ids cN=cN:=AB (λi v l h a=>by
  have:=c i a;rcases hN with ⟨_,rfl⟩|⟨_,rfl,_⟩
  ·cases h
  ·injection h with h;lia) (λi v h=>by
  rcases hN with ⟨_,rfl⟩|⟨_,rfl,_⟩<;>cases h)
 have y:(s.x7 ids).di u=aa (.loc [cP,cN]):=by
  by_cases h:ids=[]
  ·rw[h];exact x
  rw[L9 h (λa=>by have:=c u a;lia)]
  unfold Hm;rw[x];simp only[du,ic,hP,p]
 refine⟨zs,m,⟨B0+15,B0+51,cP,cN,by lia,by lia,by lia,y,?_,?_⟩,λj H ds w=>?_,λi a=>?_⟩
 ·rcases q with ⟨z,rfl⟩|⟨rfl,hb⟩
  ·exact .inl ⟨z,rfl⟩
  have g:s.di (B0+15)=aa (.arr 2 (t.ps.map mg)):=hb;refine .inr ⟨?_,?_⟩
  ·show C.ref (B0+15) (s.ba (B0+15)) _=C.ref (B0+15) ((s.x7 ids).ba (B0+15)) _;rw[Vs]
  show(s.x7 ids).di _=_;by_cases h:ids=[]
  ·rw[h];exact g
  rw[L9 h (λa=>by have:=c _ a;lia)]
  exact ET g
 ·rcases hN with ⟨e,rfl⟩|⟨e,rfl,hb⟩
  ·refine .inl ⟨?_,rfl⟩;rw[e]at m;rw[fw.1 m];rfl
  have g:s.di (B0+51)=aa (.ru 5 cells):=hb
  have F:ids≠[]:=by
   rw[<-r];intro h;obtain⟨n,J⟩:∃n,t.ns.length=n+1:=⟨t.ns.length-1,by have:=W8.2 e;lia⟩;have:B0+32+64+64*0+45∈F5 (B0+32) t.ns.length:=Wh.2 ⟨0,by lia,.inl rfl⟩;rw[h]at this;cases this
  refine .inr ⟨?_,?_⟩
  ·show C.ref (B0+51) (s.ba (B0+51)) _=C.ref (B0+51) ((s.x7 ids).ba (B0+51)) _;rw[Vs,al,<-m,al]
  show(s.x7 ids).di _=_
  rw[L9 F (λa=>by have:=c _ a;lia)]
  unfold Hm;rw[g];simp only[z3,Zn,VD]
 ·by_cases h:ids=[]
  ·rw[h];exact w
  rw[L9 h (λa=>by have:=c _ a;lia)]
  exact AF w
 refine⟨?_,?_⟩
 ·show(s.x7 ids).di i=ae;by_cases h:ids=[]
  ·rw[h];exact(f i a).1
  rw[L9 h (λo=>by have:=c _ o;lia)]
  exact AE (f i a).1
 show(s.x7 ids).mp i=ae;by_cases h:ids=[]
 ·rw[h];exact(f i a).2
 rw[vD h (λo=>by have:=c _ o;lia)]
 unfold rH;rw[show s.mp i=ae from(f i a).2];rfl
def EZ(a:List K1)(r:D):Exit->PS->Prop:=λe s=>(e= .normal\/e= .ret)/\∃x,bY s a=aa x/\Wk x r
theorem TN{a:List K1}{r:D}{s:PS}:EZ a r .ret s=∃x,bY s a=aa x/\Wk x r:=by simp[EZ]
theorem AP{a:List K1}{r:D}{s:PS}:EZ a r .normal s=∃x,bY s a=aa x/\Wk x r:=by simp[EZ]
attribute [go_sem] TN AP
def OC(sr:Nat):eh:=
 .region
   [⟨aa 31,.load 2 ah (.t 6),ae,[]⟩,
   ⟨aa 32,.ua sr [(.t 31)],ae,[]⟩,
   ⟨ae,.store 2 (.t 6) (.t 32),ae,[]⟩] ag []
def OB(ll:Nat):eh:=
 (.seq
   (
   (.seq (
   .region [⟨aa 33,.load 2 ah (.t 6),ae,[]⟩,
    ⟨aa 34,.call ll [(.t 33)],ae,[]⟩,
    ⟨aa 35,.bin .neq (.t 34) (.c (.int aj 0)),ae,[]⟩] ag []) (
   (.cond (.t 35) (
    (.seq (
    .region [⟨aa 36,.build [.cj,.cj] [],ae,[]⟩,
     ⟨ae,.store 2 (.t 4) (.t 36),ae,[]⟩,
     ⟨aa 5,.kf (.c (.int aj 230)),ae,[]⟩] ag []) (
    .ret))) (
    .skip))))) (
   (.seq (
   .region [⟨aa 37,.load 2 ah (.t 6),ae,[]⟩,
    ⟨ae,.store 2 (.t 4) (.t 37),ae,[]⟩,
    ⟨aa 5,.kf (.c (.int aj 0)),ae,[]⟩] ag []) (
   .ret))))
section
variable{P:Program}(A:Pr4 P)
theorem a0l{pr:List (List Sp)->Bool}(O:Mk A.toPr pr){u:Tr}{zs:List WN}{e:PS}{b:Nat}(H:e.base=0)(t:e.tmp 4= .gz 4 (e.ba 4) 0)(b4:e.di 4=aa (.loc [.d .cj,.d .cj]))(k:e.tmp 6= .gz 6 (e.ba 6) 0)(K:U4 e.mem 6 7 u.ps zs)(hz:zs.map WN.n=u.ns)
  (I:yg e.mem b)(q:u.ps.length<=21)(p:zs.length<=21)(S:Om (H6 u)):
  l7 P (OC A.sr) (Z1 P (OB A.ll) (EZ [.cell 4 2 ah,.tmp 5] (.Bb [.agg (vt (if yj pr (H6 u)=ah then H6 u else⟨[],[]⟩)),.int aj (if yj pr (H6 u)=ah then 0 else 230)]))) e:=by
 obtain⟨pid,ou,cP,cN,W,V,o,b6,U,T⟩:=K;replace b6:e.di 6=aa (.loc [cP,cN]):=b6
 have M:(ji (λz=>z.n.n) zs).map WN.n=ji Nd.n u.ns:=by rw[MJ Nd.n WN.n,hz]
 have s:Wk (.gd 5 ((ji (λz=>z.n.n) zs).map D7)) (lr (ji Nd.n u.ns)):=by rw[<-M];exact Jp _
 have F:∀x y,Wk x (ki (ji Pm.n u.ps))->Wk y (lr (ji Nd.n u.ns))->iv P A.ll [.agg [x,y]] (.int aj (if yj pr (H6 u)then 0 else 230)):=λx y hx hy=>
  (jN A.toPr2 O (H6 u) S).args rfl λi a c L R=>by
   match i with
   |0=>simp at L R;subst L R;exact Lw hx hy
   |i+1=>simp at L
 have B:(ji Pm.n u.ps).length=u.ps.length:=Al _ _;have C:(ji (λz:WN=>z.n.n) zs).length=zs.length:=Al _ _;rcases U with ⟨G,rfl⟩|⟨rfl,D⟩<;>rcases T with ⟨e2,rfl⟩|⟨rfl,E⟩
 ·have l:Wk .cj (ki (ji Pm.n u.ps)):=by rw[fw.1 G];exact Wk.cj
  have m:Wk .cj (lr (ji Nd.n u.ns)):=by
   rw[<-hz,fw.1 e2];exact Wk.cj
  simp only[OC,go_sem,ak,H,k,b6];refine ml (sl.toR (Wb A (pid:=pid) (ou:=ou) (ps:=u.ps) (zs:=zs) (b:=b) (cP:= .d .cj) (cN:= .d .cj) q p (.inl ⟨G,rfl⟩) (.inl ⟨e2,rfl⟩) o I)) ?_;rintro m' r ⟨rfl,rfl⟩;simp only[OB,Sd,Sc,isRef,go_sem,ab,ak,PS.ke,PS.mem,Mem.put,k,b6];refine jn (ds:=[.agg [.cj,.cj]]) ?_ (F _ _ l m) rfl ?_
  ·simp only[go_sem]
  cases J:yj pr (H6 u)
  ·simp only[go_sem,ab,mj,ak,reduceCtorEq,t,b4];exact⟨_,rfl,Mn (Lw Wk.cj Wk.cj)⟩
  simp only[go_sem,ab,mj,ak,reduceCtorEq,t,b4,k,b6];exact⟨_,rfl,Mn (Lw l m)⟩
 ·have l:Wk .cj (ki (ji Pm.n u.ps)):=by rw[fw.1 G];exact Wk.cj
  have f:ou≠6:=by lia
  have h:ou≠4:=by lia
  have v:e.di ou=aa (.arr 5 (zs.map D7)):=E;have N:e.mem.ba ou=e.ba ou:=rfl;simp only[OC,go_sem,ak,H,k,b6,al];refine ml (sl.toR (Wb A (pid:=pid) (ou:=ou) (ps:=u.ps) (zs:=zs) (b:=b) (cP:= .d .cj) (cN:= .ref ou (e.mem.ba ou) zs.length) q p (.inl ⟨G,rfl⟩) (.inr ⟨by rw[al];rfl,E⟩) o I)) ?_;rintro m' r ⟨rfl,rfl⟩;simp only[OB,Sd,Sc,isRef,go_sem,ab,ak,PS.ke,PS.mem,Mem.put,ff,al,k,b6,v,f.symm,C];refine jn (ds:=[.agg [.cj,.gd 5 ((ji (λz=>z.n.n) zs).map D7)]]) ?_ (F _ _ l s) rfl ?_
  ·simp only[go_sem,al,k9,ow,v,f,C]
  cases J:yj pr (H6 u)
  ·simp only[go_sem,ab,mj,ak,reduceCtorEq,t,b4,h.symm];exact⟨_,rfl,Mn (Lw Wk.cj Wk.cj)⟩
  simp only[go_sem,ab,mj,ak,reduceCtorEq,PS.mem,ff,al,t,b4,k,b6,Qh,Rs,v,f,h,f.symm,h.symm,C];exact⟨_,rfl,Mn (Lw l s)⟩
 ·have g:pid≠6:=by lia
  have j:pid≠4:=by lia
  have m:Wk .cj (lr (ji Nd.n u.ns)):=by
   rw[<-hz,fw.1 e2];exact Wk.cj
  have w:e.di pid=aa (.arr 2 (u.ps.map mg)):=D;have Q:e.mem.ba pid=e.ba pid:=rfl;simp only[OC,go_sem,ak,H,k,b6,al];refine ml (sl.toR (Wb A (pid:=pid) (ou:=ou) (ps:=u.ps) (zs:=zs) (b:=b) (cP:= .ref pid (e.mem.ba pid) u.ps.length) (cN:= .d .cj) q p (.inr ⟨by rw[al];rfl,D⟩) (.inl ⟨e2,rfl⟩) o I)) ?_;rintro m' r ⟨rfl,rfl⟩;simp only[OB,Sd,Sc,isRef,go_sem,ab,ak,PS.ke,PS.mem,Mem.put,ff,al,k,b6,w,g.symm,B];refine jn (ds:=[.agg [.gd 2 ((ji Pm.n u.ps).map mg),.cj]]) ?_ (F _ _ (Wk.refl _) m) rfl ?_
  ·simp only[go_sem,al,k9,ow,w,g,B]
  cases J:yj pr (H6 u)
  ·simp only[go_sem,ab,mj,ak,reduceCtorEq,t,b4,j.symm];exact⟨_,rfl,Mn (Lw Wk.cj Wk.cj)⟩
  simp only[go_sem,ab,mj,ak,reduceCtorEq,PS.mem,ff,al,t,b4,k,b6,Qh,Rs,w,g,j,g.symm,j.symm,B];exact⟨_,rfl,Mn (Lw (Wk.refl _) m)⟩
 have g:pid≠6:=by lia
 have j:pid≠4:=by lia
 have f:ou≠6:=by lia
 have h:ou≠4:=by lia
 have w:e.di pid=aa (.arr 2 (u.ps.map mg)):=D;have Q:e.mem.ba pid=e.ba pid:=rfl;have v:e.di ou=aa (.arr 5 (zs.map D7)):=E;have N:e.mem.ba ou=e.ba ou:=rfl;simp only[OC,go_sem,ak,H,k,b6,al];refine ml (sl.toR (Wb A (pid:=pid) (ou:=ou) (ps:=u.ps) (zs:=zs) (b:=b) (cP:= .ref pid (e.mem.ba pid) u.ps.length) (cN:= .ref ou (e.mem.ba ou) zs.length) q p (.inr ⟨by rw[al];rfl,D⟩) (.inr ⟨by rw[al];rfl,E⟩) o I)) ?_;rintro m' r ⟨rfl,rfl⟩;simp only[OB,Sd,Sc,isRef,go_sem,ab,ak,PS.ke,PS.mem,Mem.put,ff,al,k,b6,w,g.symm,B,v,f.symm,C,o,o.symm];refine jn (ds:=[.agg [.gd 2 ((ji Pm.n u.ps).map mg),.gd 5 ((ji (λz=>z.n.n) zs).map D7)]]) ?_ (F _ _ (Wk.refl _) s) rfl ?_
 ·simp only[go_sem,al,k9,ow,w,g,B,v,f,C,o,o.symm]
 cases J:yj pr (H6 u)
 ·simp only[go_sem,ab,mj,ak,reduceCtorEq,t,b4,j.symm,h.symm];exact⟨_,rfl,Mn (Lw Wk.cj Wk.cj)⟩
 simp only[go_sem,ab,mj,ak,reduceCtorEq,PS.mem,ff,al,t,b4,k,b6,Qh,Rs,w,g,j,g.symm,j.symm,B,v,f,h,f.symm,h.symm,C,o,o.symm];exact⟨_,rfl,Mn (Lw (Wk.refl _) s)⟩
end
theorem nI.Nl{P:Program}{f:Nat}{args:List D}{r:D}(h:nI P f args λx=>Wk x r):iv P f args r:=
 ⟨h.1,λG w vs a b c=>(h.2 G w vs a b c).mono λ_ _ ⟨v,G',x,d,e,g,i,j,k,l⟩=>⟨v,G',d,g,i,j,k,e G' v l⟩⟩
def FO(P:Program)(v:V)(args:List V)(d:Option Nat)(s:PS)(K:PS->Prop):Prop:=
 match v with
 | .d (.qb g j9)=>AS P g (args++j9.map .d) d s K
 |_=>False
theorem FN{P:Program}{s:PS}{K:PS->Prop}{d:Option Nat}{g:Nat}{j9:List D}{args:List V}:FO P (.d (.qb g j9)) args d s K=AS P g (args++j9.map .d) d s K:=rfl
theorem RJ{P:Program}{s:PS}{K:PS->Prop}{d:Option Nat}{r:List RI}{b:List Nat}{f:ov}{args:List ov}:mc P (⟨d,.Od f args,ae,b⟩::r) s K=FO P (f.ev s) (args.map (·.ev s)) d s (Bo P r K):=by
 show(match f.ev s with| .d (.qb g j9)=>∃m' a,sl P g s.mem ((args.map λx:ov=>x.ev s)++j9.map V.d) m' a/\Bo P r K ((s.ke m').put d a)|_=>False)=_
 unfold FO;split<;>rfl
attribute [go_sem] RJ FN
def Oe(e:G7):Prop:=Ur e.nd
def Og(t:Tr):Prop:=t.ps.length<=20/\t.ns.length<=20/\∀n∈t.ns,Ur n
theorem Og.xm{t:Tr}(h:Og t):Mid t:=⟨by have:=h.1;lia,by have:=h.2.1;lia,h.2.2⟩
def VJ(t:Tr)(e:G7)(s':PS):Prop:=
 s'.base=0/\s'.tmp 3= .gz 3 (s'.ba 3) 0/\s'.di 3=aa (.loc ((nk e).map .d))/\s'.tmp 4= .gz 4 (s'.ba 4) 0/\s'.di 4=aa (.loc [.d .cj,.d .cj])/\s'.tmp 6= .gz 6 (s'.ba 6) 0/\
 ∃cs,s'.di 6=aa (.loc cs)/\Dw s'.mem 1000 t cs/\yg s'.mem (1160+64*t.ns.length)
section
variable{P:Program}(A:Pr4 P)
theorem a8d{pr:List (List Sp)->Bool}(K:Mk A.toPr pr)(t:Tr)(e:G7)(E:0<=e.k)(F:e.k<7)(ht:Og t)(he:Oe e)(J:(tn t e).1.ps.length<=21)(I:(tn t e).1.ns.length<=21)(U:Om (H6 (tn t e).1))
  (x:∀s',VJ t e s'->∃ids m',sl P (Vf A e.k) (s'.x7 ids).mem [.gz 6 (s'.ba 6) 0,.d (.agg (nk e))] m' (.d (.int aj (tn t e).2))/\(s'.x7 ids).di 3=aa (.loc ((nk e).map .d))/\(s'.x7 ids).di 6≠ae/\
   m'.di 4=aa (.loc [.d .cj,.d .cj])/\m'.ba 4=s'.ba 4/\m'.ba 6=s'.ba 6/\
   ((tn t e).2=0->∀q:PS,q.mem=m'->∃ids b zs,zs.map WN.n=(tn t e).1.ns/\U4 (q.x7 ids).mem 6 7 (tn t e).1.ps zs/\(q.x7 ids).di 4=aa (.loc [.d .cj,.d .cj])/\yg (q.x7 ids).mem b)):
  iv P A.ql [.agg (vt t),.agg (nk e)] (.Bb [.agg (vt (applyN pr t e).1),.int aj (applyN pr t e).2]):=by
 refine nI.Nl (QS A.mo A.Ub (by simp) ?_);show l7 P (D9 A.zy A.lz A.sr A.ll) (EZ _ _) _
 have h0:¬(e.k<0):=by lia
 have h7:¬(e.k>=7):=by lia
 simp only[D9,vt,nk,ki,lr,go_sem,ab,ak,ao,reduceCtorEq,h0];refine Ic (jL A) ?_;simp only[Ve,go_sem,ab,ak,reduceCtorEq,h7];refine ml (KJ A t ht.xm _ 1000 (λi hi=>?_)) ?_
 ·simp only[PS.mem,ar]
  (repeat' rw[aq (by lia)])
  exact⟨rfl,trivial⟩
 rintro o r1 ⟨hx,cs,rfl,g⟩;have V:=hx.low 2 (by lia);have v:=hx.low 3 (by lia);have w:=hx.low 4 (by lia);have W:=hx.low 6 (by lia);simp only[PS.mem,ar,ab,reduceIte]at V v w W;refine Zd (VJ t e) ?_ ?_
 ·simp only[HM,lg.qi,Dk,my.app,PS.vz,PS.put,PS.ke,du,ic,jj,gj];refine yJ (cs:=cs) (id:=6) (ba:=o.ba 6+1) (old:=[.d .cj,.d .cj]) ?_ ?_ ?_ rfl g.len ?_ ?_
  ·simp only[ar,ab,bp,da];exact qY
  ·simp only[ar,da]
  ·simp only[PS.cs,ar,da]
  ·refine Dw.XY (m:=⟨lu o.di 6 (aa (.loc [.d .cj,.d .cj])),lu o.ba 6 (o.ba 6+1),o.mp⟩) (g.mono (bm _) λi a h2=>?_) rfl;simp only[ar];rw[aq (by lia),aq (by lia)];exact⟨rfl,rfl⟩
  rw[V6];refine⟨rfl,?_,?_,?_,?_,?_,cs,?_,?_,λi hi=>⟨?_,?_⟩⟩
  ·simp only[ar,ab,bp,da,v.2.1]
  ·simp only[ar,ab,bp,v.1,nk,du,ic]
  ·simp only[ar,ab,bp,da,w.2.1]
  ·simp only[ar,ab,bp,w.1]
  ·simp only[ar,ab,bp,da]
  ·simp only[ar,da]
  ·refine g.mono (bm _) λi a h2=>?_;simp only[PS.mem,ar];rw[aq (by lia),aq (by lia),aq (by lia)];exact⟨rfl,rfl⟩
  ·simp only[PS.mem,ar];rw[aq (by lia),aq (by lia)];refine hx.high i (by lia) ?_;rintro(a|a|⟨k,hk,a|a⟩)<;>lia
  exact hx.mps i (by lia)
 intro p a;obtain⟨ids,m',Q,b3,b6,k1,L,R,k4⟩:=x p a;obtain⟨Z,f3,_,f4,b4,f6,_⟩:=a;simp only[go_sem];refine K5 ids ?_
 have g0:(p.x7 ids).base=0:=by rw[T0];exact Z
 have M:=Sz (ids:=ids) f3;have y:=Sz (ids:=ids) f4;have z:=Sz (ids:=ids) f6;have N:(p.x7 ids).ba=p.ba:=Vs
 generalize p.x7 ids=q at*
 rw[<-N]at Q L R
 have uP:((Ve A).drop e.k.toNat).take 1=[.qb (Vf A e.k) []]:=by
  have l:=YW A (k:=e.k.toNat) (by lia);rw[show((e.k.toNat:Nat):Int)=e.k by lia]at l
  have O:e.k.toNat<(Ve A).length:=by show e.k.toNat<7;lia
  rw[jx O];rw[bh O]at l
  injection l with l
  rw[l];rfl
 have G:(Ve A).length=7:=rfl
 have H:e.k.toNat+1<=7:=by lia
 rw[<-N]at M y z;simp only[go_sem];refine Ic (jL A) ?_;simp only[nk,du,ic]at b3;simp only[go_sem,ab,ak,ao,g0,M,z,b3,E,F,uP,G,H,Nat.mul_one,mkd];refine nh Q ?_;by_cases s:(tn t e).2=0
 ·have c:applyN pr t e=if yj pr (H6 (tn t e).1)=ah then(H6 (tn t e).1,0)else(⟨[],[]⟩,230):=by
   unfold applyN;rw[aq (by lia),aq (by lia)]
  have r:∀S:PS,S.mem=m'->S.base=0->S.tmp 4= .gz 4 (S.ba 4) 0->S.tmp 6= .gz 6 (S.ba 6) 0->l7 P .freeze (Z1 P (OC A.sr) (Z1 P (OB A.ll) (EZ [.cell 4 2 ah,.tmp 5] (.Bb [.agg (vt (applyN pr t e).1),.int aj (applyN pr t e).2])))) S:=by
   intro S hm e0 X Y;obtain⟨j,b2,zs,T,B,C,zP⟩:=k4 s S hm;refine K5 j ?_;rw[N0];have v4:(S.x7 j).ba=S.ba:=Vs;have h:=a0l A K (u:=(tn t e).1) (by rw[T0];exact e0) (by rw[v4];exact Sz X) C (by rw[v4];exact Sz Y) B T zP J (by rw[<-al (f:=WN.n),T];exact I) U;rw[c];cases g:yj pr (H6 (tn t e).1)
   ·rw[g]at h;exact h
   rw[g]at h;exact h
  rw[s];simp only[go_sem,ab,mj,reduceCtorEq,PS.ke];refine r _ rfl rfl ?_ ?_
  ·simp only[ar,ab,bp,y];rw[<-L]
  simp only[ar,ab,bp,z];rw[<-R]
 have c:applyN pr t e=(⟨[],[]⟩,(tn t e).2):=by
  unfold applyN;rw[aq (by lia),bc s]
 have D:((tn t e).2 !=0)=true:=by simpa using s
 rw[c];simp only[go_sem,ab,ak,reduceCtorEq,PS.ke,y,D,k1,L];refine⟨_,rfl,Mn (Lw Wk.cj Wk.cj)⟩
end
def HK(P:Program)(f:Nat)(t:Tr)(e:G7)(u:Tr)(a:Int)(s':PS):Prop:=
 ∃ids m',sl P f (s'.x7 ids).mem [.gz 6 (s'.ba 6) 0,.d (.agg (nk e))] m' (.d (.int aj a))/\(s'.x7 ids).di 3=aa (.loc ((nk e).map .d))/\(s'.x7 ids).di 6≠ae/\
  m'.di 4=aa (.loc [.d .cj,.d .cj])/\m'.ba 4=s'.ba 4/\m'.ba 6=s'.ba 6/\
  (a=0->∀c:PS,c.mem=m'->∃ids b zs,zs.map WN.n=u.ns/\U4 (c.x7 ids).mem 6 7 u.ps zs/\(c.x7 ids).di 4=aa (.loc [.d .cj,.d .cj])/\yg (c.x7 ids).mem b)
theorem Xj{P:Program}{f:Nat}{t u:Tr}{e:G7}{b:Int}{s':PS}(s:VJ t e s')(v:∀zs:List WN,zs.map WN.n=t.ns->∃a,KOk P f e t.ps u.ps zs a b/\a.map WN.n=u.ns):HK P f t e u b s':=by
 obtain⟨D,E,b3,F,b4,f6,cs,b6,w,z⟩:=s;obtain⟨zs,A,g,c,C⟩:=fK w b6 (by lia) (by lia) z;obtain⟨a,x,B⟩:=v zs A;have q:(s'.x7 (F5 (1000+32) t.ns.length)).mem.ba=s'.ba:=Vs;obtain⟨m',p,k,r,i,y,j⟩:=x _ 6 7 _ g (by lia) (by lia) C;rw[q]at p i
 have l:(s'.x7 (F5 (1000+32) t.ns.length)).di 6≠none:=by
  obtain⟨_,_,cP,cN,_,_,_,hb,_⟩:=g;intro h;have:(s'.x7 (F5 (1000+32) t.ns.length)).di 6=aa (.loc [cP,cN]):=hb;rw[h]at this;cases this
 have m:=r 4 (by lia) (by lia);refine⟨_,m',p,c 3 (by lia) _ b3,l,?_,?_,i,λ_ o d=>⟨[],1160+64*t.ns.length+64,a,B,?_,?_,?_⟩⟩
 ·rw[m.1];exact c 4 (by lia) [.cj,.cj] b4
 ·rw[m.2,q]
 ·show U4 o.mem 6 7 u.ps a;rw[d];exact k
 ·show o.mem.di 4=_;rw[d,m.1];exact c 4 (by lia) [.cj,.cj] b4
 show yg o.mem _;rw[d];exact j
theorem dD{P:Program}{f:Nat}{t u:Tr}{e:G7}{a:Int}{s':PS}(q:VJ t e s')(x:a=0->u.ns.length=t.ns.length)
  (v:∀(cs:List C) (m:Mem),m.di 6=aa (.loc cs)->Dw m 1000 t cs->yg m (1160+64*t.ns.length)->∃m',sl P f m [.gz 6 (m.ba 6) 0,.d (.agg (nk e))] m' (.d (.int aj a))/\(a=0->Dw m' 1000 u cs)/\(∀i,i<1000->m'.di i=m.di i)/\m'.ba=m.ba/\yg m' (1160+64*t.ns.length)):HK P f t e u a s':=by
 obtain⟨B,D,b3,E,b4,f6,cs,b6,w,y⟩:=q;obtain⟨m',r,j,g,p,h⟩:=v cs s'.mem b6 w y
 refine⟨[],m',r,b3,by show s'.di 6≠ae;rw[b6];simp,?_,by rw[p];rfl,by rw[p];rfl,λo n c=>?_⟩
 ·rw[g 4 (by lia)];exact b4
 obtain⟨zs,z,k,l,A⟩:=fK (s:=n) (B0:=1000) (u:=6) (b:=1160+64*t.ns.length) (t:=u) (cs:=cs) (by rw[c];exact j o) (by show n.mem.di 6=_;rw[c,g 6 (by lia)];exact b6) (by lia) (by rw[x o];lia) (by rw[c];exact h);refine⟨F5 (1000+32) u.ns.length,1160+64*t.ns.length,zs,z,k,l 4 (by lia) [.cj,.cj] ?_,A⟩;show n.mem.di 4=_;rw[c,g 4 (by lia)];exact b4
theorem PC(zs:List WN)(k:Nat)(n:Nd):(zs.set k (WN.of n)).map WN.n=(zs.map WN.n).set k n:=by
 rw[aey];rfl
theorem EW(zs:List WN)(k:Nat):(zs.eraseIdx k).map WN.n=(zs.map WN.n).eraseIdx k:=by
 rw[ta,ta,fj,Mm,a1s]
section
variable{P:Program}(A:Pr4 P)
theorem YV(t:Tr)(e:G7)(B:0<=e.k)(C:e.k<7)(E:Og t)(y:Oe e)(s':PS)(b:VJ t e s'):HK P (Vf A e.k) t e (tn t e).1 (tn t e).2 s':=by
 obtain⟨t1,t2,t3⟩:=E
 have o:∀zs:List WN,zs.map WN.n=t.ns->zs.length=t.ns.length:=λzs h=>by rw[<-h,al]
 have j:∀zs:List WN,zs.map WN.n=t.ns->(⟨t.ps,zs.map WN.n⟩:Tr)=t:=λzs h=>by rw[h]
 have p:e.k=0\/e.k=1\/e.k=2\/e.k=3\/e.k=4\/e.k=5\/e.k=6:=by lia
 rcases p with h|h|h|h|h|h|h
 ·have d:Vf A e.k=A.ti:=by rw[h];rfl
  rw[d];unfold tn;rw[bc h];rcases Fl t e.n with a|⟨k,f,a⟩
  ·rw[a,bc (by lia)];exact Xj b λzs hz=>⟨zs,ZH A e t.ps zs (by lia) (by rw[j zs hz];exact a),hz⟩
  rw[a,aq (by lia),bn];exact Xj b λzs hz=>⟨zs,ZG A e t.ps zs (by lia) f (by rw[j zs hz];exact a),hz⟩
 ·have d:Vf A e.k=A.th:=by rw[h];rfl
  rw[d];unfold tn;rw[aq (by lia),bc h];rcases Fl t e.n with a|⟨k,f,a⟩
  ·rw[a,bc (by lia)];exact Xj b λzs hz=>⟨zs,ZF A e t.ps zs (by lia) (by rw[j zs hz];exact a),hz⟩
  rw[a,aq (by lia)];exact Xj b λzs hz=>⟨zs,ZE A e t.ps zs (by lia) (by rw[j zs hz];exact a),hz⟩
 ·have d:Vf A e.k=A.tg:=by rw[h];rfl
  rw[d];unfold tn;rw[aq (by lia),aq (by lia),bc h];rcases Fl t e.n with a|⟨k,f,a⟩
  ·rw[a,bc (by lia)];exact Xj b λzs hz=>⟨zs,ZD A e t.ps zs (by lia) (by rw[j zs hz];exact a),hz⟩
  rw[a,aq (by lia),bn];exact Xj b λzs hz=>⟨zs,ZC A e t.ps zs (by lia) f (by rw[j zs hz];exact a),hz⟩
 ·have d:Vf A e.k=A.tf:=by rw[h];rfl
  rw[d];unfold tn;rw[aq (by lia),aq (by lia),aq (by lia),bc h];rcases Kq t e.nd.n with a|⟨k,f,a⟩
  ·rw[a,bc (by lia)];exact Xj b λzs hz=>⟨_,ZB A e t.ps zs (by rw[o zs hz];lia) y (by rw[j zs hz];exact a),by simp[hz,WN.of]⟩
  rw[a,aq (by lia),bn];exact Xj b λzs hz=>⟨_,ZA A e t.ps zs (by rw[o zs hz];lia) y (by rw[o zs hz];exact f) (by rw[j zs hz];exact a),by rw[PC,hz]⟩
 ·have d:Vf A e.k=A.te:=by rw[h];rfl
  rw[d];unfold tn;rw[aq (by lia),aq (by lia),aq (by lia),aq (by lia),bc h];rcases Kq t e.n with a|⟨k,f,a⟩
  ·rw[a,bc (by lia)];exact Xj b λzs hz=>⟨zs,YZ A e t.ps zs (by rw[o zs hz];lia) (by rw[j zs hz];exact a),hz⟩
  rw[a,aq (by lia),bn];exact Xj b λzs hz=>⟨_,YY A e t.ps zs (by rw[o zs hz];lia) (by rw[o zs hz];exact f) (by rw[j zs hz];exact a),by rw[EW,hz]⟩
 ·have d:Vf A e.k=A.p8:=by rw[h];rfl
  rw[d];unfold tn;rw[aq (by lia),aq (by lia),aq (by lia),aq (by lia),aq (by lia),bc h];rcases Kq t e.n with a|⟨k,f,a⟩
  ·rw[a,bc (by lia)];exact dD b (λ_=>rfl) λcs m b6 g c=>⟨m,XI A e t (by lia) a g b6 (by lia) (by lia) c,λl=>absurd l (by simp),λ_ _=>rfl,rfl,c⟩
  rw[a,aq (by lia),bn];rcases Kq t e.t with i|⟨q,D,i⟩
  ·rw[i,bc (by lia)];refine dD b (λ_=>by simp[Mo,U8]) λcs m b6 g c=>?_;obtain⟨m',r,s,u,v,z,w⟩:=a69 A e t (by lia) (λn x=>(t3 n x).2.2.2) f a i g b6 (by lia) (by lia) c;exact⟨m',r,λ_=>s,u,v,w⟩
  rw[i,aq (by lia)];exact dD b (λ_=>rfl) λcs m b6 g c=>⟨m,a2z A e t (by lia) a i g b6 (by lia) (by lia) c,λl=>absurd l (by simp),λ_ _=>rfl,rfl,c⟩
 have d:Vf A e.k=A.o9:=by rw[h];rfl
 rw[d];unfold tn;rw[aq (by lia),aq (by lia),aq (by lia),aq (by lia),aq (by lia),aq (by lia)];rcases Fl t e.n with a|⟨k,f,a⟩
 ·rw[a,bc (by lia)];exact dD b (λ_=>rfl) λcs m b6 g c=>⟨m,XG A e t (by lia) a g b6 (by lia) (by lia) c,λl=>absurd l (by simp),λ_ _=>rfl,rfl,c⟩
 rw[a,aq (by lia),bn];rcases Fl t e.t with i|⟨q,D,i⟩
 ·rw[i,bc (by lia)];refine dD b (λ_=>by simp[K9]) λcs m b6 g c=>?_;obtain⟨m',r,s,u,v,z,w⟩:=a65 A e t (by lia) (by lia) (λn x=>(t3 n x).1) f a i g b6 (by lia) (by lia) c;exact⟨m',r,λ_=>s,u,v,w⟩
 rw[i,aq (by lia)];exact dD b (λ_=>rfl) λcs m b6 g c=>⟨m,a2y A e t (by lia) a i g b6 (by lia) (by lia) c,λl=>absurd l (by simp),λ_ _=>rfl,rfl,c⟩
theorem Ur.set{l:List Nd}{k:Nat}{n:Nd}(h:∀x∈l,Ur x)(b:Ur n):∀x∈l.set k n,Ur x:=by
 intro x hx;rcases a8p hx with a|rfl
 ·exact h x a
 exact b
theorem MT{l:List Nd}{k:Nat}(h:k<l.length):l.getD k n0∈l:=by
 have:l.getD k n0=l[k]:=by simp[cz,h]
 rw[this];exact dj _
theorem DW(t:Tr)(e:G7)(o:Og t)(l:Oe e):(tn t e).1.ps.length<=21/\(tn t e).1.ns.length<=21/\∀n∈(tn t e).1.ns,Ur n:=by
 obtain⟨t1,t2,t3⟩:=o;have a:t.ps.length<=21/\t.ns.length<=21/\∀n∈t.ns,Ur n:=⟨by lia,by lia,t3⟩;unfold tn;split
 ·split
  ·exact a
  exact⟨by simp only[V0,J8];lia,a.2⟩
 split
 ·split
  ·exact⟨by simp only[dz,cq,ew];lia,a.2⟩
  exact a
 split
 ·split
  ·exact a
  refine⟨jg (ac3 _ _) (by lia),a.2⟩
 split
 ·split
  ·refine⟨a.1,by simp only[dz,cq,ew];lia,λn b=>?_⟩;rcases jz.1 b with h|h
   ·exact t3 n h
   simp only[Q9]at h;subst h;exact l
  exact⟨a.1,by simp only[J8];lia,Ur.set t3 l⟩
 split
 ·split
  ·exact a
  exact⟨a.1,jg (ac3 _ _) (by lia),λn b=>t3 n (List.mem_of_mem_eraseIdx b)⟩
 split
 ·split
  ·exact a
  rename_i m;split
  ·refine⟨by simp only[Mo];lia,by simp only[Mo,U8,al,J8];lia,λn b=>?_⟩;simp only[Mo,j6]at b;obtain⟨f,c,rfl⟩:=b
   have i:(ur t e.n).toNat<t.ns.length:=by
    rcases Kq t e.n with g|⟨k,i,g⟩
    ·rw[g]at m;exact absurd (by decide) m
    rw[g,bn];exact i
   have j:Ur f:=by
    unfold U8 at c;have d:=t3 _ (MT i);exact Ur.set t3 (n:=⟨e.t,_,_⟩) ⟨d.1,d.2.1,d.2.2.1,d.2.2.2⟩ f c
   obtain⟨q1,q2,q3,q4⟩:=j;exact⟨q1,q2,q3,by simpa[nX]using q4⟩
  exact a
 split
 ·exact a
 split
 ·refine⟨by simp only[K9,Zr,J8];lia,by simp only[K9,al];lia,λn b=>?_⟩;simp only[K9,j6]at b;obtain⟨f,c,rfl⟩:=b;obtain⟨q1,q2,q3,q4⟩:=t3 f c;exact⟨by simpa[Ox]using q1,q2,q3,q4⟩
 exact a
theorem JU{u:Tr}(c:u.ns.length<=21)(a:∀n∈u.ns,Ur n):Om (H6 u):=by
 refine⟨?_,λn b=>?_⟩
 ·show(ji Nd.n u.ns).length<=1000;rw[Al];lia
 obtain⟨q1,q2,q3,q4⟩:=a n ((Pt Nd.n u.ns).mem_iff.1 b);exact⟨q4,q1,q2,q3⟩
theorem tG{pr:List (List Sp)->Bool}(b:Mk A.toPr pr)(t:Tr)(e:G7)(c:Og t)(a:Oe e):iv P A.ql [.agg (vt t),.agg (nk e)] (.Bb [.agg (vt (applyN pr t e).1),.int aj (applyN pr t e).2]):=by
 by_cases h:e.k<0\/7<=e.k
 ·have:applyN pr t e=(⟨[],[]⟩,1):=by unfold applyN;rw[bc h]
  rw[this];exact(a57 A t e h).Nl (Mn (Lw Wk.cj Wk.cj))
 obtain⟨g,d,i⟩:=DW t e c a;exact a8d A b t e (by lia) (by lia) c a g d (JU d i) λs' f=>YV A t e (by lia) (by lia) c a s' f
end
def cMk(x:ByteArray×Tr):D×C:=(.str x.1,.d (.agg (vt x.2)))
def HAt(m:Mem)(h lo:Nat)(t:Tr)(us e:List Tr)(mk:List (ByteArray×Tr)):Prop:=
 ∃uid a xm c b,lo<=uid/\lo<=a/\lo<=xm/\uid≠a/\uid≠xm/\a≠xm/\uid≠h/\a≠h/\xm≠h/\m.di h=aa (.loc [.d (ki t.ps),.d (lr t.ns),c,b,.o8 xm (m.ba xm)])/\Own m uid 2 (us.map vt) c/\Own m a 2 (e.map vt) b/\m.mp xm=aa (mk.map cMk)
theorem HAt.mono{m m':Mem}{h lo b:Nat}{t:Tr}{us k:List Tr}{mk:List (ByteArray×Tr)}(H:HAt m h lo t us k mk)(f:yg m b)(a:∀i,i<b->m'.di i=m.di i/\m'.ba i=m.ba i/\m'.mp i=m.mp i):HAt m' h lo t us k mk:=by
 obtain⟨uid,d,xm,n,l,p,q,r,n1,n2,s,u,v,w,hb,y,x,c⟩:=H;have o:=f.lt hb
 have j:xm<b:=by
  rcases iZ xm b with h|h
  ·exact h
  rw[(f xm h).2]at c;cases c
 refine⟨uid,d,xm,n,l,p,q,r,n1,n2,s,u,v,w,by rw[(a h o).1,(a xm j).2.1];exact hb,?_,?_,by rw[(a xm j).2.2];exact c⟩
 ·rcases y with h|⟨g,e⟩
  ·exact .inl h
  have:=f.lt e;exact .inr ⟨by rw[(a uid this).2.1];exact g,by rw[(a uid this).1];exact e⟩
 rcases x with h|⟨g,e⟩
 ·exact .inl h
 have:=f.lt e;exact .inr ⟨by rw[(a d this).2.1];exact g,by rw[(a d this).1];exact e⟩
theorem RU(s:PS)(mk:List (ByteArray×Tr))(n:Nat):Ru ((mk.map cMk).map λe=>(deep s n e.2).map λx=>(e.1,x))=aa (mk.map λx=>(.str x.1,.agg (vt x.2))):=by
 rw[JE];refine Zj _ _ mk λx _=>?_;show(deep s n (.d (.agg (vt x.2)))).map _=_;rw[FK];rfl
theorem HAt.data{s:PS}{h lo:Nat}{t:Tr}{us g:List Tr}{mk:List (ByteArray×Tr)}(H:HAt s.mem h lo t us g mk):
  ∃x y,snap s (.gz h (s.ba h) 0)=aa (.ym [ki t.ps,lr t.ns,x,y,.map (mk.map λx=>(.str x.1,.agg (vt x.2)))] 0)/\Wk x (.gd 2 (us.map vt))/\Wk y (.gd 2 (g.map vt)):=by
 obtain⟨uid,q,xm,f,e,A,B,E,n1,n2,F,G,I,J,hb,p,o,a⟩:=H;obtain⟨x,x1,x2,K,v,L⟩:=p.data;obtain⟨y,w,M,N,z,O⟩:=o.data;refine⟨x,y,?_,x1,w⟩;have u:s.di h=aa (.loc [.d (ki t.ps),.d (lr t.ns),f,e,.o8 xm (s.ba xm)]):=hb
 have n:s.cs h (s.ba h)=aa [.d (ki t.ps),.d (lr t.ns),f,e,.o8 xm (s.ba xm)]:=by unfold PS.cs;rw[bc rfl,u]
 have b:s.ents xm (s.ba xm)=aa (mk.map cMk):=by unfold PS.ents;rw[bc rfl];exact a
 have i:ow s (.o8 xm (s.ba xm))=aa (.map (mk.map λx=>(.str x.1,.agg (vt x.2)))):=by
  show deep s 6 (.o8 xm (s.ba xm))=_;simp only[deep,b,RU,jc]
 have one:∀(c:C) (x:D) (r:List C) (xs:List D),ow s c=aa x->k9 s r=aa xs->k9 s (c::r)=aa (x::xs):=by
  intro c x r xs k m
  show(match ow s c,k9 s r with|some x,aa l=>aa (x::l)|_,_=>ae)=_
  rw[k,m]
 have j:=one _ _ _ _ (rfl:ow s (.d (ki t.ps))=aa (ki t.ps)) (one _ _ _ _ (rfl:ow s (.d (lr t.ns))=aa (lr t.ns)) (one _ _ _ _ v (one _ _ _ _ z (one _ _ _ _ i (rfl:k9 s []=aa [])))))
 show(match s.cs h (s.ba h)with|some cs=>(k9 s cs).map λds=>D.ym ds 0|none=>ae)=_
 rw[n];show(k9 s _).map _=_;rw[j];rfl
section
variable{P:Program}(A:Pr4 P)
theorem a2q(t:Tr)(h:Mid t)(x y z:D):iv P A.oo [.ym [ki t.ps,lr t.ns,x,y,z] 0] (.agg (vt t)):=by
 refine ez A.mo A.L1 (by simp) ?_;show l7 P (yy A.lz) (ly _ _) _;have a:=jM A.toPr t h;simp only[vt,ki,lr]at a;simp only[yy,vt,ki,lr,go_sem,ab,ak,ao,reduceCtorEq];refine gq a ?_;simp only[go_sem,ab,ak]
theorem XF(p n z:D){us f:List Tr}{x y:D}(hx:Wk x (.gd 2 (us.map vt)))(hy:Wk y (.gd 2 (f.map vt))):iv P A.qw [.ym [p,n,x,y,z] 0] (.Bb [.int aj us.length,.int aj f.length]):=by
 have e:iv P A.qw [.ym [p,n,.gd 2 (us.map vt),.gd 2 (f.map vt),z] 0] (.Bb [.int aj us.length,.int aj f.length]):=by
  refine ez A.mo A.Sx (by simp) ?_;show l7 P Ez (ly _ _) _;simp only[Ez,go_sem,ab,ak,ao,reduceCtorEq,al]
 refine e.args rfl λi a c b d=>?_
 match i with
 |0=>
  simp at b d;subst b d;refine Wk.ym rfl λj a c b d=>?_
  match j with
  |0=>simp at b d;subst b d;exact Wk.refl _
  |1=>simp at b d;subst b d;exact Wk.refl _
  |2=>simp at b d;subst b d;exact hx
  |3=>simp at b d;subst b d;exact hy
  |4=>simp at b d;subst b d;exact Wk.refl _
  |j+5=>simp at b
 |i+1=>simp at b
theorem a2u{pr:List (List Sp)->Bool}(n:Mk A.toPr pr)(t:Tr)(h:Mid t)(hs:Om t)(r:yj pr t=ah)(m:Mem)(b:Nat)(k:yg m b):
  ∃m',sl P A.Gi m [.d (.agg (vt t))] m' (.Bb [.ptr (b+11) (m'.ba (b+11)) 0,.d (.int aj 0)])/\HAt m' (b+11) b t [] [] []/\(∀i,i<b->m'.di i=m.di i/\m'.ba i=m.ba i/\m'.mp i=m.mp i)/\yg m' (b+64):=by
 have j:=jN A.toPr2 n t hs;rw[bc r]at j;have g:=jM A.toPr t h;simp only[vt,ki,lr]at j g;obtain⟨m',a⟩:∃m':Mem,m'=⟨lu m.di (b+11) (aa (.loc [.d (ki t.ps),.d (lr t.ns),.d .cj,.d .cj,.o8 (b+9) (m.ba (b+9)+1)])),lu (lu m.ba (b+9) (m.ba (b+9)+1)) (b+11) (m.ba (b+11)+1),lu m.mp (b+9) (aa [])⟩:=⟨_,rfl⟩
 have v9:m'.ba (b+9)=m.ba (b+9)+1:=by rw[a];simp[ar]
 have o:m'.ba (b+11)=m.ba (b+11)+1:=by rw[a];simp[ar]
 refine⟨m',mz A.mo A.pJ (by simp) b (λc=>?_) (λi=>?_) (λi x hx=>?_) (λi es f=>?_) ?_,⟨b+12,b+13,b+9,.d .cj,.d .cj,by lia,by lia,by lia,by lia,by lia,by lia,by lia,by lia,by lia,?_,.inl ⟨rfl,rfl⟩,.inl ⟨rfl,rfl⟩,?_⟩,λi f=>⟨?_,?_,?_⟩,λi f=>⟨?_,?_⟩⟩
 ·show l7 P (Rq A.ll A.lz) (yu m [.tmp 2,.tmp 3] _ _) _;simp only[Rq,enter,vt,ki,lr,go_sem,ab,ak];refine gq j ?_;simp only[go_sem,ab,mj,ak,reduceCtorEq];refine gq g ?_;simp only[go_sem,ab,ak,ao,PS.ents,PS.mem,qz,uq,K8,V.toC,o];subst a;intro i;simp only[ar];by_cases l:i=b+11
  ·subst l;simp only[da];exact⟨.inr ⟨rfl,by simp⟩,.inl (by rw[aq (by lia)];exact(k _ (by lia)).2)⟩
  simp only[aq l];by_cases q:i=b+9
  ·subst q;simp only[da];exact⟨.inl (k _ (by lia)).1,.inr ⟨trivial,by simp⟩⟩
  simp only[aq q];by_cases p:i=b+1
  ·subst p;exact⟨.inl (k _ (by lia)).1,.inl (k _ (by lia)).2⟩
  simp only[aq p];exact⟨.inr ⟨trivial,trivial⟩,.inr ⟨trivial,trivial⟩⟩
 ·rw[a];simp only[ar]
  (repeat' split)<;>first|lia|(subst_vars;lia)
 ·rw[a]at hx;simp only[ar]at hx;split at hx
  ·injection hx with hx
   subst hx;refine .inr λc g=>?_;simp only[fa,kz,or_false]at g;rcases g with rfl|rfl|rfl|rfl|rfl
   ·trivial
   ·trivial
   ·trivial
   ·trivial
   show m.ba (b+9)+1<=m'.ba (b+9);rw[v9];exact bm _
  exact .inl hx
 ·rw[a]at f;simp only[ar]at f;split at f
  ·injection f with f
   subst f;exact .inr λe s=>absurd s (by simp)
  exact .inl f
 ·intro c g;simp only[fa,kz,or_false]at g;rcases g with rfl|rfl
  ·exact bm _
  trivial
 ·rw[v9,a];simp only[ar,da]
 ·rw[a];simp only[ar,da,ic]
 ·rw[a];simp only[ar];rw[aq (by lia)]
 ·rw[a];simp only[ar];rw[aq (by lia),aq (by lia)]
 ·rw[a];simp only[ar];rw[aq (by lia)]
 ·rw[a];simp only[ar];rw[aq (by lia)];exact(k i (by lia)).1
 rw[a];simp only[ar];rw[aq (by lia)];exact(k i (by lia)).2
end
def Kept(m m':Mem)(h lo:Nat):Prop:=(∀j,j<lo->j≠h->m'.di j=m.di j/\m'.ba j=m.ba j/\m'.mp j=m.mp j)/\m'.ba h=m.ba h
def Wf2(m m':Mem)(h b:Nat):Prop:=(∀i,m.ba i<=m'.ba i)/\(∀i x,m'.di i=aa x->m.di i=aa x\/Ni m' x)/\m'.mp=m.mp/\∀j,j<b->j≠h->(∃sz dv,m.di j=aa (.arr sz dv))\/(m'.di j=m.di j/\m'.ba j=m.ba j)
theorem HAt.Yb{m:Mem}{b xm:Nat}{es:List (D×C)}(c:yg m b)(h:m.mp xm=aa es):xm<b:=by
 rcases iZ xm b with a|a
 ·exact a
 rw[(c xm a).2]at h;cases h
def N1(m:Mem)(h uid w xm:Nat)(u:Tr)(us:List Tr):Mem:=(m.put uid w (.arr 2 (us.map vt))).put h (m.ba h) (.loc [.d (ki u.ps),.d (lr u.ns),.ref uid w us.length,.d .cj,.o8 xm (m.ba xm)])
theorem GV{m:Mem}{h lo uid w xm b:Nat}{u:Tr}{us:List Tr}{mk:List (ByteArray×Tr)}(y:lo<=uid)(z:uid<b+60)(C:m.ba uid<=w)(t:lo<=xm)(g:uid≠xm)(e:uid≠h)(k:xm≠h)(a:m.mp xm=aa (mk.map cMk))(f:yg m b)(s:lo<=b)(r:h<b):
  HAt (N1 m h uid w xm u us) h lo u us [] mk/\Kept m (N1 m h uid w xm u us) h lo/\yg (N1 m h uid w xm u us) (b+64)/\(∀i,m.ba i<=(N1 m h uid w xm u us).ba i)/\
  (∀i x,(N1 m h uid w xm u us).di i=aa x->m.di i=aa x\/Ni (N1 m h uid w xm u us) x):=by
 have v:=HAt.Yb f a
 have o:(N1 m h uid w xm u us).ba xm=m.ba xm:=by
  simp only[N1,Mem.put,ar];rw[aq k,aq (λq=>g q.symm)]
 have p:(N1 m h uid w xm u us).ba uid=w:=by
  simp only[N1,Mem.put,ar];rw[aq e,bc trivial]
 refine⟨⟨uid,b+61,xm,.ref uid w us.length,.d .cj,y,by lia,t,by lia,g,by lia,e,by lia,k,?_,.inr ⟨by rw[p,al],?_⟩,.inl ⟨rfl,rfl⟩,a⟩,⟨λj B n=>⟨?_,?_,rfl⟩,?_⟩,λi A=>⟨?_,(f i (by lia)).2⟩,λi=>?_,λi x hx=>?_⟩
 ·rw[o];simp only[N1,Mem.put,de]
 ·simp only[N1,Mem.put,ar];rw[aq e,bc trivial]
 ·simp only[N1,Mem.put,ar];rw[aq n,aq (by lia)]
 ·simp only[N1,Mem.put,ar];rw[aq n,aq (by lia)]
 ·simp only[N1,Mem.put,de]
 ·simp only[N1,Mem.put,ar];rw[aq (by lia),aq (by lia)];exact(f i (by lia)).1
 ·simp only[N1,Mem.put,ar]
  (repeat' split)<;>first|lia|(subst_vars;lia)
 simp only[N1,Mem.put,ar]at hx;split at hx
 ·injection hx with hx
  subst hx;refine .inr λc l=>?_;simp only[fa,kz,or_false]at l;rcases l with rfl|rfl|rfl|rfl|rfl
  ·trivial
  ·trivial
  ·show w<=(N1 m h uid w xm u us).ba uid;rw[p];exact bm _
  ·trivial
  show m.ba xm<=(N1 m h uid w xm u us).ba xm;rw[o];exact bm _
 split at hx
 ·injection hx with hx;subst hx;exact .inr trivial
 exact .inl hx
section
variable{P:Program}(A:Pr4 P)
theorem a63{m:Mem}{h lo b:Nat}{t u:Tr}{us S:List Tr}{mk:List (ByteArray×Tr)}(H:HAt m h lo t us S mk)(W:us.length<50)(e:yg m b)(q:lo<=b):
  ∃m',sl P A.ud m [.gz h (m.ba h) 0,.d (.agg (vt u))] m' (.Bb [])/\HAt m' h lo u (us++[t]) [] mk/\Kept m m' h lo/\yg m' (b+64)/\Wf2 m m' h b:=by
 obtain⟨uid,R,xm,V,U,O,Y,J,n1,n2,Z,F,n5,K,hb,Q,oR,g⟩:=H;have I:=e.lt hb;have T:=HAt.Yb e g
 have p:h≠b+3:=by lia
 have y:h≠b+14:=by lia
 have o:b+3≠h:=by lia
 have l:b+14≠h:=by lia
 simp only[ki,lr]at hb;rcases Q with ⟨L,rfl⟩|⟨rfl,x⟩
 ·have e0:us=[]:=fw.1 L;subst e0;obtain⟨C,D,E,r,s⟩:=GV (m:=m) (h:=h) (lo:=lo) (uid:=b+14) (w:=m.ba (b+14)+1) (xm:=xm) (b:=b) (u:=u) (us:=[t]) (mk:=mk) (by lia) (by lia) (by lia) J (by lia) (by lia) K g e q I;refine⟨_,mz A.mo A.Lt (by simp) b (λc=>?_) r s (λi es a=> .inl a) (by simp[Im]),C,D,E,r,s,rfl,λj N v=> .inr ?_⟩;rotate_left
  ·simp only[N1,Mem.put,ar];rw[aq v,aq (by lia),aq v,aq (by lia)];exact⟨rfl,rfl⟩
  show l7 P (Ag A.r5) (yu m [] _ _) _
  have k:(1:Nat)*48<=2^47:=by lia
  simp only[Ag,enter,vt,ki,lr,go_sem,ab,dw,fp,ak,ao,reduceCtorEq,cw,cy,PS.mem,ff,hb,p,o,y,l,Gv,pj,k,Qw,qz,K8];refine xd (b:=b) (λi a=>?_) (λi a=>?_)
  ·simp only[N1,Mem.put,ar,ki,lr,du,ic,vt,cq,ew]
   refine⟨?_,?_,trivial⟩<;>(repeat' split)<;>first|rfl|lia|(subst_vars;first|rfl|lia|simp)
  simp only[N1,Mem.put,ar,ki,lr,du,ic,vt];rw[aq (show¬i=h by lia)];by_cases n:i=b+14
  ·subst n;simp only[da,aq l];exact⟨.inr ⟨trivial,by simp⟩,(e _ (by lia)).2⟩
  rw[aq n];exact⟨.inl (e i a).1,(e i a).2⟩
 have X:=e.lt x
 have B:uid≠b+3:=by lia
 have z:b+3≠uid:=by lia
 have M:(us++[t]).length=us.length+1:=by simp
 obtain⟨C,D,E,r,s⟩:=GV (m:=m) (h:=h) (lo:=lo) (uid:=uid) (w:=m.ba uid) (xm:=xm) (b:=b) (u:=u) (us:=us++[t]) (mk:=mk) O (by lia) (by lia) J n2 F K g e q I;refine⟨_,mz A.mo A.Lt (by simp) b (λc=>?_) r s (λi es a=> .inl a) (by simp[Im]),C,D,E,r,s,rfl,λj N v=>?_⟩;rotate_left
 ·by_cases f:j=uid
  ·subst f;exact .inl ⟨_,_,x⟩
  refine .inr ?_;simp only[N1,Mem.put,ar];rw[aq v,aq f,aq v,aq f];exact⟨rfl,rfl⟩
 show l7 P (Ag A.r5) (yu m [] _ _) _
 have k:(us.length+1)*48<=2^47:=by lia
 have G:¬(((us.length+1:Nat):Int)>50):=by lia
 simp only[Ag,enter,vt,ki,lr,go_sem,ab,ak,ao,reduceCtorEq,cw,cy,PS.mem,ff,al,hb,x,p,o,B,z,F,F.symm,Gv,pj,k,G,dz,cq,qz,K8];refine xd (b:=b) (λi a=>?_) (λi a=>?_)
 ·simp only[N1,Mem.put,ar,ki,lr,fj,du,ic,M]
  refine⟨?_,?_,trivial⟩<;>(repeat' split)<;>first|rfl|lia|(subst_vars;first|rfl|lia|simp)
 simp only[N1,Mem.put,ar];rw[aq (show¬i=h by lia),aq (by lia)];exact⟨.inl (e i a).1,(e i a).2⟩
end
def Eu(m:Mem)(h fid gid w xm:Nat)(p:Tr)(fs gs:List Tr)(undo:Bool):Mem:=
 ((m.put gid w (.arr 2 (gs.map vt))).put fid (m.ba fid+1) (.arr 2 (fs.map vt))).put h (m.ba h)
  (.loc (if undo=ah then[.d (ki p.ps),.d (lr p.ns),.ref fid (m.ba fid+1) fs.length,.ref gid w gs.length,.o8 xm (m.ba xm)]else[.d (ki p.ps),.d (lr p.ns),.ref gid w gs.length,.ref fid (m.ba fid+1) fs.length,.o8 xm (m.ba xm)]))
theorem Z2{m:Mem}{h lo fid gid w xm b:Nat}{p:Tr}{fs gs:List Tr}{mk:List (ByteArray×Tr)}{undo:Bool}(I:lo<=fid)(O:fid<b)(J:lo<=gid)(P:gid<b+60)(T:m.ba gid<=w)(K:lo<=xm)(o:fid≠gid)(v:fid≠xm)(y:gid≠xm)(r:fid≠h)(s:gid≠h)(z:xm≠h)
  (g:m.mp xm=aa (mk.map cMk))(A:yg m b)(R:lo<=b)(Q:h<b):
  (if undo=ah then HAt (Eu m h fid gid w xm p fs gs undo) h lo p fs gs mk else HAt (Eu m h fid gid w xm p fs gs undo) h lo p gs fs mk)/\Kept m (Eu m h fid gid w xm p fs gs undo) h lo/\yg (Eu m h fid gid w xm p fs gs undo) (b+64)/\(∀i,m.ba i<=(Eu m h fid gid w xm p fs gs undo).ba i)/\
  (∀i x,(Eu m h fid gid w xm p fs gs undo).di i=aa x->m.di i=aa x\/Ni (Eu m h fid gid w xm p fs gs undo) x):=by
 have S:=HAt.Yb A g;obtain⟨M,a⟩:∃M,M=Eu m h fid gid w xm p fs gs undo:=⟨_,rfl⟩
 have k:∀i,i≠h->i≠fid->i≠gid->M.di i=m.di i/\M.ba i=m.ba i:=λi q1 q2 q3=>by
  rw[a];simp only[Eu,Mem.put,ar];rw[aq q1,aq q2,aq q3,aq q1,aq q2,aq q3];exact⟨rfl,rfl⟩
 have D:M.ba xm=m.ba xm:=(k xm z (λq=>v q.symm) (λq=>y q.symm)).2
 have B:M.ba fid=m.ba fid+1:=by
  rw[a];simp only[Eu,Mem.put,ar];rw[aq r,bc trivial]
 have C:M.ba gid=w:=by
  rw[a];simp only[Eu,Mem.put,ar];rw[aq s,aq (λq=>o q.symm),bc trivial]
 have E:M.di fid=aa (.arr 2 (fs.map vt)):=by
  rw[a];simp only[Eu,Mem.put,ar];rw[aq r,bc trivial]
 have F:M.di gid=aa (.arr 2 (gs.map vt)):=by
  rw[a];simp only[Eu,Mem.put,ar];rw[aq s,aq (λq=>o q.symm),bc trivial]
 have N:M.ba h=m.ba h:=by rw[a];simp only[Eu,Mem.put,de]
 have e:M.mp=m.mp:=by rw[a];rfl
 have l:Own M fid 2 (fs.map vt) (.ref fid (m.ba fid+1) fs.length):= .inr ⟨by rw[B,al],E⟩;have n:Own M gid 2 (gs.map vt) (.ref gid w gs.length):= .inr ⟨by rw[C,al],F⟩
 have f:M.di h=aa (.loc (if undo=ah then[.d (ki p.ps),.d (lr p.ns),.ref fid (m.ba fid+1) fs.length,.ref gid w gs.length,.o8 xm (m.ba xm)]else[.d (ki p.ps),.d (lr p.ns),.ref gid w gs.length,.ref fid (m.ba fid+1) fs.length,.o8 xm (m.ba xm)])):=by
  rw[a];simp only[Eu,Mem.put,de]
 have u:∀i,m.ba i<=M.ba i:=λi=>by
  by_cases q1:i=h
  ·subst q1;rw[N];exact bm _
  by_cases q2:i=fid
  ·subst q2;rw[B];lia
  by_cases q3:i=gid
  ·subst q3;rw[C];exact T
  rw[(k i q1 q2 q3).2];exact bm _
 rw[<-a];refine⟨?_,⟨λj V L=>⟨(k j L (by lia) (by lia)).1,(k j L (by lia) (by lia)).2,by rw[e]⟩,N⟩,λi U=>⟨?_,by rw[e];exact(A i (by lia)).2⟩,u,λi x hx=>?_⟩
 ·cases undo
  ·exact⟨gid,fid,xm,_,_,J,I,K,λq=>o q.symm,y,v,s,r,z,by rw[D];exact f,n,l,by rw[e];exact g⟩
  exact⟨fid,gid,xm,_,_,I,J,K,o,v,y,r,s,z,by rw[D];exact f,l,n,by rw[e];exact g⟩
 ·rw[(k i (by lia) (by lia) (by lia)).1];exact(A i (by lia)).1
 by_cases q1:i=h
 ·subst q1;rw[f]at hx
  injection hx with hx
  subst hx
  have cf:Q7 M (.ref fid (m.ba fid+1) fs.length):=by show m.ba fid+1<=M.ba fid;rw[B];exact bm _
  have G:Q7 M (.ref gid w gs.length):=by show w<=M.ba gid;rw[C];exact bm _
  have H:Q7 M (.o8 xm (m.ba xm)):=by show m.ba xm<=M.ba xm;rw[D];exact bm _
  refine .inr λc t=>?_;cases undo
  ·simp only[gp,bp,fa,kz,or_false]at t;rcases t with rfl|rfl|rfl|rfl|rfl
   ·trivial
   ·trivial
   ·exact G
   ·exact cf
   exact H
  simp only[da,fa,kz,or_false]at t;rcases t with rfl|rfl|rfl|rfl|rfl
  ·trivial
  ·trivial
  ·exact cf
  ·exact G
  exact H
 by_cases q2:i=fid
 ·subst q2;rw[E]at hx;injection hx with hx;subst hx;exact .inr trivial
 by_cases q3:i=gid
 ·subst q3;rw[F]at hx;injection hx with hx;subst hx;exact .inr trivial
 rw[(k i q1 q2 q3).1]at hx;exact .inl hx
theorem IN{l:List Tr}{p:Tr}:((l++[p]).map vt)[l.length]? =aa [.gd 2 (p.ps.map mg),.gd 5 (p.ns.map pa)]:=by
 simp[vt,ki,lr]
section
variable{P:Program}(A:Pr4 P)
theorem WJ{m:Mem}{h lo b:Nat}{t p:Tr}{fs gs:List Tr}{mk:List (ByteArray×Tr)}(H:HAt m h lo t (fs++[p]) gs mk)(hl:fs.length<=1000)(a0:gs.length<=1000)(f:yg m b)(y:lo<=b):
  ∃m',sl P A.lq m [.gz h (m.ba h) 0,.gz h (m.ba h) 2,.gz h (m.ba h) 3] m' (.d (.int aj 0))/\HAt m' h lo p fs (gs++[t]) mk/\Kept m m' h lo/\yg m' (b+64)/\Wf2 m m' h b:=by
 obtain⟨uid,g,xm,cU,cR,T,l2,U,n1,n2,n3,D,V,W,hb,oU,oR,n⟩:=H;have S:=f.lt hb;have EG:=HAt.Yb f n;simp only[ki,lr]at hb
 have q:(fs++[p]).map vt≠[]:=by simp
 obtain⟨rfl,u⟩:=oU.ref q;have hF:=f.lt u
 have J:((fs++[p]).map vt).length=fs.length+1:=by simp
 have e7:(fs++[p]).length=fs.length+1:=by simp
 have R:=IN (l:=fs) (p:=p)
 have z:((fs++[p]).map vt).take fs.length=fs.map vt:=by rw[<-Mm,ae2]
 rw[J]at hb;have O:=dr (((fs.length+1:Nat):Int)-1) (by lia) (by lia)
 have s:((fs.length+1:Nat):Int)-1=(fs.length:Int):=by lia
 rw[s]at O
 have hz:(((fs.length+1:Nat):Int)==0)=false:=by rw[beq_eq_false_iff_ne];lia
 have x:(fs.length:Int)<((fs.length+1:Nat):Int):=by lia
 have a1:fs.length<=fs.length+1:=by lia
 have Q:(fs.length:Int)<=((fs.length+1:Nat):Int):=by lia
 generalize hL:(fs++[p]).map vt=L at*
 rcases oR with ⟨X,rfl⟩|⟨rfl,o⟩
 ·have e0:gs=[]:=fw.1 X;subst e0
  have F:uid≠b+23:=by lia
  have I:b+23≠uid:=by lia
  have E:h≠b+23:=by lia
  have G:b+23≠h:=by lia
  obtain⟨K,M,N,B,C⟩:=Z2 (m:=m) (h:=h) (lo:=lo) (fid:=uid) (gid:=b+23) (w:=m.ba (b+23)+1) (xm:=xm) (b:=b) (p:=p) (fs:=fs) (gs:=[t]) (mk:=mk) (undo:=ah) T (by lia) (by lia) (by lia) (by lia) U (by lia) n2 (by lia) D (by lia) W n f y S;refine⟨_,mz A.mo A.ze (by simp) b (λc=>?_) B C (λi es e=> .inl e) trivial,K,M,N,B,C,rfl,λj Z q=>?_⟩;rotate_left
  ·by_cases a:j=uid
   ·subst a;exact .inl ⟨_,_,u⟩
   refine .inr ?_;simp only[Eu,Mem.put,ar];rw[aq q,aq a,aq (by lia),aq q,aq a,aq (by lia)];exact⟨rfl,rfl⟩
  show l7 P mf (yu m [.tmp 6] _ _) _
  have r:(1:Nat)*48<=2^47:=by lia
  simp only[mf,enter,go_sem,ab,fp,ak,ao,reduceCtorEq,cw,cy,PS.mem,ff,hb,u,F,E,D,Gv,pj,r,Qw,qz,uq,J,O,s,hz,x,Q,R,bn,aw,zo,z];refine xd (b:=b) (λi e=>?_) (λi e=>?_)
  ·simp only[Eu,Mem.put,ar,ki,lr,du,ic,vt,cq,ew,da]
   refine⟨?_,?_,trivial⟩<;>(repeat' split)<;>first|rfl|lia|(subst_vars;first|rfl|lia|simp)
  simp only[Eu,Mem.put,ar];rw[aq (show¬i=h by lia),aq (show¬i=uid by lia)];by_cases v:i=b+23
  ·subst v;simp only[da,aq G,aq I];exact⟨.inr ⟨rfl,by simp⟩,(f _ (by lia)).2⟩
  rw[aq v];exact⟨.inl (f i e).1,(f i e).2⟩
 have hG:=f.lt o
 have Y:(gs++[t]).length=gs.length+1:=by simp
 obtain⟨K,M,N,B,C⟩:=Z2 (m:=m) (h:=h) (lo:=lo) (fid:=uid) (gid:=g) (w:=m.ba g) (xm:=xm) (b:=b) (p:=p) (fs:=fs) (gs:=gs++[t]) (mk:=mk) (undo:=ah) T (by lia) l2 (by lia) (by lia) U n1 n2 n3 D V W n f y S;refine⟨_,mz A.mo A.ze (by simp) b (λc=>?_) B C (λi es e=> .inl e) trivial,K,M,N,B,C,rfl,λj Z q=>?_⟩;rotate_left
 ·by_cases a:j=uid
  ·subst a;exact .inl ⟨_,_,u⟩
  by_cases k:j=g
  ·subst k;exact .inl ⟨_,_,o⟩
  refine .inr ?_;simp only[Eu,Mem.put,ar];rw[aq q,aq a,aq k,aq q,aq a,aq k];exact⟨rfl,rfl⟩
 show l7 P mf (yu m [.tmp 6] _ _) _
 have r:(gs.length+1)*48<=2^47:=by lia
 simp only[mf,enter,go_sem,ab,ak,ao,reduceCtorEq,cw,cy,PS.mem,ff,al,hb,u,o,n1,D,V.symm,Gv,pj,r,qz,uq,J,O,s,hz,x,Q,R,bn,aw,zo,z,dz,cq];refine xd (b:=b) (λi e=>?_) (λi e=>?_)
 ·simp only[Eu,Mem.put,ar,ki,lr,fj,du,ic,vt,Y,da]
  refine⟨?_,?_,trivial⟩<;>(repeat' split)<;>first|rfl|lia|(subst_vars;first|rfl|lia|simp)
 simp only[Eu,Mem.put,ar];rw[aq (show¬i=h by lia),aq (show¬i=uid by lia),aq (show¬i=g by lia)];exact⟨.inl (f i e).1,(f i e).2⟩
theorem PE{m:Mem}{h lo b:Nat}{t:Tr}{us:List Tr}{mk:List (ByteArray×Tr)}(H:HAt m h lo t us [] mk)(q:yg m b):
  sl P A.lq m [.gz h (m.ba h) 0,.gz h (m.ba h) 3,.gz h (m.ba h) 2] m (.d (.int aj 7)):=by
 obtain⟨uid,j,xm,l,k,n,o,p,n1,n2,r,s,u,v,hb,w,g,f⟩:=H;simp only[ki,lr]at hb;refine mz A.mo A.ze (by simp) b (λc=>?_) (λi=>bm _) (λi x hx=> .inl hx) (λi es e=> .inl e) trivial;show l7 P mf (yu m [.tmp 6] _ _) _;rcases g with ⟨_,rfl⟩|⟨rfl,a⟩
 ·simp only[mf,enter,go_sem,ab,ak,ao,reduceCtorEq,cy,PS.mem,ff,hb,qz,uq];exact λi=>⟨.inr ⟨rfl,rfl⟩,.inr ⟨rfl,rfl⟩⟩
 simp only[ic]at a;simp only[mf,enter,go_sem,ab,ak,ao,reduceCtorEq,cy,PS.mem,ff,hb,a,qz,uq];exact λi=>⟨.inr ⟨rfl,rfl⟩,.inr ⟨rfl,rfl⟩⟩
theorem WK{m:Mem}{h lo b:Nat}{t p:Tr}{fs gs:List Tr}{mk:List (ByteArray×Tr)}(H:HAt m h lo t gs (fs++[p]) mk)(hl:fs.length<=1000)(a0:gs.length<=1000)(g:yg m b)(y:lo<=b):
  ∃m',sl P A.lq m [.gz h (m.ba h) 0,.gz h (m.ba h) 3,.gz h (m.ba h) 2] m' (.d (.int aj 0))/\HAt m' h lo p (gs++[t]) fs mk/\Kept m m' h lo/\yg m' (b+64)/\Wf2 m m' h b:=by
 obtain⟨uid,a,xm,cU,cR,l1,T,U,n1,n2,V,W,D,X,hb,oU,oR,n⟩:=H;have S:=g.lt hb;have EG:=HAt.Yb g n;simp only[ki,lr]at hb
 have q:(fs++[p]).map vt≠[]:=by simp
 obtain⟨rfl,u⟩:=oR.ref q;have hF:=g.lt u
 have J:((fs++[p]).map vt).length=fs.length+1:=by simp
 have e7:(fs++[p]).length=fs.length+1:=by simp
 have R:=IN (l:=fs) (p:=p)
 have z:((fs++[p]).map vt).take fs.length=fs.map vt:=by rw[<-Mm,ae2]
 rw[J]at hb;have O:=dr (((fs.length+1:Nat):Int)-1) (by lia) (by lia)
 have s:((fs.length+1:Nat):Int)-1=(fs.length:Int):=by lia
 rw[s]at O
 have hz:(((fs.length+1:Nat):Int)==0)=false:=by rw[beq_eq_false_iff_ne];lia
 have x:(fs.length:Int)<((fs.length+1:Nat):Int):=by lia
 have a1:fs.length<=fs.length+1:=by lia
 have Q:(fs.length:Int)<=((fs.length+1:Nat):Int):=by lia
 generalize hL:(fs++[p]).map vt=L at*
 rcases oU with ⟨Y,rfl⟩|⟨rfl,o⟩
 ·have e0:gs=[]:=fw.1 Y;subst e0
  have F:a≠b+23:=by lia
  have I:b+23≠a:=by lia
  have E:h≠b+23:=by lia
  have G:b+23≠h:=by lia
  obtain⟨K,M,N,B,C⟩:=Z2 (m:=m) (h:=h) (lo:=lo) (fid:=a) (gid:=b+23) (w:=m.ba (b+23)+1) (xm:=xm) (b:=b) (p:=p) (fs:=fs) (gs:=[t]) (mk:=mk) (undo:=ag) T (by lia) (by lia) (by lia) (by lia) U (by lia) V (by lia) D (by lia) X n g y S;refine⟨_,mz A.mo A.ze (by simp) b (λc=>?_) B C (λi es f=> .inl f) trivial,K,M,N,B,C,rfl,λj hj q=>?_⟩;rotate_left
  ·by_cases e:j=a
   ·subst e;exact .inl ⟨_,_,u⟩
   refine .inr ?_;simp only[Eu,Mem.put,ar];rw[aq q,aq e,aq (by lia),aq q,aq e,aq (by lia)];exact⟨rfl,rfl⟩
  show l7 P mf (yu m [.tmp 6] _ _) _
  have r:(1:Nat)*48<=2^47:=by lia
  simp only[mf,enter,go_sem,ab,fp,ak,ao,reduceCtorEq,cw,cy,PS.mem,ff,hb,u,F,E,D,Gv,pj,r,Qw,qz,uq,J,O,s,hz,x,Q,R,bn,aw,zo,z];refine xd (b:=b) (λi f=>?_) (λi f=>?_)
  ·simp only[Eu,Mem.put,ar,ki,lr,du,ic,vt,cq,ew,gp,bp]
   refine⟨?_,?_,trivial⟩<;>(repeat' split)<;>first|rfl|lia|(subst_vars;first|rfl|lia|simp)
  simp only[Eu,Mem.put,ar];rw[aq (show¬i=h by lia),aq (show¬i=a by lia)];by_cases v:i=b+23
  ·subst v;simp only[da,aq G,aq I];exact⟨.inr ⟨rfl,by simp⟩,(g _ (by lia)).2⟩
  rw[aq v];exact⟨.inl (g i f).1,(g i f).2⟩
 have hG:=g.lt o
 have Z:(gs++[t]).length=gs.length+1:=by simp
 obtain⟨K,M,N,B,C⟩:=Z2 (m:=m) (h:=h) (lo:=lo) (fid:=a) (gid:=uid) (w:=m.ba uid) (xm:=xm) (b:=b) (p:=p) (fs:=fs) (gs:=gs++[t]) (mk:=mk) (undo:=ag) T (by lia) l1 (by lia) (by lia) U n1.symm V n2 D W X n g y S;refine⟨_,mz A.mo A.ze (by simp) b (λc=>?_) B C (λi es f=> .inl f) trivial,K,M,N,B,C,rfl,λj hj q=>?_⟩;rotate_left
 ·by_cases e:j=a
  ·subst e;exact .inl ⟨_,_,u⟩
  by_cases k:j=uid
  ·subst k;exact .inl ⟨_,_,o⟩
  refine .inr ?_;simp only[Eu,Mem.put,ar];rw[aq q,aq e,aq k,aq q,aq e,aq k];exact⟨rfl,rfl⟩
 show l7 P mf (yu m [.tmp 6] _ _) _
 have r:(gs.length+1)*48<=2^47:=by lia
 simp only[mf,enter,go_sem,ab,ak,ao,reduceCtorEq,cw,cy,PS.mem,ff,al,hb,u,o,n1.symm,W.symm,D,Gv,pj,r,qz,uq,J,O,s,hz,x,Q,R,bn,aw,zo,z,dz,cq];refine xd (b:=b) (λi f=>?_) (λi f=>?_)
 ·simp only[Eu,Mem.put,ar,ki,lr,fj,du,ic,vt,Z,gp,bp]
  refine⟨?_,?_,trivial⟩<;>(repeat' split)<;>first|rfl|lia|(subst_vars;first|rfl|lia|simp)
 simp only[Eu,Mem.put,ar];rw[aq (show¬i=h by lia),aq (show¬i=a by lia),aq (show¬i=uid by lia)];exact⟨.inl (g i f).1,(g i f).2⟩
end
theorem Wf2.refl(m:Mem)(h b:Nat):Wf2 m m h b:=⟨λ_=>bm _,λ_ _ hx=> .inl hx,rfl,λ_ _ _=> .inr ⟨rfl,rfl⟩⟩
section
variable{P:Program}(A:Pr4 P)
theorem a2p{m:Mem}{h lo b:Nat}{t p:Tr}{fs gs:List Tr}{mk:List (ByteArray×Tr)}(H:HAt m h lo t (fs++[p]) gs mk)(n:fs.length<=1000)(a:gs.length<=1000)(q:yg m b)(e:lo<=b):
  ∃m',sl P A.x6 m [.gz h (m.ba h) 0] m' (.d (.int aj 0))/\HAt m' h lo p fs (gs++[t]) mk/\Kept m m' h lo/\yg m' (b+64):=by
 obtain⟨m',k,f,g,j,w1,w2,s,_⟩:=WJ A H n a q e;obtain⟨uid,r,xm,v,u,w,x,y,n1,n2,z,B,C,D,hb,F,E,o⟩:=H;refine⟨m',mz A.mo A.Tx (by simp) b (λc=>?_) w1 w2 (λi es l=> .inl (by rw[<-s];exact l)) trivial,f,g,j⟩;show l7 P (Fk A.lq) (yu m [.tmp 2] _ _) _;simp only[Fk,enter,go_sem,ab,reduceCtorEq,cy,hb];refine nh k ?_;simp only[go_sem,ab,PS.ke,PS.mem,qz,uq];exact λi=>⟨.inr ⟨rfl,rfl⟩,.inr ⟨rfl,rfl⟩⟩
theorem WZ{m:Mem}{h lo b:Nat}{t:Tr}{us:List Tr}{mk:List (ByteArray×Tr)}(H:HAt m h lo t us [] mk)(g:yg m b):sl P A.rh m [.gz h (m.ba h) 0] m (.d (.int aj 7)):=by
 have a:=PE A H g;obtain⟨uid,j,xm,l,k,n,o,p,n1,n2,q,r,s,u,hb,w,v,f⟩:=H;refine mz A.mo A.L5 (by simp) b (λc=>?_) (λi=>bm _) (λi x hx=> .inl hx) (λi es e=> .inl e) trivial;show l7 P (yz A.lq) (yu m [.tmp 2] _ _) _;simp only[yz,enter,go_sem,ab,reduceCtorEq,cy,hb];refine nh a ?_;simp only[go_sem,ab,PS.ke,PS.mem,qz,uq];exact λi=>⟨.inr ⟨rfl,rfl⟩,.inr ⟨rfl,rfl⟩⟩
theorem a2s{m:Mem}{h lo b:Nat}{t p:Tr}{fs gs:List Tr}{mk:List (ByteArray×Tr)}(H:HAt m h lo t gs (fs++[p]) mk)(n:fs.length<=1000)(a:gs.length<=1000)(q:yg m b)(e:lo<=b):
  ∃m',sl P A.rh m [.gz h (m.ba h) 0] m' (.d (.int aj 0))/\HAt m' h lo p (gs++[t]) fs mk/\Kept m m' h lo/\yg m' (b+64):=by
 obtain⟨m',k,f,g,j,w1,w2,s,_⟩:=WK A H n a q e;obtain⟨uid,r,xm,v,u,w,x,y,n1,n2,z,B,C,D,hb,F,E,o⟩:=H;refine⟨m',mz A.mo A.L5 (by simp) b (λc=>?_) w1 w2 (λi es l=> .inl (by rw[<-s];exact l)) trivial,f,g,j⟩;show l7 P (yz A.lq) (yu m [.tmp 2] _ _) _;simp only[yz,enter,go_sem,ab,reduceCtorEq,cy,hb];refine nh k ?_;simp only[go_sem,ab,PS.ke,PS.mem,qz,uq];exact λi=>⟨.inr ⟨rfl,rfl⟩,.inr ⟨rfl,rfl⟩⟩
theorem PX{pr:List (List Sp)->Bool}(l:Mk A.toPr pr){m:Mem}{h lo b:Nat}{t:Tr}{us y:List Tr}{mk:List (ByteArray×Tr)}(H:HAt m h lo t us y mk)(e:G7)(v:Og t)(s:Oe e)(q:(applyN pr t e).2≠0)(n:yg m b):
  sl P A.tx m [.gz h (m.ba h) 0,.d (.agg (nk e))] m (.d (.int aj (applyN pr t e).2)):=by
 obtain⟨uid,w,xm,B,z,D,E,F,n1,n2,G,I,J,K,hb,M,L,u⟩:=H;have C:=n.lt hb;have a:=tG A l t e v s
 have g:((applyN pr t e).2==0)=false:=by simpa using q
 generalize applyN pr t e=r at*
 simp only[vt,nk,ki,lr]at a;simp only[ki,lr]at hb
 have j:h≠b+3:=by lia
 have o:b+3≠h:=by lia
 have k:h≠b+5:=by lia
 have p:b+5≠h:=by lia
 refine mz A.mo A.Na (by simp) b (λc=>?_) (λi=>bm _) (λi x hx=> .inl hx) (λi es f=> .inl f) trivial;show l7 P (Az A.ql A.ud) (yu m [.tmp 4] _ _) _;simp only[Az,enter,nk,go_sem,ab,ak,ao,reduceCtorEq,cy,hb,j,k];refine ir a ?_;simp only[go_sem,ab,ak,reduceCtorEq,PS.mem,tc,g,qz,uq];refine xd (b:=b) (λi f=>?_) (λi f=>⟨.inl (n i f).1,(n i f).2⟩);simp only[ar];rw[aq (show¬i=b+3 by lia),aq (show¬i=b+5 by lia),aq (show¬i=b+3 by lia)]
 repeat rw[aq (show¬i=b+5 by lia)]
 exact⟨rfl,rfl,rfl⟩
theorem Ni.same{m m':Mem}(d:m'.ba=m.ba):∀x:B,Ni m x->Ni m' x:=by
 have e:∀c:C,Q7 m c->Q7 m' c:=λc a=>by
  cases c<;>first|trivial|(simp only[Q7,d]at a|-;exact a)
 intro x hx
 cases x<;>first|trivial|(intro c a;exact e c (hx c a))|(intro l b c a;exact e c (hx l b c a))
theorem a98{α:Type}(f:Nat->α)(i:Nat)(x y:α):lu (lu f i x) i y=lu f i y:=by
 funext j;simp only[ar];split<;>rfl
def a1j(m:Mem)(b:Nat):Mem:=⟨λi=>if b<=i/\i<b+64 then ae else m.di i,m.ba,m.mp⟩
theorem TZ{m:Mem}{h lo b:Nat}{t:Tr}{us g:List Tr}{mk:List (ByteArray×Tr)}(H:HAt m h lo t us g mk)(x:h<b)(e:∀j,b<=j->j<b+64->∀sz dv,m.di j≠aa (.arr sz dv)):HAt (a1j m b) h lo t us g mk:=by
 obtain⟨uid,a,xm,k,i,l,n,o,n1,n2,p,r,s,u,hb,w,v,f⟩:=H;refine⟨uid,a,xm,k,i,l,n,o,n1,n2,p,r,s,u,?_,?_,?_,f⟩
 ·show(if b<=h/\h<b+64 then ae else m.di h)=_;rw[aq (by lia)];exact hb
 ·rcases w with c|⟨c,d⟩
  ·exact .inl c
  refine .inr ⟨c,?_⟩;show(if b<=uid/\uid<b+64 then ae else m.di uid)=_;rw[aq (λq=>e uid q.1 q.2 _ _ d)];exact d
 rcases v with c|⟨c,d⟩
 ·exact .inl c
 refine .inr ⟨c,?_⟩;show(if b<=a/\a<b+64 then ae else m.di a)=_;rw[aq (λq=>e a q.1 q.2 _ _ d)];exact d
def doM(m:Mem)(b:Nat)(e:G7)(u:Tr):Mem:=⟨lu (lu m.di (b+3) (aa (.loc [.d (.int aj e.k),.d (.str e.n),.d (.str e.t),.d (.int aj e.v),.d (.str e.nd.n),.d (.int aj e.nd.f.k),.d (qx e.nd.f.vs),.d (kh e.nd.f.ls),.d (kn e.nd.ins)]))) (b+5) (aa (.loc [.d (ki u.ps),.d (lr u.ns)])),
 lu (lu m.ba (b+3) (m.ba (b+3)+1)) (b+5) (m.ba (b+5)+2),lu m.mp (b+5) ae⟩
theorem a2x{pr:List (List Sp)->Bool}(B:Mk A.toPr pr){m:Mem}{h lo b:Nat}{t:Tr}{us rs:List Tr}{mk:List (ByteArray×Tr)}(H:HAt m h lo t us rs mk)(e:G7)(W:Og t)(Q:Oe e)(F:(applyN pr t e).2=0)(U:us.length<50)(n:yg m b)(S:lo<=b):
  ∃m',sl P A.tx m [.gz h (m.ba h) 0,.d (.agg (nk e))] m' (.d (.int aj 0))/\HAt m' h lo (applyN pr t e).1 (us++[t]) [] mk/\Kept m m' h lo/\yg m' (b+128):=by
 have k:=tG A B t e W Q
 have q:((applyN pr t e).2==0)=true:=by simpa using F
 generalize applyN pr t e=r at*
 rw[F]at k q
 have a:∀i,i<b->(doM m b e r.1).di i=m.di i/\(doM m b e r.1).ba i=m.ba i/\(doM m b e r.1).mp i=m.mp i:=λi l=>by
  simp only[doM,ar];rw[aq (show¬i=b+5 by lia),aq (show¬i=b+3 by lia),aq (show¬i=b+5 by lia),aq (show¬i=b+3 by lia),aq (show¬i=b+5 by lia)];exact⟨rfl,rfl,rfl⟩
 have K:=H.mono (b:=b) (m':=doM m b e r.1) n a
 have J:yg (doM m b e r.1) (b+64):=λi l=>by
  simp only[doM,ar];rw[aq (show¬i=b+5 by lia),aq (show¬i=b+3 by lia),aq (show¬i=b+5 by lia)];exact n i (by lia)
 obtain⟨m',E,X,G,I,w1,w2,w3,w4⟩:=a63 A (u:=r.1) K U J (by lia);obtain⟨uid,a0,xm,cU,cR,l1,l2,l3,n1,n2,n3,n4,n5,n6,hb,oU,oR,T⟩:=H;have s:=n.lt hb
 have z:∀j,b<=j->j<b+64->∀sz dv,m'.di j≠aa (.arr sz dv):=λj g M sz dv f=>by
  have D:∀sz dv,(doM m b e r.1).di j≠aa (.arr sz dv):=λsz dv f=>by
   simp only[doM,ar]at f;split at f
   ·cases f
   split at f
   ·cases f
   rw[(n j g).1]at f;cases f
  rcases w4 j M (by lia)with ⟨a1,L,p⟩|⟨p,_⟩
  ·exact D _ _ p
  rw[p]at f;exact D _ _ f
 have C:∀i,m.ba i<=(doM m b e r.1).ba i:=λi=>by
  simp only[doM,ar]
  (repeat' split)<;>first|lia|(subst_vars;lia)
 have o:m'.mp=m.mp:=by
  rw[w3]
  funext i
  simp only[doM,ar];split
  ·subst_vars;exact(n _ (by lia)).2.symm
  rfl
 refine⟨a1j m' b,mz A.mo A.Na (by simp) b (λc=>?_) (λi=>jg (C i) (w1 i)) (λi x hx=>?_) (λi es l=> .inl (by rw[<-o];exact l)) trivial,TZ X s z,⟨λj R Y=>?_,?_⟩,λi l=>?_⟩
 ·simp only[vt,nk,ki,lr]at k;simp only[ki,lr]at hb
  have v:h≠b+3:=by lia
  have N:b+3≠h:=by lia
  have w:h≠b+5:=by lia
  have O:b+5≠h:=by lia
  have vh:(doM m b e r.1).ba h=m.ba h:=(a h s).2.1;rw[vh]at E;show l7 P (Az A.ql A.ud) (yu m [.tmp 4] _ _) _;simp only[Az,enter,nk,go_sem,ab,ak,ao,reduceCtorEq,cy,hb,v,w];refine ir k ?_;simp only[go_sem,ab,ak,reduceCtorEq,tc,ff,a98];refine nh E ?_;simp only[go_sem,ab,PS.ke,PS.mem,qz,uq];refine xd (b:=b) (λi l=>?_) (λi l=>?_)
  ·refine⟨?_,rfl,rfl⟩;show(if b<=i/\i<b+64 then ae else m'.di i)=_;rw[aq (by lia)]
  refine⟨?_,?_⟩
  ·show(if b<=i/\i<b+64 then ae else m'.di i)=ae\/((if b<=i/\i<b+64 then ae else m'.di i)=m'.di i/\_);split
   ·exact .inl rfl
   exact .inr ⟨rfl,rfl⟩
  show m'.mp i=ae;rw[o];exact(n i l).2
 ·change(if b<=i/\i<b+64 then ae else m'.di i)=aa x at hx;split at hx
  ·cases hx
  next V=>
  rcases w2 i x hx with g|g
  ·by_cases y:i<b
   ·rw[(a i y).1]at g;exact .inl g
   rw[(J i (by lia)).1]at g;cases g
  exact .inr (Ni.same rfl x g)
 ·obtain⟨q1,q2,q3⟩:=G.1 j R Y;obtain⟨Z,p2,p3⟩:=a j (by lia);refine⟨?_,q2.trans p2,q3.trans p3⟩;show(if b<=j/\j<b+64 then ae else m'.di j)=_;rw[aq (by lia)];exact q1.trans Z
 ·exact G.2.trans (a h s).2.1
 refine⟨?_,(I i (by lia)).2⟩;show(if b<=i/\i<b+64 then ae else m'.di i)=ae;rw[aq (by lia)];exact(I i (by lia)).1
end
theorem sl.a8a{P:Program}{f:Nat}{m m':Mem}{v0:V}{x y:D}{r:V}(h:sl P f m [v0,.d y] m' r)(l:Wk x y):sl P f m [v0,.d x] m' r:=
 ⟨h.1,λs B0 w0 n e G E a w vs k g j b=>h.2 s B0 w0 n e G E a w vs k g j λi z v hz c=>by
  match i with
  |0=>exact b 0 z v hz c
  |1=>
   simp at hz;subst hz;exact l G v (b 1 (.d x) v rfl c)
  |i+2=>simp at hz⟩
def WkL(xs ys:List D):Prop:=xs.length=ys.length/\∀(i:Nat) (x y:D),xs[i]? =aa x->ys[i]? =aa y->Wk x y
theorem WkL.nil:WkL [] []:=⟨rfl,λi x y h=>by simp at h⟩
theorem WkL.cons{x y:D}{xs ys:List D}(h:Wk x y)(t:WkL xs ys):WkL (x::xs) (y::ys):=by
 refine⟨by simp[t.1],λi a b c hb=>?_⟩
 cases i with
 |zero=>simp at c hb;subst c hb;exact h
 |succ i=>exact t.2 i a b (by simpa using c) (by simpa using hb)
theorem WkL.agg{xs ys:List D}(h:WkL xs ys):Wk (.agg xs) (.agg ys):=Wk.agg h.1 h.2
def WkR(xs ys:List (List D)):Prop:=xs.length=ys.length/\∀(i:Nat) (x y:List D),xs[i]? =aa x->ys[i]? =aa y->WkL x y
theorem WkR.nil:WkR [] []:=⟨rfl,λi x y h=>by simp at h⟩
theorem WkR.cons{x y:List D}{xs ys:List (List D)}(h:WkL x y)(t:WkR xs ys):WkR (x::xs) (y::ys):=by
 refine⟨by simp[t.1],λi a b c hb=>?_⟩
 cases i with
 |zero=>simp at c hb;subst c hb;exact h
 |succ i=>exact t.2 i a b (by simpa using c) (by simpa using hb)
theorem WkR.gd{sz:Nat}{xs ys:List (List D)}(h:WkR xs ys):Wk (.gd sz xs) (.gd sz ys):=Wk.gd h.1 h.2
def bE:ByteArray:=⟨#[]⟩
def bW:ByteArray:=⟨#[119]⟩
def bA:ByteArray:=⟨#[97]⟩
def bB:ByteArray:=⟨#[98]⟩
def bC:ByteArray:=⟨#[99]⟩
def bM:ByteArray:=⟨#[109]⟩
def Rt:List Nd:=[⟨bA,⟨0,[⟨bE,0,0⟩,⟨bE,0,0⟩,⟨bE,0,0⟩,⟨bW,1,0⟩,⟨bE,0,1⟩,⟨bE,0,1⟩],[]⟩,[]⟩,⟨bB,⟨0,[⟨bE,0,0⟩,⟨bE,0,0⟩,⟨bE,0,0⟩,⟨bE,0,1⟩,⟨bE,0,1⟩,⟨bE,0,2⟩],[]⟩,[]⟩,⟨bC,⟨4,[],[]⟩,[bB,bA]⟩]
def Pp:Tr:=⟨[⟨bW,2⟩],Rt⟩
section
variable{P:Program}(A:Pr5 P)
theorem KB(e:G7)(f:Oe e):∃b,iv P A.Gf [.agg (nk e)] (.bool b):=by
 obtain⟨h,i,j,k⟩:=f;have d:=qI A.toPr ⟨[],[e.nd]⟩ ⟨by simp,λn g=>by rw[Q9.1 g];exact⟨by lia,by lia⟩⟩;simp only[vt,ki,lr,pa,ic,du]at d;have a:=d.ac1 (y:= .agg [.cj,.gd 5 [pa e.nd]]) (WkL.agg (WkL.cons Wk.cj (WkL.cons (Wk.refl _) WkL.nil)));simp only[pa]at a;by_cases c1:(e.n.size:Int)<=100
 ·by_cases c:(e.t.size:Int)<=100
  ·refine⟨bO ⟨[],[e.nd]⟩,ez A.mo A.Rz (by simp) ?_⟩;show l7 P (E0 A.vp) (ly _ _) _;simp only[E0,nk,go_sem,ab,ak,ao,reduceCtorEq,cw,c1,c];refine jn (ds:=[_]) rfl a rfl ?_;simp only[go_sem,ab]
  refine⟨ag,ez A.mo A.Rz (by simp) ?_⟩;show l7 P (E0 A.vp) (ly _ _) _;simp only[E0,nk,go_sem,ab,ak,ao,reduceCtorEq,c1,c]
 refine⟨ag,ez A.mo A.Rz (by simp) ?_⟩;show l7 P (E0 A.vp) (ly _ _) _;simp only[E0,nk,go_sem,ab,ak,ao,reduceCtorEq,c1]
theorem a2t:iv P A.Fu [] (.agg (vt Pp)):=by
 have a:iv P A.Fu [] (.agg [.gd 2 [[.str bW,.int aj 2]],.gd 5 [[.str bA,.int aj 0,.gd 3 ([⟨bE,0,0⟩,⟨bE,0,0⟩,⟨bE,0,0⟩,⟨bW,1,0⟩,⟨bE,0,1⟩,⟨bE,0,1⟩].map B4),.cj,.cj],[.str bB,.int aj 0,.gd 3 ([⟨bE,0,0⟩,⟨bE,0,0⟩,⟨bE,0,0⟩,⟨bE,0,1⟩,⟨bE,0,1⟩,⟨bE,0,2⟩].map B4),.cj,.cj],[.str bC,.int aj 4,.cj,.cj,.gd 1 [[.str bB],[.str bA]]]]]):=by
  refine ez A.mo A.uX (by simp) ?_;show l7 P Th (ly _ _) _;simp only[Th,go_sem,ab,ak,ao,reduceCtorEq,cw,ff,bE,bW,bA,bB,bC,B4]
 refine a.Nl (WkL.agg (.cons (Wk.refl _) (.cons (WkR.gd (.cons ?_ (.cons ?_ (.cons ?_ .nil)))) .nil)))
 ·exact .cons (Wk.refl _) (.cons (Wk.refl _) (.cons (Wk.refl _) (.cons Wk.cj (.cons Wk.cj .nil))))
 ·exact .cons (Wk.refl _) (.cons (Wk.refl _) (.cons (Wk.refl _) (.cons Wk.cj (.cons Wk.cj .nil))))
 exact .cons (Wk.refl _) (.cons (Wk.refl _) (.cons Wk.cj (.cons Wk.cj (.cons (Wk.refl _) .nil))))
end
def a62(m:Mem)(xm:Nat)(es:List (D×C)):Mem:=⟨m.di,m.ba,lu m.mp xm (aa es)⟩
theorem a9s:G3 (.one .str) (.str bM) (.str bM)=aa true:=by decide+kernel
section
variable{P:Program}(A:Pr5 P)
theorem HD:iv P A.lb [.str bM] (.bool ah):=by
 have h:=Za A.toPr bM
 rwa[show zb bM=ah by decide+kernel]at h
theorem XB{m:Mem}{h lo b:Nat}{t u:Tr}{us q:List Tr}(H:HAt m h lo t us q [(bM,u)])(f:yg m b):
  sl P A.rj m [.gz h (m.ba h) 0,.d (.str bM)] m (.d (.int aj 7)):=by
 obtain⟨uid,p,xm,v,s,y,z,B,n1,n2,E,F,G,I,hb,K,J,a⟩:=H;have w:=f.lt hb;have r:=HAt.Yb f a;simp only[ki,lr]at hb
 have l:h≠b+5:=by lia
 have j:b+5≠h:=by lia
 have n:xm≠b+5:=by lia
 have k:b+5≠xm:=by lia
 have o:=HD A;simp only[du,ic,cMk,vt,ki,lr]at a
 have g:Iv (.one .str) (.str bM) [(D.str bM,C.d (.agg [.gd 2 (u.ps.map mg),.gd 5 (u.ns.map pa)]))]=aa (aa (C.d (.agg [.gd 2 (u.ps.map mg),.gd 5 (u.ns.map pa)]))):=by simp[Iv,a9s]
 refine mz A.mo A.L7 (by simp) b (λc=>?_) (λi=>bm _) (λi x hx=> .inl hx) (λi es e=> .inl e) trivial;show l7 P (za A.lb) (yu m [.tmp 4] _ _) _;simp only[za,enter,go_sem,ab,ak,reduceCtorEq,PS.ents,cy,Lc,hb,a,g];refine gq o ?_;simp only[go_sem,ab,PS.mem,qz,uq];refine xd (b:=b) (λi e=>⟨?_,?_,rfl⟩) (λi e=>⟨.inl (f i e).1,(f i e).2⟩)
 ·simp only[ar];rw[aq (show¬i=b+5 by lia),aq (show¬i=b+5 by lia)]
 simp only[ar];rw[aq (show¬i=b+5 by lia)]
theorem XC{m:Mem}{h lo b:Nat}{t:Tr}{us s:List Tr}(H:HAt m h lo t us s [])(g:yg m b)(B:lo<=b):
  ∃m',sl P A.rj m [.gz h (m.ba h) 0,.d (.str bM)] m' (.d (.int aj 0))/\HAt m' h lo t us s [(bM,t)]/\Kept m m' h lo/\yg m' b:=by
 obtain⟨uid,q,xm,w,u,F,G,I,n1,n2,J,K,L,M,hb,O,N,f⟩:=H;have R:=g.lt hb;have Q:=HAt.Yb g f;have k:=hb;simp only[ki,lr]at hb
 have l:h≠b+5:=by lia
 have y:b+5≠h:=by lia
 have o:xm≠b+5:=by lia
 have z:b+5≠xm:=by lia
 have E:=HD A;simp only[ic]at f;have n:Iv (.one .str) (.str bM) ([]:List (D×C))=aa none:=rfl;have p:∀v:C,O9 (.one .str) (.str bM) v []=aa [(.str bM,v)]:=λv=>rfl;refine⟨a62 m xm [cMk (bM,t)],mz A.mo A.L7 (by simp) b (λc=>?_) (λi=>bm _) (λi x hx=> .inl hx) (λi es a=>?_) trivial,⟨uid,q,xm,w,u,F,G,I,n1,n2,J,K,L,M,k,O,N,?_⟩,⟨λj S T=>⟨rfl,rfl,?_⟩,rfl⟩,λi a=>⟨(g i a).1,?_⟩⟩
 ·show l7 P (za A.lb) (yu m [.tmp 4] _ _) _;simp only[za,enter,go_sem,ab,ak,reduceCtorEq,PS.ents,cy,Lc,hb,f,n];refine gq E ?_;simp only[go_sem,ab,ft,ak,ao,reduceCtorEq,PS.ents,cy,PS.mem,hb,f,l,o,p,qz,uq];refine xd (b:=b) (λi a=>⟨?_,?_,rfl⟩) (λi a=>⟨.inl (g i a).1,?_⟩)
  ·simp only[ar];rw[aq (show¬i=b+5 by lia),aq (show¬i=b+5 by lia)];rfl
  ·simp only[ar];rw[aq (show¬i=b+5 by lia)];rfl
  show lu m.mp xm _ i=_;simp only[ar];rw[aq (by lia)];exact(g i a).2
 ·change lu m.mp xm _ i=aa es at a;simp only[ar]at a;split at a
  ·injection a with a
   subst a;refine .inr λe r=>?_;simp only[fa,kz,or_false]at r;subst r;trivial
  exact .inl a
 ·show lu m.mp xm _ xm=_;simp only[ar,da,du,ic]
 ·show lu m.mp xm _ j=_;simp only[ar];rw[aq (by lia)]
 show lu m.mp xm _ i=_;simp only[ar];rw[aq (by lia)];exact(g i a).2
end
open Classical in
theorem Wm{S:Nat->Prop}(f:Nat->Nat):∀(H:Nat) (S:Nat->Prop),(∀i,S i->f i<H)->(∀i j,S i->S j->i≠j->f i≠f j)->∃b,∀i,S i->i<b
 |0,S,h1,_=>⟨0,λi a=>absurd (h1 i a) (a8m _)⟩
 |H+1,S,h1,h2=>by
  by_cases hx:∃i,S i/\f i=H
  ·obtain⟨c,g,k⟩:=hx
   obtain⟨b,hb⟩:=Wm (S:=S) f H (λi=>S i/\i≠c) (λi a=>by
    have:=h1 i a.1;have:=h2 i c a.1 g a.2
    lia) (λi j a h d=>h2 i j a.1 h.1 d)
   refine⟨max b (c+1),λi a=>?_⟩;by_cases e:i=c
   ·lia
   have:=hb i ⟨a,e⟩;lia
  exact Wm (S:=S) f H S (λi a=>by
   have:=h1 i a;have:f i≠H:=λe=>hx ⟨i,a,e⟩
   lia) h2
section
variable{P:Program}
theorem MW{B0 p:Nat}{w0 w:World}{k G:ix}{s:PS}{E:Env}{a:Act}(h:jw B0 w0 p k s G E a w):∃b,yg s.mem b:=by
 obtain⟨l,n⟩:=Wm (S:=λi=>s.di i≠ae) E.b w.heap.size (λi=>s.di i≠ae) (λi c=>by
  obtain⟨b,hb⟩:=Hs.1 c;obtain⟨_,_,cells,q,e,_⟩:=h.di i b hb
  exact(la.1 e).1) (λi j c f d=>by
  obtain⟨b,hb⟩:=Hs.1 c;obtain⟨b',g⟩:=Hs.1 f
  exact h.inj i j b b' hb g d)
 obtain⟨b2,o⟩:=Wm (S:=λi=>s.mp i≠ae) E.m w.heap.size (λi=>s.mp i≠ae) (λi c=>by
  obtain⟨b,hb⟩:=Hs.1 c;obtain⟨_,_,ents,clock,e,_⟩:=h.mp i b hb
  exact(la.1 e).1) (λi j c f d=>by
  obtain⟨b,hb⟩:=Hs.1 c;obtain⟨b',g⟩:=Hs.1 f
  exact h.Sn i j b b' hb g d)
 refine⟨max l b2,λi c=>⟨?_,?_⟩⟩
 ·show s.di i=ae;apply sJ;intro hx;have:=n i hx;lia
 show s.mp i=ae;apply sJ;intro hx;have:=o i hx;lia
theorem sl.any{f:Nat}{m m':Mem}{args:List V}{r:V}(i:B3 P f=ah)(h:∀b,yg m b->sl P f m args m' r):sl P f m args m' r:=by
 refine⟨i,λs B0 w0 k e G E a w vs d c j g=>?_⟩;obtain⟨b,hb⟩:=MW c;rw[d]at hb;exact(h b hb).2 s B0 w0 k e G E a w vs d c j g
variable(A:Pr5 P)
theorem WY{m:Mem}{h b:Nat}{t:Tr}{k j cM:C}(n:Mid t)(hb:m.di h=aa (.loc [.d (ki t.ps),.d (lr t.ns),k,j,cM]))(f:yg m b):sl P A.oo m [.gz h (m.ba h) 0] m (.d (.agg (vt t))):=by
 have o:=f.lt hb
 have e:h≠b+2:=by lia
 have l:b+2≠h:=by lia
 have g:=jM A.toPr4.toPr t n;simp only[vt,ki,lr]at g hb;refine mz A.mo A.L1 (by simp) b (λc=>?_) (λi=>bm _) (λi x hx=> .inl hx) (λi es a=> .inl a) trivial;show l7 P (yy A.lz) (yu m [.cell 2 2 ah] _ _) _;simp only[yy,enter,vt,ki,lr,go_sem,ab,ak,ao,reduceCtorEq,cy,hb,e];refine gq g ?_;simp only[go_sem,ab,ak,PS.mem,qz,uq];refine xd (b:=b) (λi a=>⟨?_,?_,rfl⟩) (λi a=>⟨.inl (f i a).1,(f i a).2⟩)
 ·simp only[ar];rw[aq (show¬i=b+2 by lia),aq (show¬i=b+2 by lia)]
 simp only[ar];rw[aq (show¬i=b+2 by lia)]
theorem WX{s:PS}{h v:Nat}{t:Tr}{f e cM:C}(j:Mid t)(o:v=s.ba h)(hb:s.di h=aa (.loc [.d (ki t.ps),.d (lr t.ns),f,e,cM])):OG P A.oo s [.gz h v 0] (.agg (vt t)):=by
 intro c hs;have n:T8 s c h v:=hs _ List.mem_cons_self;have a:=n.1.cs
 have l:s.cs h v=aa [.d (ki t.ps),.d (lr t.ns),f,e,cM]:=by
  unfold PS.cs;rw[bc o.symm,hb]
 rw[l]at a;unfold PS.cs at a;split at a
 ·next i=>
  have g:c.di h=aa (.loc [.d (ki t.ps),.d (lr t.ns),f,e,cM]):=by
   cases k:c.di h with
   |none=>rw[k]at a;cases a
   |some x=>
    rw[k]at a
    cases x<;>first|(injection a with a;rw[a])|cases a
  rw[<-i];exact sl.any (a2q A.toPr4 t j .Y9 .Y9 .Y9).1 λb p=>WY A j (m:=c.mem) g p
 cases a
theorem HAt.a0t{s:PS}{h lo v:Nat}{t:Tr}{us e:List Tr}{mk:List (ByteArray×Tr)}(H:HAt s.mem h lo t us e mk)(a:Mid t)(c:v=s.ba h):OG P A.oo s [.gz h v 0] (.agg (vt t)):=by
 obtain⟨uid,d,xm,g,f,i,j,k,n1,n2,l,m,n,o,hb,q,p,b⟩:=H;exact WX A a c hb
end
def w5T:Tr:=⟨[⟨bW,5⟩],Rt⟩
def ed5:G7:=⟨0,bW,bE,5,⟨bE,⟨0,[],[]⟩,[]⟩⟩
def edA:G7:=⟨4,bA,bE,0,⟨bE,⟨0,[],[]⟩,[]⟩⟩
theorem LQ:yj w8 Pp=true:=by decide+kernel
theorem VW:yj w8 w5T=true:=by decide+kernel
theorem VY:tn Pp ed5=(w5T,0):=by
 have a:ku Pp bW=0:=by decide+kernel
 unfold tn;rw[bc (show ed5.k=0 from rfl),show ed5.n=bW from rfl,a];rfl
theorem VX:H6 w5T=w5T:=by
 have a:ji Pm.n w5T.ps=w5T.ps:=rfl
 have b:strLt bB bA=false:=by decide+kernel
 have c:strLt bC bB=false:=by decide+kernel
 have d:strLt bA bB=true:=by decide+kernel
 have e:strLt bB bC=true:=by decide+kernel
 unfold H6;rw[a];simp only[w5T,Rt,ji,List.foldl,rZ,oq,ub,qc,tp,b,c,gp,bp]
theorem wQ:applyN w8 Pp ed5=(w5T,0):=by
 unfold applyN;rw[aq (by decide),VY,VX,aq (by simp),bc VW]
def erT:Tr:=⟨[⟨bW,5⟩],[⟨bB,⟨0,[⟨bE,0,0⟩,⟨bE,0,0⟩,⟨bE,0,0⟩,⟨bE,0,1⟩,⟨bE,0,1⟩,⟨bE,0,2⟩],[]⟩,[]⟩,⟨bC,⟨4,[],[]⟩,[bB,bA]⟩]⟩
theorem AM:(applyN w8 w5T edA).2=230:=by
 have a:ur w5T bA=0:=by decide+kernel
 have c:tn w5T edA=(erT,0):=by
  unfold tn;rw[aq (by decide),aq (by decide),aq (by decide),aq (by decide),bc (show edA.k=4 from rfl),show edA.n=bA from rfl,a];rfl
 have b:H6 erT=erT:=by
  have a:ji Pm.n erT.ps=erT.ps:=rfl
  have b:strLt bC bB=false:=by decide+kernel
  have e:strLt bB bC=true:=by decide+kernel
  unfold H6;rw[a];simp only[erT,ji,List.foldl,rZ,oq,ub,qc,tp,b,gp,bp]
 have d:yj w8 erT=false:=by decide+kernel
 unfold applyN;rw[aq (by decide),c,b,d];rfl
theorem qB{n a:ByteArray}{k v:Int}:Oe ⟨k,n,a,v,⟨bE,⟨0,[],[]⟩,[]⟩⟩:=⟨by simp,by simp,by simp,by simp⟩
theorem Y6:∀n∈Rt,Ur n:=by
 intro n a;simp only[Rt,fa,kz,or_false]at a;rcases a with rfl|rfl|rfl<;>exact⟨by simp,by simp,by simp,by simp⟩
theorem eU:Og Pp:=⟨by simp[Pp],by simp[Pp,Rt],Y6⟩
theorem pS:Og w5T:=⟨by simp[w5T],by simp[w5T,Rt],Y6⟩
def dE5:D:= .agg [.int aj 0,.str ⟨#[119]⟩,.str ⟨#[]⟩,.int aj 5,.str ⟨#[]⟩,.int aj 0,.cj,.cj,.cj]
def dEA:D:= .agg [.int aj 4,.str ⟨#[97]⟩,.str ⟨#[]⟩,.int aj 0,.str ⟨#[]⟩,.int aj 0,.cj,.cj,.cj]
theorem a5u:Wk dE5 (.agg (nk ed5)):=
 WkL.agg (.cons (Wk.refl _) (.cons (Wk.refl _) (.cons (Wk.refl _) (.cons (Wk.refl _) (.cons (Wk.refl _) (.cons (Wk.refl _) (.cons Wk.cj (.cons Wk.cj (.cons Wk.cj .nil)))))))))
theorem a5t:Wk dEA (.agg (nk edA)):=
 WkL.agg (.cons (Wk.refl _) (.cons (Wk.refl _) (.cons (Wk.refl _) (.cons (Wk.refl _) (.cons (Wk.refl _) (.cons (Wk.refl _) (.cons Wk.cj (.cons Wk.cj (.cons Wk.cj .nil)))))))))
section
theorem a4u:vt w5T=[.gd 2 [[.str bW,.int aj 5]],lr Rt]:=rfl
theorem UJ:vt Pp=[.gd 2 [[.str bW,.int aj 2]],lr Rt]:=rfl
variable{P:Program}(A:Pr5 P)
theorem PY{s:PS}{h lo v:Nat}{t:Tr}{us a:List Tr}{mk:List (ByteArray×Tr)}(H:HAt s.mem h lo t us a mk)(g:v=s.ba h){K:PS->Prop}{d:Option Nat}{r:List RI}(f:mc P r (s.put d (.d (.Bb [.int aj us.length,.int aj a.length]))) K):
  Gt P A.qw [.gz h v 0] [] ag d s (Bo P r K):=by
 obtain⟨x,y,b,c,e⟩:=H.data;subst g;refine jn (ds:=[_]) ?_ (XF A.toPr4 (ki t.ps) (lr t.ns) (.map (mk.map λx=>(.str x.1,.agg (vt x.2)))) c e) rfl f
 show(match snap s (.gz h (s.ba h) 0),Ln s []with|some x,aa l=>aa (x::l)|_,_=>ae)=_
 rw[b];rfl
theorem WW(a:Mk A.toPr w8):iv P A.C9 [] (.bool ah):=by
 refine ez A.mo A.pB (by simp) ?_;show l7 P (Rj A.Fu A.Gi A.tx A.oo A.x6 A.qw A.rh A.rj) (ly _ _) _;have hP:=a2t A;have t:=eU.xm;have wm:=pS.xm;have q:Om Pp:=⟨by simp[Pp,Rt],λn z=>by obtain⟨q1,q2,q3,q4⟩:=Y6 n z;exact⟨q4,q1,q2,q3⟩⟩;obtain⟨G,h,r,K,s⟩:=a2u A.toPr4 a Pp t q LQ (start []).mem 200 (λi _=>⟨rfl,rfl⟩);simp only[ak]at h r s;obtain⟨v,B⟩:∃v,v=G.ba 211:=⟨_,rfl⟩;obtain⟨H,f,c,C,w⟩:=a2x A.toPr4 a r ed5 eU qB (by rw[wQ]) (by simp) s (by lia);rw[wQ]at c;replace c:HAt H 211 200 w5T [Pp] [] []:=c;have g:=C.2;obtain⟨I,j,d,D,x⟩:=a2p A.toPr4 (fs:=[]) c (by simp) (by simp) w (by lia);replace d:HAt I 211 200 Pp [] [w5T] []:=d;have v3:=D.2.trans g;obtain⟨J,k,e,E,p⟩:=a2s A.toPr4 (fs:=[]) d (by simp) (by simp) x (by lia);replace e:HAt J 211 200 w5T [Pp] [] []:=e;have v4:=E.2.trans v3;have l:=WZ A.toPr4 e p;have b:=PX A.toPr4 a e edA pS qB (by rw[AM];decide) p;rw[AM]at b;obtain⟨L,m,u,F,y⟩:=XC A e p (by lia);have v5:=F.2.trans v4;have o:=XB A u y;have f:=f.a8a a5u;have b:=b.a8a a5t;rw[g]at j;rw[v3]at k;rw[v4]at l b m;rw[v5]at o;rw[<-B]at h f j k l b m o g v3 v4 v5;simp only[Rj,go_sem];refine Ic hP ?_;simp only[go_sem,reduceCtorEq];refine nh h ?_;simp only[go_sem,ab,mj,ak,ao,reduceCtorEq,PS.ke];refine nh f ?_;simp only[go_sem,ab,mj,reduceCtorEq,PS.ke];refine fM (HAt.a0t A (by exact c) wm (by exact g.symm)) ?_;simp only[a4u,go_sem,ab,mj,ak,ao,reduceCtorEq];refine nh j ?_;simp only[go_sem,ab,mj,reduceCtorEq,PS.ke];refine PY A (by exact d) (by exact v3.symm) ?_;simp only[go_sem,ab,Bz,reduceCtorEq];refine fM (HAt.a0t A (by exact d) t (by exact v3.symm)) ?_;simp only[UJ,go_sem,ab,Bz,ak,ao,reduceCtorEq];refine nh k ?_;simp only[go_sem,ab,Bz,reduceCtorEq,PS.ke];refine nh l ?_;simp only[go_sem,ab,Bz,ak,ao,reduceCtorEq,PS.ke];refine nh b ?_;simp only[go_sem,ab,Bz,reduceCtorEq,PS.ke];refine nh m ?_;simp only[go_sem,ab,Bz,reduceCtorEq,PS.ke];refine nh o ?_;simp only[go_sem,ab,Bz,reduceCtorEq,PS.ke]
end
theorem mA{p q:List (List Sp)->Bool}(h:∀ls,p ls=ah->q ls=ah){f:Ft}(b:yc p f=ah):yc q f=true:=by
 unfold yc at b|-;simp only[dc]at b|-;obtain⟨d,e,g,a⟩:=b;refine⟨d,e,g,?_⟩;by_cases c:kP f.k=ah
 ·rw[bc c]at a|-;exact h _ a
 rw[aq c]at a|-;exact a
theorem DL{p q:List (List Sp)->Bool}(h:∀ls,p ls=ah->q ls=ah){f:Ft}(a:yc p f=ah)(l:List Pm):xh q f l=xh p f l:=by
 unfold xh;rw[a,mA h a]
theorem BY{p q:List (List Sp)->Bool}(h:∀ls,p ls=ah->q ls=ah){t:Tr}(a:yj p t=ah):yj q t=true:=by
 unfold yj at a|-;simp only[dc]at a|-;obtain⟨d,e,b,f⟩:=a;refine⟨d,e,?_,f⟩;rw[dg]at b|-;intro i g;have:=b i g;unfold Bu at this|-;simp only[dc]at this|-;obtain⟨j,k,c,l,m,n⟩:=this;exact⟨j,k,mA h c,l,m,by rw[DL h c];exact n⟩
theorem Uv{p:List (List Sp)->Bool}{t:Tr}(a:yj p t=ah):t.ps.length<=20/\t.ns.length<=20:=by
 unfold yj Av at a;simp only[dc,decide_eq_true_eq]at a;exact⟨a.1.1,a.2.1⟩
theorem HAt.low{m m':Mem}{h lo:Nat}{t:Tr}{us g:List Tr}{mk:List (ByteArray×Tr)}(H:HAt m h lo t us g mk)(a:∀i,lo<=i\/i=h->m'.di i=m.di i/\m'.ba i=m.ba i/\m'.mp i=m.mp i):HAt m' h lo t us g mk:=by
 obtain⟨uid,b,xm,k,j,d,e,f,n1,n2,l,n,o,p,hb,r,q,c⟩:=H;exact⟨uid,b,xm,k,j,d,e,f,n1,n2,l,n,o,p,by rw[(a h (.inr rfl)).1,(a xm (.inl f)).2.1];exact hb,r.mono (a uid (.inl d)).1 (a uid (.inl d)).2.1,q.mono (a b (.inl e)).1 (a b (.inl e)).2.1,by rw[(a xm (.inl f)).2.2];exact c⟩
def t0T:Tr:=⟨[],[]⟩
def HL(m:Mem)(L:List Tr)(c:Nat):Prop:=c<L.length/\HAt m 211 200 (L.getD c t0T) (L.take c) (L.drop (c+1)).reverse []
theorem HL.low{m m':Mem}{L:List Tr}{c:Nat}(H:HL m L c)(a:∀i,200<=i->m'.di i=m.di i/\m'.ba i=m.ba i/\m'.mp i=m.mp i):HL m' L c:=
 ⟨H.1,H.2.low λi b=>a i (by lia)⟩
section
variable{P:Program}(A:Pr5 P)
theorem HL.of{m:Mem}{u:Tr}{us:List Tr}(H:HAt m 211 200 u us [] []):HL m (us++[u]) us.length:=by
 refine⟨by simp,?_⟩;rw[ae2,Oo (by simp),rZ];simpa[cz]using H
end
section
variable{P:Program}(A:Pr5 P)
end
def a1k(s:ByteArray)(es:List (ByteArray×Int)):Int×List (ByteArray×Int):=match Py s es with
 |some n=>(n,es)
 |none=>(es.length,Y5 s es.length es)
def cH(ns:List Nd)(s:ByteArray):Nd:=ns.getD (Vb ns s).toNat n0
def ac0(ls:List (List Sp)):List (List Sp):=if w8 ls=ah then we (Hr ls)else[]
abbrev Rec:=Int->List Int->List (List Sp)->List Int->ByteArray
abbrev Bk:=List (ByteArray×Int)
def a9v(a:Bk)(n:Nd):List Int:=n.ins.map λs=>(Py s a).getD 0
def a3a(R:Rec)(t:Tr)(a:Bk)(n:Nd):ByteArray:=R n.f.k (xh w8 n.f t.ps).1 (ac0 n.f.ls) (a9v a n)
def XM(R:Rec)(t:Tr)(x:Bk×Bk)(s:ByteArray):Bk×Bk:=
 ((a1k (a3a R t x.2 (cH t.ns s)) x.1).2,Y5 s (a1k (a3a R t x.2 (cH t.ns s)) x.1).1 x.2)
theorem V1{a b:ByteArray}:i6 a b=ah<->a=b:=⟨Z7,λh=>by rw[h];exact Dy b⟩
theorem Ow{a b:ByteArray}:i6 a b=ag<->a≠b:=by rw[<-Bool.not_eq_true,V1]
theorem uS{l:List ByteArray}{s:ByteArray}:hasB l s=ah<->s∈l:=by
 unfold hasB;rw[Bm];constructor
 ·rintro⟨x,hx,h⟩;rw[<-V1.1 h];exact hx
 intro h;exact⟨s,h,Dy s⟩
structure nK(ns:List Nd)(L:List ByteArray):Prop where
 at_:∀i (h:i<L.length),∃n∈ns,n.n=L[i]/\L[i]∉L.take i/\∀s∈n.ins,s∈L.take i
theorem LJ{n:Nd}{b:List ByteArray}:Lz n b=ah<->∀s∈n.ins,s∈b:=by
 unfold Lz;rw[dg];constructor
 ·intro h s hs;obtain⟨i,a,rfl⟩:=x8 hs;have:=h i (er.2 a);rw[uS]at this;simpa[cz,a]using this
 intro h i a;have a:=er.1 a;rw[uS]
 have:n.ins.getD i ⟨#[]⟩=n.ins[i]:=by simp[cz,a]
 rw[this];exact h _ (dj a)
theorem DI{ns:List Nd}{L:List ByteArray}(h:nK ns L){n:Nd}(f:n∈ns)(d:n.n∉L)(e:∀s∈n.ins,s∈L):nK ns (L++[n.n])where
 at_ i hi:=by
  by_cases b:i<L.length
  ·obtain⟨m,g,j,k,l⟩:=h.at_ i b;have a:(L++[n.n])[i]=L[i]:=a8w b;have e2:(L++[n.n]).take i=L.take i:=a0r (by lia);rw[a,e2];exact⟨m,g,j,k,l⟩
  have c:i=L.length:=by simp at hi;lia
  subst c
  have a:(L++[n.n])[L.length]=n.n:=by simp
  have e2:(L++[n.n]).take L.length=L:=by simp
  rw[a,e2];exact⟨n,f,rfl,d,e⟩
theorem DH(ns:List Nd):∀k L,nK ns L->nK ns (Mr ns k L):=by
 intro k
 induction k with
 |zero=>intro L h;exact h
 |succ k g=>
  intro L h;unfold Mr;split
  ·exact h
  rename_i i;refine g _ ?_;rcases Ju (iF ns L) ns.length with ⟨d,_⟩|⟨j,b,a,f,_⟩
  ·exfalso;apply i;unfold Lp;rw[d];decide
  have e:Lp ns L=(j:Int):=f;rw[e]
  have e2:ns.getD (j:Int).toNat n0=ns[j]:=by simp[cz,b]
  have c:ns.getD j n0=ns[j]:=by simp[cz,b]
  rw[e2];unfold iF at a;rw[c]at a;simp only[dc,ot]at a;refine DI h (dj b) (λq=>?_) (LJ.1 a.2);rw[uS.2 q]at a;cases a.1
theorem QW(ns:List Nd):nK ns (Mb ns):=DH ns _ _ ⟨λi h=>by simp at h⟩
theorem nK.nodup{ns:List Nd}{L:List ByteArray}(h:nK ns L):L.Nodup:=by
 rw[yi,Cy];intro i j c a b e;obtain⟨_,_,_,k,_⟩:=h.at_ j a;apply k;rw[<-e];exact a8o.2 ⟨i,by lia,rfl⟩
theorem cover{L:List ByteArray}:∀{M:List ByteArray},L.Nodup->(∀s∈L,s∈M)->M.length<=L.length->∀s∈M,s∈L:=by
 induction L with
 |nil=>
  intro M _ _ c s hs;have:M=[]:=jf (by simpa using c);subst this;exact hs
 |cons a r g=>
  intro M d hs c s b;rw[VM]at d;obtain⟨p,q,rfl⟩:=nS (hs a (by simp));by_cases e:s=a
  ·subst e;simp
  refine sD _ (g (M:=p++q) d.2 (λx hx=>?_) (by simp at c|-;lia) s ?_)
  ·have:=hs x (by simp[hx]);have f:x≠a:=λw=>d.1 (w▸hx);simp only[jz,fa]at this|-;rcases this with h|h|h
   ·exact .inl h
   ·exact absurd h f
   exact .inr h
  simp only[jz,fa]at b|-;rcases b with h|h|h
  ·exact .inl h
  ·exact absurd h e
  exact .inr h
structure a5b(t:Tr):Prop where
 node:∀n∈t.ns,cH t.ns n.n=n
 all:∀n∈t.ns,n.n∈Mb t.ns
 acv:∀n∈t.ns,yc w8 n.f=ah
 pms:Av t.ps=ah
 acn:∀n∈t.ns,(xh w8 n.f t.ps).2=0
 nodup:(t.ns.map Nd.n).Nodup
theorem Ya{l:List ByteArray}(h:∀i,i<l.length->xt l i=ah):l.Pairwise λa b=>strLt a b=true:=by
 have c:∀i (e:i+1<l.length),strLt (l[i]'(by lia)) l[i+1]=true:=by
  intro i e;have:=h (i+1) e;unfold xt at this
  have k:i<l.length:=by lia
  simpa[e,k]using this
 rw[Cy];intro i j e f g;obtain⟨d,rfl⟩:∃d,j=i+1+d:=⟨j-(i+1),by lia⟩;clear g
 induction d with
 |zero=>exact c i f
 |succ d m=>exact Uw (m (by lia)) (c (i+1+d) f)
theorem Z3{a b:ByteArray}(h:strLt a b=ah):a≠b:=λq=>by
 subst q;have:=Jq h;rw[h]at this;cases this
theorem yP{l:List ByteArray}(h:∀i,i<l.length->xt l i=ah):l.Nodup:=by
 rw[yi];exact(Ya h).imp Z3
theorem yQ{ns:List Nd}(d:(ns.map Nd.n).Nodup){n:Nd}(g:n∈ns):cH ns n.n=n:=by
 obtain⟨k,a,rfl⟩:=x8 g
 have e:Vb ns ns[k].n=(k:Int):=by
  refine Nb a (by simp[cz,a,Dy]) λi f=>?_
  have b:i<ns.length:=by lia
  have c:ns.getD i n0=ns[i]:=by simp[cz,b]
  rw[c,Ow];intro q;have:=Cy.1 (yi.1 d) i k (by simpa using b) (by simpa using a) f;simp at this;exact this q
 unfold cH;rw[e];simp[cz,a]
theorem xU{t:Tr}(h:yj w8 t=ah):a5b t:=by
 unfold yj at h;simp only[dc,decide_eq_true_eq,dg,er,beq_iff_eq]at h;obtain⟨k,v,g,l⟩:=h;have p:=λi a=>Zp (g i a);have j:=jZ (t:=t) (λi a=>(p i a).1) (λi a=>(p i a).2.1);rw[j]at l;have c:(t.ns.map Nd.n).Nodup:=yP λi a=>(p i (by simpa using a)).2.1
 have o:∀n∈t.ns,yc w8 n.f=true:=by
  intro n b;obtain⟨i,a,rfl⟩:=x8 b;have:=(p i a).2.2;simpa[cz,a]using this
 have u:∀n∈t.ns,(xh w8 n.f t.ps).2=0:=by
  intro n b;obtain⟨i,a,rfl⟩:=x8 b;have:=g i a;unfold Bu at this;simp only[dc,beq_iff_eq]at this;have:=this.2.2.2.2.2;simpa[cz,a]using this
 refine⟨λn b=>yQ c b,λn b=>?_,o,k,u,c⟩;have d:=QW t.ns
 have e:∀s∈Mb t.ns,s∈t.ns.map Nd.n:=by
  intro s hs;obtain⟨i,a,rfl⟩:=x8 hs;obtain⟨m,q,r,_⟩:=d.at_ i a;rw[<-r];exact j6.2 ⟨m,q,rfl⟩
 have w:(Mb t.ns).length=(t.ns.map Nd.n).length:=by rw[al];lia
 exact cover d.nodup e (by lia) _ (j6.2 ⟨n,b,rfl⟩)
def xX(R:Rec)(t:Tr)(a:Bk)(i:Nat):Bk×Bk:=((Mb t.ns).take i).foldl (XM R t) (a,[])
structure acy(R:Rec)(t:Tr)(bk:Bk)(i:Nat):Prop where
 nn:∀s,s∉(Mb t.ns).take i->Py s (xX R t bk i).2=ae
 sm:∀s∈(Mb t.ns).take i,∃k,Py s (xX R t bk i).2=aa k/\Py (a3a R t (xX R t bk i).2 (cH t.ns s)) (xX R t bk i).1=aa k
 kp:∀r k,Py r bk=aa k->Py r (xX R t bk i).1=aa k
structure Sim(t u:Tr)(σ:ByteArray->ByteArray):Prop where
 inj:∀n∈t.ns,∀m∈t.ns,σ n.n=σ m.n->n.n=m.n
 nd:∀m∈u.ns,∃n∈t.ns,m.n=σ n.n/\m.ins=n.ins.map σ/\m.f.k=n.f.k/\(xh w8 m.f u.ps).1=(xh w8 n.f t.ps).1/\m.f.ls=n.f.ls
theorem Pu{α:Type}{key:α->ByteArray}{l:List α}(h:l.Pairwise λx y=>strLt (key x) (key y)=ah):ji key l=l:=by
 have:∀r:List α,(r.reverse).Pairwise (λx y=>strLt (key x) (key y)=ah)->ji key r.reverse=r.reverse:=by
  intro r
  induction r with
  |nil=>intro _;rfl
  |cons x r b=>
   intro h;rw[oq]at h|-;rw[sA]at h;rw[Bv,b h.1,ue,fG key (λy hy=>Jq (h.2.2 y (by simpa using hy) x (by simp)))];simp
 have a:=this l.reverse (by rwa[ue])
 rwa[ue]at a
theorem yA{l:List Pm}(h:Av l=ah):(l.map Pm.n).Pairwise λa b=>strLt a b=true:=by
 unfold Av at h;simp only[dc,decide_eq_true_eq,dg,er]at h;refine Ya λi d=>?_
 have c:i<l.length:=by simpa using d
 have:=h.2 i c;unfold oA at this;rw[bh c]at this;simp only[dc]at this;exact this.2.2
theorem lW{p:Nat->Bool}{n:Nat}(h:Am p n<0):∀i,i<n->p i=false:=by
 rcases Ju p n with ⟨_,a⟩|⟨k,_,_,a,_⟩
 ·exact a
 lia
theorem lV{p:Nat->Bool}{n:Nat}(h:¬Am p n<0):∃k,k<n/\p k=ah/\Am p n=k:=by
 rcases Ju p n with ⟨a,_⟩|⟨k,a,b,c,_⟩
 ·lia
 exact⟨k,a,b,c⟩
theorem eS{t:Tr}{s:ByteArray}(h:ur t s<0):∀n∈t.ns,n.n≠s:=by
 intro n b;obtain⟨i,a,rfl⟩:=x8 b;have:=lW h i a
 have e:t.ns.getD i n0=t.ns[i]:=by simp[cz,a]
 simp only[e]at this;exact Ow.1 this
theorem Qi{t:Tr}{s:ByteArray}(h:¬ur t s<0):∃k,∃a:k<t.ns.length,t.ns[k].n=s/\ur t s=k:=by
 obtain⟨k,a,b,c⟩:=lV h
 have e:t.ns.getD k n0=t.ns[k]:=by simp[cz,a]
 simp only[e]at b;exact⟨k,a,V1.1 b,c⟩
theorem yD{t:Tr}{s:ByteArray}(h:ku t s<0):∀n∈t.ps,n.n≠s:=by
 intro n b;obtain⟨i,a,rfl⟩:=x8 b;have:=lW h i a
 have e:t.ps.getD i p0=t.ps[i]:=by simp[cz,a]
 simp only[e]at this;exact Ow.1 this
theorem Va{t:Tr}{s:ByteArray}(h:¬ku t s<0):∃k,∃a:k<t.ps.length,t.ps[k].n=s/\ku t s=k:=by
 obtain⟨k,a,b,c⟩:=lV h
 have e:t.ps.getD k p0=t.ps[k]:=by simp[cz,a]
 simp only[e]at b;exact⟨k,a,V1.1 b,c⟩
theorem a34(o n:ByteArray):rnS o n o=n:=by unfold rnS;rw[bc (Dy o)]
theorem a30{o n s:ByteArray}(h:s≠o):rnS o n s=s:=by unfold rnS;rw[aq (by rw[V1];exact h)]
theorem Y1{a b:ByteArray}(h:strLt a b=ag)(k:a≠b):strLt b a=true:=by
 rw[Sb,decide_eq_false_iff_not]at h;rw[Sb,decide_eq_true_eq];apply Oq;intro c;have:a.toList=b.toList:=List.le_antisymm (af7.1 c) (af7.1 h);exact k (Z7 (by unfold i6;rw[this];exact ff _))
theorem YU{L:List ByteArray}:∀{M:List ByteArray},L.Nodup->(∀s∈L,s∈M)->L.length<=M.length:=by
 induction L with
 |nil=>intro M _ _;simp
 |cons a r d=>
  intro M b hs;rw[VM]at b;obtain⟨p,q,rfl⟩:=nS (hs a (by simp))
  have:=d (M:=p++q) b.2 λx hx=>by
   have:=hs x (by simp[hx]);have c:x≠a:=λw=>b.1 (w▸hx);simp only[jz,fa]at this|-;rcases this with h|h|h
   ·exact .inl h
   ·exact absurd h c
   exact .inr h
  simp at this|-;lia
theorem DN{l:List ByteArray}(h:l.Pairwise λa b=>strLt a b=ah):l.Nodup:=by
 rw[yi];exact h.imp Z3
structure a1o(t:Tr)(out:List ByteArray):Prop where
 a9d:out.Pairwise λa b=>strLt a b=ah
 sub:∀s∈out,∃n∈t.ns,n.n=s
theorem a1o.len{t:Tr}{a:List ByteArray}(h:a1o t a):a.length<=t.ns.length:=by
 have:=YU (M:=t.ns.map Nd.n) (DN h.a9d) λs hs=>by obtain⟨n,b,e⟩:=h.sub s hs;exact j6.2 ⟨n,b,e⟩
 rwa[al]at this
def csg(i j:Fin 8):Int:=if(j.val+8-i.val)%8=0\/(j.val+8-i.val)%8=4 then 0 else if(j.val+8-i.val)%8<4 then 1 else-1
def plc(s:Bool)(r:Fin 4):Fin 8:=if s then⟨r.val,by lia⟩else⟨r.val+4,by lia⟩
theorem a3c:∀(s t:Bool) (a b:Fin 4),csg (plc s a) (plc t b)=(if s=t then 1 else-1)*(if a<b then 1 else if b<a then-1 else 0):=by decide+kernel
theorem a3d:∀(s t:Bool) (a b:Fin 4),a=b->((plc s a=plc t b)<->s=t):=by decide+kernel
def sB(s:Bool):Int:=if s then 1 else-1
theorem zU{v:Sp}(h:v≠(0,0)):∃s w,v=sV (sB s) w/\T9 w:=by
 obtain⟨s,w,a,b,⟨rfl,_⟩|⟨rfl,_⟩⟩:=Tt h
 ·exact⟨ah,w,a,b⟩
 exact⟨ag,w,a,b⟩
structure iH(x:Fin 4->Sp)(f:Fin 4->Fin 8):Prop where
 sg:∀a b,Sg (cn (x a) (x b)) (csg (f a) (f b))
 dt:∀a b,cn (x a) (x b)=0->(f a=f b/\0<qj (x a) (x b))\/(f a≠f b/\qj (x a) (x b)<0)
theorem aby(x:Fin 4->Sp)(h:∀a,x a≠(0,0)):∃f,iH x f:=by
 obtain⟨s,hs⟩:=ac6 λa=>zU (h a);obtain⟨w,c⟩:=ac6 hs
 let L:Fin 4->List (Fin 4):=λa=>(adu 4).filter λb=>decide (0<cn (w b) (w a))
 have i:∀a,(L a).length<4:=by
  intro a
  have:=iV (p:=λb=>decide (0<cn (w b) (w a))) (q:=λ_=>ah) (λ_ _=>rfl) (n:=a) (by
   have:cn (w a) (w a)=0:=by unfold cn;grind
   rw[this];rfl) rfl (adu 4) (List.mem_finRange a)
  have e:((adu 4).filter λ_=>ah).length=4:=rfl;show((adu 4).filter λb=>decide (0<cn (w b) (w a))).length<4;lia
 have t:∀a b,0<cn (w a) (w b)->(L a).length<(L b).length:=by
  intro a b d;refine iV (n:=a) (λz hz=>?_) ?_ ?_ _ (List.mem_finRange a)
  ·rw[decide_eq_true_eq]at hz|-;obtain⟨t1,t2⟩:=tr0 (c z).2 (c a).2 (c b).2 (by lia) (by lia);rcases Int.lt_or_eq_of_le t1 with g|g
   ·exact g
   have:=(t2 g.symm).1;lia
  ·have:cn (w a) (w a)=0:=by unfold cn;grind
   rw[this];rfl
  exact decide_eq_true d
 have o:∀a b,cn (w a) (w b)=0->(L a).length=(L b).length:=by
  intro a b d
  have one:∀a b,cn (w a) (w b)=0->(L a).length<=(L b).length:=by
   intro a b d;refine IK (λz hz=>?_) _;rw[decide_eq_true_eq]at hz|-;obtain⟨t1,t2⟩:=tr0 (c z).2 (c a).2 (c b).2 (by lia) (by lia);rcases Int.lt_or_eq_of_le t1 with g|g
   ·exact g
   have:=(t2 g.symm).1;lia
  have A:=one b a (by rw[Ba,d];rfl);have k:=one a b d;lia
 refine⟨λa=>plc (s a) ⟨(L a).length,i a⟩,λa b=>?_,λa b hz=>?_⟩
 ·rw[a3c,(c a).1,(c b).1,Q0]
  have u:Sg (cn (w a) (w b)) (if(⟨(L a).length,i a⟩:Fin 4)<⟨(L b).length,i b⟩then 1 else if(⟨(L b).length,i b⟩:Fin 4)<⟨(L a).length,i a⟩then-1 else 0):=by
   rcases Xu (cn (w a) (w b)) 0 with g|g|g
   ·have k:=t b a (by rw[Ba];lia);rw[aq (by simp only[aee];lia),bc (by simp only[aee];lia)];exact .inl ⟨rfl,g⟩
   ·have k:=o a b g;rw[aq (by simp only[aee];lia),aq (by simp only[aee];lia)];exact .inr (.inl ⟨rfl,g⟩)
   have k:=t a b g;rw[bc (by simp only[aee];lia)];exact .inr (.inr ⟨rfl,g⟩)
  have v:sB (s a)*sB (s b)=if s a=s b then 1 else-1:=by
   cases s a<;>cases s b<;>rfl
  rw[v];refine Ev ?_ u;split
  ·exact .inr (.inr ⟨rfl,by decide⟩)
  exact .inl ⟨rfl,by decide⟩
 have l:=(c a).1;have e2:=(c b).1
 have j:cn (w a) (w b)=0:=by
  rw[l,e2,Q0]at hz
  have:sB (s a)*sB (s b)≠0:=by cases s a<;>cases s b<;>decide
  exact(Bi.1 hz).resolve_left this
 have y:=o a b j;have B:=tW (c a).2 (c b).2 j;have r:=a3d (s a) (s b) ⟨(L a).length,i a⟩ ⟨(L b).length,i b⟩ (by simp only[Fin.mk.injEq];exact y)
 have m:qj (x a) (x b)=sB (s a)*sB (s b)*qj (w a) (w b):=by
  rw[<-FD,<-l,<-e2]
 by_cases hs:s a=s b
 ·refine .inl ⟨r.2 hs,?_⟩;rw[m,hs]
  have:sB (s b)*sB (s b)=1:=by cases s b<;>rfl
  rw[this];lia
 refine .inr ⟨λq=>hs (r.1 q),?_⟩;rw[m]
 have:sB (s a)*sB (s b)= -1:=by revert hs;cases s a<;>cases s b<;>simp[sB]
 rw[this];lia
def clF(i j:Fin 8):Int:=if csg i j= -1 then 0 else if csg i j=1 then 2 else if i=j then 3 else 1
def Ux(u x y:Fin 8):Bool:=if clF u x=clF u y then decide (csg x y= -1)else decide (clF u x<clF u y)
theorem Uz{x s:Int}(h:Sg x s):x<0<->s= -1:=by unfold Sg at h;lia
theorem bP{x s:Int}(h:Sg x s):0<x<->s=1:=by unfold Sg at h;lia
theorem GU{x s:Int}(h:Sg x s):0<=x<->s≠-1:=by unfold Sg at h;lia
theorem a0w{x s:Int}(h:Sg x s):x<=0<->s≠1:=by unfold Sg at h;lia
theorem xE{x s:Int}(h:Sg x s):x=0<->s=0:=by unfold Sg at h;lia
section
variable{x:Fin 4->Sp}{f:Fin 4->Fin 8}
theorem iH.cl(h:iH x f)(a b:Fin 4):pL (cn (x a) (x b)) (qj (x a) (x b))=clF (f a) (f b):=by
 unfold pL clF;have e:=Uz (h.sg a b);have g:=bP (h.sg a b);have j:=h.dt a b;by_cases c1:cn (x a) (x b)<0
 ·rw[bc c1,bc (e.1 c1)]
 rw[aq c1,aq (λq=>c1 (e.2 q))];by_cases c:0<cn (x a) (x b)
 ·rw[bc c,bc (g.1 c)]
 rw[aq c,aq (λq=>c (g.2 q))];rcases j (by lia)with ⟨d,i⟩|⟨d,i⟩
 ·rw[aq (by lia),bc d]
 rw[bc i,aq d]
theorem iH.Dh(h:iH x f)(a b c:Fin 4):PI.Dh (x a) (x b) (x c)=Ux (f a) (f b) (f c):=by
 rw[iL,h.cl,h.cl];unfold Ux;have e:decide (cn (x b) (x c)<0)=decide (csg (f b) (f c)= -1):=decide_eq_decide.2 (Uz (h.sg b c));rw[e]
end
def kU(u p q:Sp):Int:=if cn u p<0/\0<=cn u q/\0<cn p q then 1 else if cn u q<0/\0<=cn u p/\cn p q<0 then-1 else 0
def kV(u p q:Sp):Int:=if cn u p<=0/\0<cn u q/\0<cn p q then 1 else if cn u q<=0/\0<cn u p/\cn p q<0 then-1 else 0
def kUF(u p q:Fin 8):Int:=if csg u p= -1/\csg u q≠-1/\csg p q=1 then 1 else if csg u q= -1/\csg u p≠-1/\csg p q= -1 then-1 else 0
def kVF(u p q:Fin 8):Int:=if csg u p≠1/\csg u q=1/\csg p q=1 then 1 else if csg u q≠1/\csg u p=1/\csg p q= -1 then-1 else 0
def aW(u w v:Sp):Int:=if Dh u v w=ah then 1 else 0
def X9(d u v:Sp):Int:=if 0<cn d u then(if 0<=cn d v/\cn u v<0 then 1 else 0)else(if 0<=cn u v/\cn d v<0 then-1 else 0)
def GQ(d u v:Fin 8):Int:=if csg d u=1 then(if csg d v≠-1/\csg u v= -1 then 1 else 0)else(if csg u v≠-1/\csg d v= -1 then-1 else 0)
theorem a9t:∀u w p q:Fin 8,(csg p q=0->p=q)->kVF w p q-kUF u p q=(if Ux u q w then 1 else 0)-(if Ux u p w then 1 else 0):=by decide+kernel
theorem OQ:∀d u p q:Fin 8,csg d u≠0->(csg p q=0->p=q)->kUF d p q-kUF u p q=GQ d u q-GQ d u p:=by decide+kernel
theorem a99:∀u w d v:Fin 8,Ux u d w=ah->Ux u w v=ah->Ux u d v=true:=by decide+kernel
theorem a9a:∀u w v:Fin 8,u≠w->v≠u->v≠w->Ux u w v=ah\/Ux w u v=true:=by decide+kernel
section
variable{x:Fin 4->Sp}{f:Fin 4->Fin 8}
theorem iH.kU(h:iH x f)(a b c:Fin 4):PI.kU (x a) (x b) (x c)=kUF (f a) (f b) (f c):=by
 unfold PI.kU kUF;simp only[Uz (h.sg a b),Uz (h.sg a c),GU (h.sg a b),GU (h.sg a c),bP (h.sg b c),Uz (h.sg b c)]
theorem iH.kV(h:iH x f)(a b c:Fin 4):PI.kV (x a) (x b) (x c)=kVF (f a) (f b) (f c):=by
 unfold PI.kV kVF;simp only[a0w (h.sg a b),a0w (h.sg a c),bP (h.sg a b),bP (h.sg a c),bP (h.sg b c),Uz (h.sg b c)]
theorem iH.free(h:iH x f)(a b:Fin 4)(d:cn (x a) (x b)=0->0<qj (x a) (x b)):csg (f a) (f b)=0->f a=f b:=by
 intro c;have hz:=(xE (h.sg a b)).2 c;rcases h.dt a b hz with k|k
 ·exact k.1
 have:=d hz;lia
end
def four(a b c d:Sp):Fin 4->Sp
 |0=>a
 |1=>b
 |2=>c
 |3=>d
theorem mV{a b c d:Sp}(e:a≠(0,0))(hb:b≠(0,0))(g:c≠(0,0))(h:d≠(0,0)):∃f,iH (four a b c d) f:=
 aby _ fun
  |0=>e
  |1=>hb
  |2=>g
  |3=>h
theorem key{u w p q:Sp}(k:u≠(0,0))(l:w≠(0,0))(i:p≠(0,0))(j:q≠(0,0))(g:cn p q=0->0<qj p q):kV w p q-kU u p q=aW u w q-aW u w p:=by
 obtain⟨f,h⟩:=mV k l i j;have a:=h.kV 1 2 3;have b:=h.kU 0 2 3;have c:=h.Dh 0 3 1;have d:=h.Dh 0 2 1;have e:=h.free 2 3 g;simp only[four]at a b c d;unfold aW;rw[a,b,c,d];exact a9t (f 0) (f 1) (f 2) (f 3) e
theorem WB{d u p q:Sp}(g:d≠(0,0))(n:u≠(0,0))(l:p≠(0,0))(m:q≠(0,0))(j:cn d u≠0)(i:cn p q=0->0<qj p q):kU d p q-kU u p q=X9 d u q-X9 d u p:=by
 obtain⟨f,h⟩:=mV g n l m;have b:=h.kU 0 2 3;have c:=h.kU 1 2 3;have e:=h.free 2 3 i
 have t:∀k:Fin 4,X9 d u (four d u p q k)=GQ (f 0) (f 1) (f k):=by
  intro k;unfold X9 GQ;have a1:=bP (h.sg 0 1);have a:=GU (h.sg 0 k);have a3:=Uz (h.sg 1 k);have a4:=GU (h.sg 1 k);have a5:=Uz (h.sg 0 k);simp only[show four d u p q 0=d from rfl,show four d u p q 1=u from rfl]at a1 a a3 a4 a5;simp only[a1,a,a3,a4,a5]
 have t2:=t 2;have t3:=t 3;simp only[four]at b c t2 t3;rw[b,c,t2,t3];refine OQ (f 0) (f 1) (f 2) (f 3) (λq=>j ?_) e;have:=(xE (h.sg 0 1)).2 q;exact this
theorem xC{u w d v:Sp}(j:u≠(0,0))(l:w≠(0,0))(i:d≠(0,0))(k:v≠(0,0))(e:Dh u d w=ah)(g:Dh u w v=ah):Dh u d v=true:=by
 obtain⟨f,h⟩:=mV j l i k;have a:=h.Dh 0 2 1;have b:=h.Dh 0 1 3;have c:=h.Dh 0 2 3;simp only[four]at a b c;rw[a]at e;rw[b]at g;rw[c];exact a99 _ _ _ _ e g
def Par(u w:Sp):Prop:=cn u w=0/\0<qj u w
theorem OZ{u w v:Sp}(n:u≠(0,0))(o:w≠(0,0))(d:v≠(0,0))(e:¬Par u w)(g:¬Par v u)(l:¬Par v w):Dh u w v=ah\/Dh w u v=true:=by
 obtain⟨f,h⟩:=mV n o d d;have a:=h.Dh 0 1 2;have b:=h.Dh 1 0 2
 have c:∀i j:Fin 4,¬Par (four u w v v i) (four u w v v j)->f i≠f j:=by
  intro i j m q;have hz:cn (four u w v v i) (four u w v v j)=0:=(xE (h.sg i j)).2 (by rw[q];unfold csg;rw[bc];left;lia);rcases h.dt i j hz with k|k
  ·exact m ⟨hz,k.2⟩
  exact k.1 q
 have n1:=c 0 1 e;have n2:=c 2 0 g;have p:=c 2 1 l;simp only[four]at a b;rw[a,b];exact a9a _ _ _ n1 n2 p
def mU(es:List Ed)(m u:Sp):Int:=Hu (λf=>kU u (rel m f.1) (rel m f.2)) es
theorem a2d(p q:Sp):gE p q=kU (0,1) p q:=by
 unfold gE kU
 have a:cn (0,1) p= -p.1:=by unfold cn;simp
 have e2:cn (0,1) q= -q.1:=by unfold cn;simp
 rw[a,e2];generalize cn p q=c
 repeat' split
 all_goals lia
theorem a2c(p q:Sp):gE (-p.2,p.1) (-q.2,q.1)=kU (1,0) p q:=by
 unfold gE kU
 have a:cn (1,0) p=p.2:=by unfold cn;simp
 have e2:cn (1,0) q=q.2:=by unfold cn;simp
 have b:cn (-p.2,p.1) (-q.2,q.1)=cn p q:=by unfold cn;simp only;grind
 rw[a,e2,b];simp only;generalize cn p q=c
 repeat' split
 all_goals lia
theorem XL(e:Ed):rel (qd e) e.1=dq e.1 e.2/\rel (qd e) e.2=dq e.2 e.1:=by
 unfold rel qd dq;constructor<;>refine tq ?_ ?_<;>simp only<;>lia
theorem Qq(u:Sp):cn u u=0:=by unfold cn;grind
theorem Yr(d a b:Sp):cn d (dq b a)= -(cn d (dq a b)):=by unfold cn dq;simp only;grind
theorem RY{ls:List (List Sp)}{i:Nat}(y:i<(dm ls).length)(w:wH (dm ls) i)(r:((dm ls).getD i e0).1≠((dm ls).getD i e0).2)(a:U9 (dm ls) i=1):
  mU (dm ls) (qd ((dm ls).getD i e0)) (dq ((dm ls).getD i e0).1 ((dm ls).getD i e0).2)=1:=by
 have hb:=λg=>BJ (ls:=ls) g y
 generalize dm ls=es at*
 have A:=xg r
 have hs:∀d:Sp,d≠(0,0)->cn d (dq (es.getD i e0).1 (es.getD i e0).2)≠0->
   pb (λk=>if k=i then 0 else kU d (rel (qd (es.getD i e0)) (es.getD k e0).1) (rel (qd (es.getD i e0)) (es.getD k e0).2)) es.length
    =mU es (qd (es.getD i e0)) (dq (es.getD i e0).1 (es.getD i e0).2)+(if 0<cn d (dq (es.getD i e0).1 (es.getD i e0).2)then 0 else-1):=by
  intro d v z;obtain⟨s,t⟩:=XL (es.getD i e0);have x:=hb λp=>X9 d (dq (es.getD i e0).1 (es.getD i e0).2) (rel (qd (es.getD i e0)) p)
  have u:mU es (qd (es.getD i e0)) (dq (es.getD i e0).1 (es.getD i e0).2)=pb (λk=>if k=i then 0 else kU (dq (es.getD i e0).1 (es.getD i e0).2) (rel (qd (es.getD i e0)) (es.getD k e0).1) (rel (qd (es.getD i e0)) (es.getD k e0).2)) es.length:=by
   unfold mU;rw[<-Y0];refine Dg _ λk j=>?_;by_cases e:k=i
   ·subst e;rw[bc rfl,s,t];unfold kU;have a1:=Qq (dq (es.getD k e0).1 (es.getD k e0).2);have l:=Yr (dq (es.getD k e0).1 (es.getD k e0).2) (es.getD k e0).1 (es.getD k e0).2;rw[l,a1];simp
   rw[aq e]
  have f:pb (λk=>if k=i then 0 else kU d (rel (qd (es.getD i e0)) (es.getD k e0).1) (rel (qd (es.getD i e0)) (es.getD k e0).2)) es.length-mU es (qd (es.getD i e0)) (dq (es.getD i e0).1 (es.getD i e0).2)
    =pb (λk=>if k=i then 0 else X9 d (dq (es.getD i e0).1 (es.getD i e0).2) (rel (qd (es.getD i e0)) (es.getD k e0).2)-X9 d (dq (es.getD i e0).1 (es.getD i e0).2) (rel (qd (es.getD i e0)) (es.getD k e0).1)) es.length:=by
   rw[u,W9];refine Dg _ λk j=>?_;by_cases e:k=i
   ·simp only[e,da];rfl
   simp only[aq e];have h:=w k j e
   have n1:rel (qd (es.getD i e0)) (es.getD k e0).1≠(0,0):=λq=>by
    rw[q]at h;have:=h (by unfold cn;simp);simp at this
   have n2:rel (qd (es.getD i e0)) (es.getD k e0).2≠(0,0):=λq=>by
    rw[q]at h;have:=h (by unfold cn;simp);simp at this
   exact WB v A n1 n2 z h
  rw[x,s,t]at f
  have t1:X9 d (dq (es.getD i e0).1 (es.getD i e0).2) (dq (es.getD i e0).1 (es.getD i e0).2)-X9 d (dq (es.getD i e0).1 (es.getD i e0).2) (dq (es.getD i e0).2 (es.getD i e0).1)=if 0<cn d (dq (es.getD i e0).1 (es.getD i e0).2)then 0 else-1:=by
   have a1:=Qq (dq (es.getD i e0).1 (es.getD i e0).2);have l:=Yr (dq (es.getD i e0).1 (es.getD i e0).2) (es.getD i e0).1 (es.getD i e0).2;have a3:=Yr d (es.getD i e0).1 (es.getD i e0).2;unfold X9;rw[l,a3,a1]
   generalize cn d (dq (es.getD i e0).1 (es.getD i e0).2)=c at*
   repeat' split
   all_goals lia
  rw[t1]at f;lia
 unfold U9 at a;by_cases o:(es.getD i e0).1.1=(es.getD i e0).2.1
 ·rw[bc o]at a;unfold Tn at a;rw[al,G9]at a;have B:(es.getD i e0).1.2≠(es.getD i e0).2.2:=λq=>r (tq o q)
  have b:cn (1,0) (dq (es.getD i e0).1 (es.getD i e0).2)=(es.getD i e0).1.2-(es.getD i e0).2.2:=by unfold cn dq;simp
  have m:=hs (1,0) (by decide) (by rw[b];lia)
  have n:pb (Ta (es.map yw) i) es.length=pb (λk=>if k=i then 0 else kU (1,0) (rel (qd (es.getD i e0)) (es.getD k e0).1) (rel (qd (es.getD i e0)) (es.getD k e0).2)) es.length:=by
   refine Dg _ λk j=>?_;unfold Ta;rw[G9,G9];by_cases e:k=i
   ·simp only[e,da]
   simp only[aq e];rw[S7];have t1:rel (qd (yw (es.getD i e0))) (yw (es.getD k e0)).1=(-(rel (qd (es.getD i e0)) (es.getD k e0).1).2,(rel (qd (es.getD i e0)) (es.getD k e0).1).1):=Ze _ _;have t2:rel (qd (yw (es.getD i e0))) (yw (es.getD k e0)).2=(-(rel (qd (es.getD i e0)) (es.getD k e0).2).2,(rel (qd (es.getD i e0)) (es.getD k e0).2).1):=Ze _ _;rw[t1,t2,a2c]
  rw[n,m,b]at a
  have c1:(yw (es.getD i e0)).2.1<(yw (es.getD i e0)).1.1<->(es.getD i e0).1.2<(es.getD i e0).2.2:=by
   show-(es.getD i e0).2.2< -(es.getD i e0).1.2<->_;lia
  simp only[c1]at a
  repeat' split at a
  all_goals lia
 rw[aq o]at a;unfold Tn at a
 have b:cn (0,1) (dq (es.getD i e0).1 (es.getD i e0).2)=(es.getD i e0).2.1-(es.getD i e0).1.1:=by unfold cn dq;simp;lia
 have m:=hs (0,1) (by decide) (by rw[b];lia)
 have n:pb (Ta es i) es.length=pb (λk=>if k=i then 0 else kU (0,1) (rel (qd (es.getD i e0)) (es.getD k e0).1) (rel (qd (es.getD i e0)) (es.getD k e0).2)) es.length:=by
  refine Dg _ λk j=>?_;unfold Ta;by_cases e:k=i
  ·simp only[e,da]
  simp only[aq e];rw[S7,a2d]
 rw[n,m,b]at a
 repeat' split at a
 all_goals lia
theorem HQ{a b A B:Sp}(hx:Cx (a,b) (A,B)=ag)(c:¬(onB (a,b) B=ah/\B≠a/\B≠b))
  (t:cn (dq a b) (rel (a.1+b.1,a.2+b.2) A)<0)(u:0<=cn (dq a b) (rel (a.1+b.1,a.2+b.2) B))
  (w:cn (rel (a.1+b.1,a.2+b.2) A) (rel (a.1+b.1,a.2+b.2) B)<=0)(g:0<cn (dq A b) (dq B b)):False:=by
 have j:=DR a b A;have e2:=DR a b B;have k:=a3x a b A B
 have e:∀v,cn (dq b a) v= -(cn (dq a b) v):=λv=>by unfold cn dq;simp only;grind
 rw[e]at j e2;rw[e,e]at k;rw[<-Wn]at g
 have c1:0<gu a b A:=by lia
 have r:gu a b B<=0:=by lia
 have c3:gu A B a<0:=by lia
 by_cases z:gu a b B=0
 ·apply c
  have d1:gu a b A=cn (dq b a) (dq A a):=by unfold gu cn dq;simp only
  have d2:cn (dq b a) (dq B a)=0:=by rw[<-z];unfold gu cn dq;simp only
  have i:gu A B a=cn (dq A a) (dq B a):=Wn A B a
  have s:gu A B b=cn (dq A a) (dq B a)+cn (dq b a) (dq A a)-cn (dq b a) (dq B a):=by
   unfold gu cn dq;simp only;grind
  obtain⟨o,p⟩:=plu (dq A a) (dq b a) (dq B a) d2
  have l:cn (dq A a) (dq b a)= -(gu a b A):=by rw[d1,Ba]
  have n:cn (dq b a) (dq B a)=0:=d2
  have f:qj (dq b a) (dq b a)*(-(gu A B a))=qj (dq B a) (dq b a)*gu a b A:=by
   rw[i];rw[l]at o p;unfold qj
   generalize cn (dq A a) (dq B a)=X at*
   generalize gu a b A=Y at*
   generalize dq b a=D at*
   generalize dq B a=V at*
   grind
  have m:0<qj (dq b a) (dq b a):=by
   unfold qj;refine sq_pos λ⟨q1,q2⟩=>?_;rw[d1]at c1;unfold cn at c1;rw[q1,q2]at c1;simp at c1
  have x: -(gu A B a)<gu a b A:=by lia
  have h:0<qj (dq B a) (dq b a):=by
   have:0<qj (dq B a) (dq b a)*gu a b A:=by rw[<-f];exact Ck m (by lia)
   exact Int.pos_of_mul_pos_left this c1
  have d:qj (dq B a) (dq b a)<=qj (dq b a) (dq b a):=by
   have:qj (dq B a) (dq b a)*gu a b A<=qj (dq b a) (dq b a)*gu a b A:=by
    rw[<-f];exact Q8 (by lia) (by lia)
   exact Ug this c1
  refine⟨uC (by rw[Ba,d2];rfl) h d,λq=>?_,λq=>?_⟩
  ·subst q
   have:gu A B B=0:=by unfold gu;grind
   lia
  subst q
  have:gu A B B=0:=by unfold gu;grind
  lia
 unfold Cx sgn at hx;simp only at hx;rw[aq (show¬gu a b A<0 by lia),bc c1,bc (show gu a b B<0 by lia),bc c3,aq (show¬gu A B b<0 by lia),bc g]at hx;simp at hx
def sU(es:List Ed)(b u:Sp):Int:=Hu (λf=>kU u (dq f.1 b) (dq f.2 b)) es
def sW(es:List Ed)(b u:Sp):Int:=Hu (λf=>kV u (dq f.1 b) (dq f.2 b)) es
theorem jD{g h:Ed->Int}:∀{l:List Ed},(∀f∈l,g f=h f)->Hu g l=Hu h l:=by
 intro l a;unfold Hu;rw[Nj a]
theorem FU(e f:Ed):Cx e (f.2,f.1)=Cx e f:=by
 unfold Cx
 have:∀x y p,gu y x p= -(gu x y p):=λx y p=>by unfold gu;grind
 simp only;rw[this f.1 f.2 e.1,this f.1 f.2 e.2,Af (sgn (gu e.1 e.2 f.2))]
 have s:∀n:Int,sgn (-n)= -(sgn n):=λn=>by unfold sgn;repeat' split<;>lia
 rw[s,s,Int.neg_mul_neg]
theorem RN{es:List Ed}(h:ye es=ah)(s:zt es){e:Ed}(d:e∈es):mU es (qd e) (dq e.1 e.2)=sU es e.2 (dq e.1 e.2):=by
 unfold mU sU;refine jD λf g=>?_;obtain⟨i,t,rfl⟩:=v7 d;obtain⟨k,n,rfl⟩:=v7 g;obtain⟨n1,j⟩:=rp h t;obtain⟨x1,q⟩:=Ms (j k n).1
 have r:¬(onB (es.getD i e0) (es.getD k e0).2=ah/\(es.getD k e0).2≠(es.getD i e0).1/\(es.getD k e0).2≠(es.getD i e0).2):=by
  obtain⟨f,g,d⟩:=s.1 _ (L8 n);obtain⟨m,u,rfl⟩:=v7 g;rw[<-d];exact(Ms (j m u).1).2
 have x2:=FU (es.getD i e0) (es.getD k e0);rw[x1]at x2
 generalize es.getD i e0=e at*
 generalize es.getD k e0=f at*
 obtain⟨a,b⟩:=e;obtain⟨A,B⟩:=f
 simp only[qd]at*
 have q1:=HQ (a:=a) (b:=b) (A:=A) (B:=B) x1 r;have q2:=HQ (a:=a) (b:=b) (A:=B) (B:=A) x2 q
 have l:∀v,2*cn (dq a b) (dq v b)=cn (dq a b) (rel (a.1+b.1,a.2+b.2) v):=λv=>by unfold cn dq rel;simp only;grind
 have I:4*cn (dq A b) (dq B b)=cn (rel (a.1+b.1,a.2+b.2) A) (rel (a.1+b.1,a.2+b.2) B)+cn (dq a b) (rel (a.1+b.1,a.2+b.2) B)-cn (dq a b) (rel (a.1+b.1,a.2+b.2) A):=by
  unfold cn dq rel;simp only;grind
 have o:cn (rel (a.1+b.1,a.2+b.2) B) (rel (a.1+b.1,a.2+b.2) A)= -(cn (rel (a.1+b.1,a.2+b.2) A) (rel (a.1+b.1,a.2+b.2) B)):=Ba _ _;have p:cn (dq B b) (dq A b)= -(cn (dq A b) (dq B b)):=Ba _ _;have J:=l A;have K:=l B;rw[o,p]at q2;unfold kU;clear l
 generalize cn (dq a b) (rel (a.1+b.1,a.2+b.2) A)=w at*
 generalize cn (dq a b) (rel (a.1+b.1,a.2+b.2) B)=x at*
 generalize cn (rel (a.1+b.1,a.2+b.2) A) (rel (a.1+b.1,a.2+b.2) B)=c at*
 generalize cn (dq A b) (dq B b)=C at*
 generalize cn (dq a b) (dq A b)=y at*
 generalize cn (dq a b) (dq B b)=z at*
 clear x1 x2 q r j o p d g
 repeat' split
 all_goals first|lia|(exfalso;by_cases D:w<0<;>by_cases E:x<0<;>by_cases F:c<=0<;>by_cases G:0<C<;>by_cases H:C<0<;>first|lia|exact q1 (by lia) (by lia) (by lia) (by lia)|exact q2 (by lia) (by lia) (by lia) (by lia))
theorem Tl{es:List Ed}(h:ye es=ah)(I:zt es){e f:Ed}(C:e∈es)(D:f∈es){b v w:Sp}(a:e=(b,v)\/e=(v,b))(c:f=(b,w)\/f=(w,b))(d:Par (dq v b) (dq w b)):e=f:=by
 apply Oq;intro L;obtain⟨i,A,rfl⟩:=v7 C;obtain⟨k,B,rfl⟩:=v7 D;have o:i≠k:=λq=>L (by rw[q]);obtain⟨n1,J⟩:=rp h A;obtain⟨n2,z⟩:=rp h B
 have r:∀(j:Nat),j<es.length->∀p,(∃g∈es,g.1=p\/g.2=p)->¬(onB (es.getD j e0) p=ah/\p≠(es.getD j e0).1/\p≠(es.getD j e0).2):=by
  intro j K p ⟨g,s,d⟩
  have key:∀g∈es,¬(onB (es.getD j e0) g.1=ah/\g.1≠(es.getD j e0).1/\g.1≠(es.getD j e0).2):=by
   intro g s;obtain⟨m,l,rfl⟩:=v7 s;exact(Ms ((rp h K).2 m l).1).2
  rcases d with rfl|rfl
  ·exact key g s
  obtain⟨t,u,e2⟩:=I.1 g s;rw[<-e2];exact key t u
 have d1:=Zm (J k B).2 o;have d2:=Zm (z i A).2 (P8 o)
 have n:∀x y p:Sp,onB (x,y) p=ah->onB (y,x) p=true:=by
  intro x y p d
  unfold onB mn mx at*
  simp only[dc,beq_iff_eq,decide_eq_true_eq]at*
  obtain⟨M,F,t,G,H⟩:=d;refine⟨?_,?_,?_,?_,?_⟩
  ·have:gu y x p= -(gu x y p):=by unfold gu;grind
   lia
  all_goals(split<;>split at F<;>split at t<;>split at G<;>split at H<;>lia)
 have E:v≠b:=λq=>by
  subst q;unfold Par at d
  have:qj (dq v v) (dq w v)=0:=by unfold qj dq;simp
  lia
 have wn:w≠b:=λq=>by
  subst q;unfold Par at d
  have:qj (dq v w) (dq w w)=0:=by unfold qj dq;simp
  lia
 have vw:v≠w:=by
  rintro rfl;rcases a with a|a<;>rcases c with c|c
  ·exact d1.1 (by rw[a,c])
  ·exact d1.2 ⟨by rw[a,c],by rw[a,c]⟩
  ·exact d1.2 ⟨by rw[a,c],by rw[a,c]⟩
  exact d1.1 (by rw[a,c])
 rcases xY d.1 d.2 with l|l
 ·
  refine r k B v ⟨_,C,?_⟩ ⟨?_,?_,?_⟩
  ·rcases a with a|a<;>rw[a]<;>simp
  ·rcases c with c|c<;>rw[c]
   ·exact l
   exact n _ _ _ l
  ·rcases c with c|c<;>rw[c]
   ·exact E
   exact vw
  rcases c with c|c<;>rw[c]
  ·exact vw
  exact E
 refine r i A w ⟨_,D,?_⟩ ⟨?_,?_,?_⟩
 ·rcases c with c|c<;>rw[c]<;>simp
 ·rcases a with a|a<;>rw[a]
  ·exact l
  exact n _ _ _ l
 ·rcases a with a|a<;>rw[a]
  ·exact wn
  exact P8 vw
 rcases a with a|a<;>rw[a]
 ·exact P8 vw
 exact wn
def tX(b u w:Sp)(f:Ed):Int:=if f.1=b then-(aW u w (dq f.2 b))else if f.2=b then aW u w (dq f.1 b)else 0
theorem jE(g h:Ed->Int)(l:List Ed):Hu (λf=>g f+h f) l=Hu g l+Hu h l:=by
 induction l with
 |nil=>rfl
 |cons f r a=>
  unfold Hu at*
  simp only[du,a1r,a];lia
theorem wX(g:Ed->Int)(l:List Ed):Hu (λf=> -(g f)) l= -(Hu g l):=by
 induction l with
 |nil=>rfl
 |cons f r a=>
  unfold Hu at*
  simp only[du,a1r,a];lia
theorem sN{g:Ed->Int}{l:List Ed}(h:∀f∈l,0<=g f):0<=Hu g l:=by
 induction l with
 |nil=>exact Int.le_refl 0
 |cons f r a=>
  have b:=h f (by simp);have c:=a λx hx=>h x (by simp[hx])
  unfold Hu at*
  simp only[du,a1r];lia
theorem OS{g:Ed->Int}{l:List Ed}(h:∀f∈l,0<=g f){e:Ed}(d:e∈l)(i:1<=g e):1<=Hu g l:=by
 obtain⟨p,q,rfl⟩:=nS d;have a:=sN (l:=p) λf c=>h f (by simp[c]);have b:=sN (l:=q) λf c=>h f (by simp[c]);rw[eH]
 unfold Hu at*
 simp only[du,a1r];lia
theorem SC{u:Sp}:(∀q,kU u (0,0) q=0)/\(∀q,kU u q (0,0)=0)/\(∀q,kV u (0,0) q=0)/\∀q,kV u q (0,0)=0:=by
 have a:∀q:Sp,cn (0,0) q=0:=λq=>by unfold cn;simp
 have b:∀q:Sp,cn q (0,0)=0:=λq=>by unfold cn;simp
 refine⟨λq=>?_,λq=>?_,λq=>?_,λq=>?_⟩<;>simp[kU,kV,a,b]
theorem pZ{ls:List (List Sp)}(h:ye (dm ls)=ah)(l:zt (dm ls)){b u w:Sp}(hb:∃e∈dm ls,e.2=b)(y:u≠(0,0))(A:w≠(0,0)):
  sW (dm ls) b w-sU (dm ls) b u=Hu (tX b u w) (dm ls):=by
 have x:=a2f (λp=>if p=b then 0 else aW u w (dq p b)) ls
 have hz:dq b b=(0,0):=by unfold dq;simp
 have k:sW (dm ls) b w-sU (dm ls) b u=Hu (λf=>kV w (dq f.1 b) (dq f.2 b)+ -(kU u (dq f.1 b) (dq f.2 b))) (dm ls):=by
  rw[jE,wX];unfold sW sU;lia
 rw[k]
 have e2:Hu (tX b u w) (dm ls)=Hu (λf=>((λp=>if p=b then(0:Int)else aW u w (dq p b)) f.2-(λp=>if p=b then(0:Int)else aW u w (dq p b)) f.1)+tX b u w f) (dm ls):=by
  rw[jE,x];lia
 rw[e2];refine jD λf o=>?_;simp only;obtain⟨i,t,rfl⟩:=v7 o;obtain⟨n1,s⟩:=rp h t;obtain⟨B,C,K,L⟩:=SC (u:=u);obtain⟨M,N,D,E⟩:=SC (u:=w);unfold tX;by_cases c1:((dm ls).getD i e0).1=b
 ·have a:((dm ls).getD i e0).2≠b:=λq=>n1 (by rw[c1,q]);rw[bc c1,bc c1,aq a,c1,hz,B,D];lia
 by_cases a:((dm ls).getD i e0).2=b
 ·rw[aq c1,aq c1,bc a,bc a,a,hz,C,E];lia
 rw[aq c1,aq c1,aq a,aq a]
 have F:cn (dq ((dm ls).getD i e0).1 b) (dq ((dm ls).getD i e0).2 b)=0->0<qj (dq ((dm ls).getD i e0).1 b) (dq ((dm ls).getD i e0).2 b):=by
  intro j;apply Oq;intro J;obtain⟨g,r,rfl⟩:=hb;obtain⟨I,c,q⟩:=l.1 g r;obtain⟨m,v,rfl⟩:=v7 c;have hy:=(Ms (s m v).1).2;rw[q]at hy
  have d:=SZ (e:=(dm ls).getD i e0) (p:=g.2) (by
   unfold lF;simp only[dc,beq_iff_eq,decide_eq_true_eq];refine⟨j,?_⟩;have n:(((dm ls).getD i e0).1.1-g.2.1)*(((dm ls).getD i e0).2.1-g.2.1)+(((dm ls).getD i e0).1.2-g.2.2)*(((dm ls).getD i e0).2.2-g.2.2)=qj (dq ((dm ls).getD i e0).1 g.2) (dq ((dm ls).getD i e0).2 g.2):=rfl;rw[n]
   have O:qj (dq ((dm ls).getD i e0).1 g.2) (dq ((dm ls).getD i e0).2 g.2)≠0:=by
    intro z;have id:qj (dq ((dm ls).getD i e0).1 g.2) (dq ((dm ls).getD i e0).2 g.2)*qj (dq ((dm ls).getD i e0).1 g.2) (dq ((dm ls).getD i e0).2 g.2)+cn (dq ((dm ls).getD i e0).1 g.2) (dq ((dm ls).getD i e0).2 g.2)*cn (dq ((dm ls).getD i e0).1 g.2) (dq ((dm ls).getD i e0).2 g.2)
      =qj (dq ((dm ls).getD i e0).1 g.2) (dq ((dm ls).getD i e0).1 g.2)*qj (dq ((dm ls).getD i e0).2 g.2) (dq ((dm ls).getD i e0).2 g.2):=by
     unfold qj cn;grind
    rw[z,j]at id
    have G:0<qj (dq ((dm ls).getD i e0).1 g.2) (dq ((dm ls).getD i e0).1 g.2):=by
     unfold qj;exact sq_pos λ⟨q1,q2⟩=>xg c1 (tq q1 q2)
    have H:0<qj (dq ((dm ls).getD i e0).2 g.2) (dq ((dm ls).getD i e0).2 g.2):=by
     unfold qj;exact sq_pos λ⟨q1,q2⟩=>xg a (tq q1 q2)
    have:=Ck G H;lia
   lia)
  exact hy d
 have:=key y A (xg c1) (xg a) F;lia
theorem a1l(u w v:Sp):0<=aW u w v/\aW u w v<=1:=by unfold aW;split<;>lia
theorem WC(b:Sp)(ls:List (List Sp)):Hu (λf=>(if f.2=b then(1:Int)else 0)-(if f.1=b then 1 else 0)) (dm ls)=0:=a2f (λp=>if p=b then 1 else 0) ls
theorem alt{ls:List (List Sp)}(h:ye (dm ls)=ah)(g:zt (dm ls))(z:Jh (dm ls)=ah){c e2:Ed}(j:c∈dm ls)(a:e2∈dm ls)(hb:c.2=e2.2)
  (s:∀f∈dm ls,f.1=e2.2->Dh (dq c.1 e2.2) (dq f.2 e2.2) (dq e2.1 e2.2)=ag):False:=by
 have one:∀e∈dm ls,sU (dm ls) e.2 (dq e.1 e.2)=1:=by
  intro e m;rw[<-RN h g m];obtain⟨i,d,rfl⟩:=v7 m;have p:=dg.1 z i (er.2 d);exact RY d (kD h g d) (rp h d).1 (by simpa using p)
 have o1:=one c j;have o2:=one e2 a;rw[hb]at o1
 have ne:∀e∈dm ls,e.1≠e.2:=λe m=>by
  obtain⟨i,d,rfl⟩:=v7 m;exact(rp h d).1
 have n1:dq c.1 e2.2≠(0,0):=xg (by rw[<-hb];exact ne c j);have n2:dq e2.1 e2.2≠(0,0):=xg (ne e2 a);have t1:=pZ h g (b:=e2.2) (u:=dq c.1 e2.2) (w:=dq e2.1 e2.2) ⟨e2,a,rfl⟩ n1 n2;have t2:=pZ h g (b:=e2.2) (u:=dq e2.1 e2.2) (w:=dq e2.1 e2.2) ⟨e2,a,rfl⟩ n2 n2
 have C:0<=Hu (tX e2.2 (dq c.1 e2.2) (dq e2.1 e2.2)) (dm ls):=by
  refine sN λf n=>?_;unfold tX;by_cases c1:f.1=e2.2
  ·rw[bc c1];unfold aW;rw[s f n c1];decide
  rw[aq c1];split
  ·exact(a1l _ _ _).1
  decide
 have t:1<=Hu (λf=>((if f.2=e2.2 then(1:Int)else 0)-(if f.1=e2.2 then 1 else 0))+ -(tX e2.2 (dq e2.1 e2.2) (dq e2.1 e2.2) f)) (dm ls):=by
  refine OS (e:=e2) (λf n=>?_) a ?_
  ·unfold tX;have:=a1l (dq e2.1 e2.2) (dq e2.1 e2.2) (dq f.1 e2.2);have l:=ne f n;by_cases c1:f.1=e2.2
   ·have r:f.2≠e2.2:=λq=>l (by rw[c1,q]);rw[bc c1,aq r,bc c1]
    have:Dh (dq e2.1 e2.2) (dq f.2 e2.2) (dq e2.1 e2.2)=true:=by
     have B:¬Par (dq f.2 e2.2) (dq e2.1 e2.2):=λq=>by
      have:=Tl h g n a (b:=e2.2) (v:=f.2) (w:=e2.1) (.inl (tq c1 rfl)) (.inr rfl) q;subst this;exact l c1
     obtain⟨F,o⟩:=mV n2 (xg r) n2 n2;have q1:=o.Dh 0 1 0;simp only[four]at q1;rw[q1]
     have A:F 1≠F 0:=λq=>by
      have hz:cn (dq f.2 e2.2) (dq e2.1 e2.2)=0:=(xE (o.sg 1 0)).2 (by rw[q];unfold csg;rw[bc];left;lia);rcases o.dt 1 0 hz with k|k
      ·exact B ⟨hz,k.2⟩
      exact k.1 q
     revert A;generalize F 0=x;generalize F 1=y;revert x y;decide+kernel
    unfold aW;rw[bc this];decide
   rw[aq c1,aq c1];split<;>lia
  unfold tX;have c1:=ne e2 a;rw[aq c1,aq c1,bc rfl,bc rfl]
  have:Dh (dq e2.1 e2.2) (dq e2.1 e2.2) (dq e2.1 e2.2)=false:=by
   rw[iL,bc rfl,Qq];rfl
  unfold aW;rw[this];decide
 rw[jE,WC,wX]at t;lia
theorem a89:∀u a b:Fin 8,Ux u a b=ah->Ux u b a=false:=by decide+kernel
theorem bL{u x y:Sp}(d:u≠(0,0))(hx:x≠(0,0))(hy:y≠(0,0))(h:Dh u x y=ah):Dh u y x=false:=by
 obtain⟨f,c⟩:=mV d hx hy hy;have a:=c.Dh 0 1 2;have b:=c.Dh 0 2 1;simp only[four]at a b;rw[a]at h;rw[b];exact a89 _ _ _ h
section
variable{es:List Ed}(h:ye es=ah)(hc:zt es)
 include h
theorem Nf{e:Ed}(a:e∈es):e.1≠e.2:=by
 obtain⟨i,b,rfl⟩:=v7 a;exact(rp h b).1
 include hc
theorem a0i{a b:Sp}(m:(a,b)∈es):∀l:List Sp,l≠[]->(∀d∈l,(b,d)∈es)->∃x∈l,∀w∈l,w≠x->Dh (dq a b) (dq x b) (dq w b)=true:=by
 have u:=xg (Nf h m);have j:∀d,(b,d)∈es->dq d b≠(0,0):=λd n=>xg λq=>Nf h n q.symm;intro l
 induction l with
 |nil=>intro v;exact absurd rfl v
 |cons t r y=>
  intro _ k;have o:=k t (by simp);by_cases s:r=[]
  ·subst s;exact⟨t,by simp,λw c f=>by simp at c;exact absurd c f⟩
  obtain⟨x,hx,hb⟩:=y s λd n=>k d (by simp[n]);have i:=k x (by simp[hx]);by_cases e:t=x
  ·subst e
   exact⟨t,by simp,λw c f=>by
    rcases fa.1 c with q|q
    ·exact absurd q f
    exact hb w q f⟩
  have p:Dh (dq a b) (dq t b) (dq x b)=ah\/Dh (dq a b) (dq x b) (dq t b)=true:=by
   cases q:Dh (dq a b) (dq t b) (dq x b)
   ·exact .inr (jF u (j t o) (j x i) (qT h hc o i e) q)
   exact .inl rfl
  rcases p with q|q
  ·refine⟨t,by simp,λw c f=>?_⟩;rcases fa.1 c with g|g
   ·exact absurd g f
   by_cases e2:w=x
   ·rw[e2];exact q
   exact xC u (j x i) (j t o) (j w (k w c)) q (hb w g e2)
  refine⟨x,by simp[hx],λw c f=>?_⟩;rcases fa.1 c with g|g
  ·rw[g];exact q
  exact hb w g f
theorem Sl{e:Ed}(i:e∈es):(Cc es e).1=e.2/\Cc es e∈es/\∀w,(e.2,w)∈es->w≠(Cc es e).2->Dh (dq e.1 e.2) (dq (Cc es e).2 e.2) (dq w e.2)=ah/\Dh (dq e.1 e.2) (dq w e.2) (dq (Cc es e).2 e.2)=false:=by
 refine⟨rfl,aJ hc i,?_⟩;obtain⟨f,t,s⟩:=hc.1 e i;have o:f.2∈outs es e.2:=Cq.2 (by rw[<-s];exact t);have j:=xg (Nf h i);have k:∀d,(e.2,d)∈es->dq d e.2≠(0,0):=λd l=>xg λq=>Nf h l q.symm;obtain⟨x,hx,hb⟩:=a0i h hc (a:=e.1) (b:=e.2) i (outs es e.2) (λq=>by rw[q]at o;cases o) λd l=>Cq.1 l
 have u:(Cc es e).2=x:=by
  show cJ (outs es e.2) e.1 e.2=x
  have n:∀w∈outs es e.2,w≠x->Qt e.2 (dq e.1 e.2) x w=ag/\Qt e.2 (dq e.1 e.2) w x=true:=by
   intro w c g;have nx:=k x (Cq.1 hx);have m:=k w (Cq.1 c);rw[Qs j nx m,Qs j m nx];exact⟨bL j nx m (hb w c g),hb w c g⟩
  cases p:outs es e.2 with
  |nil=>rw[p]at hx;cases hx
  |cons y r=>
   rw[p]at n hx;exact lT r y hx n
 intro w c g;rw[u]at g|-;have q:=hb w (Cq.2 c) g;exact⟨q,bL j (k x (Cq.1 hx)) (k w c) q⟩
end
theorem Tk{ls:List (List Sp)}(h:ye (dm ls)=ah)(i:zt (dm ls))(r:Jh (dm ls)=ah){e g:Ed}(b:e∈dm ls)(j:g∈dm ls)(hb:e.2=g.2)
  (hs:Dh (dq e.1 e.2) (dq g.1 e.2) (dq (Cc (dm ls) e).2 e.2)=ah):False:=by
 obtain⟨_,n2,s⟩:=Sl h i b;have l:dq g.1 e.2≠(0,0):=xg (by rw[hb];exact Nf h j);have k:=xg (Nf h b);have n:∀d,(e.2,d)∈dm ls->dq d e.2≠(0,0):=λd o=>xg λq=>Nf h o q.symm;have m:dq (Cc (dm ls) e).2 e.2≠(0,0):=n _ n2;refine alt h i r b j hb λf p c=>?_;rw[<-hb]at c|-
 have a:(e.2,f.2)∈dm ls:=by rw[<-c];exact p
 cases q:Dh (dq e.1 e.2) (dq f.2 e.2) (dq g.1 e.2)
 ·rfl
 exfalso;by_cases e2:f.2=(Cc (dm ls) e).2
 ·rw[e2]at q;have:=bL k m l q;rw[hs]at this;cases this
 have t:=xC k l (n _ a) m q hs;rw[(s _ a e2).2]at t;cases t
theorem zX{ls:List (List Sp)}(h:ye (dm ls)=ah)(b:zt (dm ls))(f:Jh (dm ls)=ah){e g:Ed}(a:e∈dm ls)(c:g∈dm ls)(i:Cc (dm ls) e=Cc (dm ls) g):e=g:=by
 apply Oq;intro j;have hb:e.2=g.2:=congrArg afq i;obtain⟨_,n2,t⟩:=Sl h b a;have l:dq g.1 e.2≠(0,0):=xg (by rw[hb];exact Nf h c);have k:=xg (Nf h a);have m:dq (Cc (dm ls) e).2 e.2≠(0,0):=xg λq=>Nf h n2 q.symm
 have d:g=(g.1,e.2):=by rw[hb]
 have n:¬Par (dq e.1 e.2) (dq g.1 e.2):=λp=>j (Tl h b a c (.inr rfl) (.inr d) p)
 have o:¬Par (dq (Cc (dm ls) e).2 e.2) (dq e.1 e.2):=λp=>by
  have:=Tl h b n2 a (.inl (tq rfl rfl)) (.inr rfl) p;have q:=congrArg afq this;exact Nf h a q.symm
 have r:¬Par (dq (Cc (dm ls) e).2 e.2) (dq g.1 e.2):=λp=>by
  have:=Tl h b n2 c (.inl (tq rfl rfl)) (.inr d) p;have q:=congrArg afq this;exact Nf h c (q.symm.trans hb)
 rcases OZ k l m n o r with s|s
 ·exact Tk h b f a c hb s
 refine Tk h b f c a hb.symm ?_;rw[<-i,<-hb];exact s
structure Cyc(es T:List Ed):Prop where
 pos:0<T.length
 sub:∀e∈T,e∈es
 nx:∀k,k<T.length->T.getD ((k+1)%T.length) e0=Cc es (T.getD k e0)
theorem vB{T:List Ed}{k:Nat}(h:k<T.length):T.getD k e0=T[k]:=by simp[cz,h]
section
variable{es u:List Ed}(hc:zt es)(inj:∀e∈es,∀g∈es,Cc es e=Cc es g->e=g)(hcl:∀x∈es,x∉u->Cc es x∉u)
 include hc inj hcl
theorem JN:∀(n:Nat) (V:List Ed) (e:Ed),(∀k,k+1<V.length->V.getD (k+1) e0=Cc es (V.getD k e0))->V.Nodup->(∀x∈V,x∈es)->(V≠[]->e=Cc es (V.getD (V.length-1) e0))->e∈es->e∉u->es.length<n+V.length->
  ∃R,Aj es n (u++V) e=(R.map (·.1),u++(V++R))/\Cyc es (V++R):=by
 intro n
 induction n with
 |zero=>
  intro V e _ s hs _ _ _ F;have:=qW s hs;lia
 |succ n G=>
  intro V e a s hs z b h F;unfold Aj;by_cases r:Md (u++V) e=ah
  ·rw[bc r];have p:e∈V:=(jz.1 (F3.1 r)).resolve_left h
   have t:V≠[]:=λq=>by rw[q]at p;cases p
   have B:0<V.length:=W8.2 t;have A:=z t;obtain⟨i,E,w⟩:=v7 p
   have l:i=0:=by
    apply Oq;intro l;obtain⟨j,rfl⟩:∃j,i=j+1:=⟨i-1,by lia⟩;have d:=a j E;rw[w,A]at d;have f:=inj _ (hs _ (L8 (by lia))) _ (hs _ (L8 (by lia))) d;rw[vB (by lia),vB (by lia)]at f;have D:=Cy.1 (yi.1 s) j (V.length-1) (by lia) (by lia) (by lia);exact D f.symm
   subst l;refine⟨[],by simp,?_⟩;rw[pt];refine⟨B,hs,λk m=>?_⟩;by_cases o:k+1<V.length
   ·rw[zz o];exact a k o
   have:k+1=V.length:=by lia
   rw[this,acb,w,A]
   congr 2
   lia
  rw[aq r];have p:e∉V:=λq=>r (F3.2 (jz.2 (.inr q)))
  have v:∀k,k<V.length->(V++[e]).getD k e0=V.getD k e0:=λk m=>by simp[cz,kq m]
  have C:(V++[e]).getD V.length e0=e:=by simp[cz]
  obtain⟨R,d,f⟩:=G (V++[e]) (Cc es e) (λk m=>by
   rw[dz]at m;by_cases c:k+1<V.length
   ·rw[v _ c,v _ (by lia)];exact a k c
   ·have:k+1=V.length:=by simp at m;lia
    have t:V≠[]:=λq=>by rw[q]at this;simp at this
    rw[this,C,v _ (by lia),z t]
    congr 2
    lia) (Xs.2 ⟨s,by simp,λx hx y hy q=>by simp at hy;subst hy;subst q;exact p hx⟩) (λx hx=>by
   rcases jz.1 hx with q|q
   ·exact hs x q
   simp at q;subst q;exact b) (λ_=>by rw[dz];simp) (aJ hc b) (hcl e b h) (by rw[dz];simp;lia)
  rw[<-uy]at d;rw[d];refine⟨e::R,?_,?_⟩
  ·simp
  rw[uy]at f;exact f
end
theorem NS{es:List Ed}(v:zt es)(inj:∀e∈es,∀g∈es,Cc es e=Cc es g->e=g):∀(r:List Ed) (x:List Ed×List (List Sp)),(∀e∈r,e∈es)->
  (∀e∈x.1,e∈es)->(∀e∈es,e∉x.1->Cc es e∉x.1)->(∀l∈x.2,∃T,Cyc es T/\l=Gs (xa es) (D5 es) (T.map (·.1)))->
  ∀l∈(r.foldl (yn es) x).2,∃T,Cyc es T/\l=Gs (xa es) (D5 es) (T.map (·.1)):=by
 intro r
 induction r with
 |nil=>intro x _ _ _ h;exact h
 |cons s r p=>
  intro x m n d o;rw[yb];unfold yn;by_cases f:Md x.1 s=ah
  ·rw[bc f];exact p x (λe a=>m e (by simp[a])) n d o
  rw[aq f];have hs:=m s (by simp);obtain⟨R,t1,t2⟩:=JN v inj d (es.length+1) [] s (λk b=>by simp at b) (by simp) (λy hy=>by cases hy) (λq=>absurd rfl q) hs (λq=>f (F3.2 q)) (by simp);rw[pt,ub]at t1;rw[ub]at t2;rw[t1];refine p _ (λe a=>m e (by simp[a])) (λe a=>?_) (λe a i=>?_) (λl z=>?_)
  ·rcases jz.1 a with q|q
   ·exact n e q
   exact t2.sub e q
  ·simp only[jz,not_or]at i|-;refine⟨d e a i.1,λq=>i.2 ?_⟩;obtain⟨j,w,t⟩:=v7 q;have A:=t2.pos
   obtain⟨k,b,u⟩:∃k,k<R.length/\(k+1)%R.length=j:=by
    by_cases c:j=0
    ·refine⟨R.length-1,by lia,?_⟩;rw[show R.length-1+1=R.length by lia,acb,c]
    refine⟨j-1,by lia,?_⟩;rw[show j-1+1=j by lia,zz w]
   have hx:=t2.nx k b;rw[u,t]at hx;have:=inj _ a _ (t2.sub _ (L8 b)) hx;rw[this];exact L8 b
  rcases jz.1 z with q|q
  ·exact o l q
  simp at q;exact⟨R,t2,q⟩
theorem Par.ne{a b:Sp}(h:Par a b):a≠(0,0)/\b≠(0,0):=by
 obtain⟨_,c⟩:=h;constructor<;>rintro rfl<;>(unfold qj at c;simp at c)
theorem Par.symm{a b:Sp}(h:Par a b):Par b a:=by
 obtain⟨c,d⟩:=h;refine⟨by rw[Ba,c];rfl,?_⟩
 have:qj b a=qj a b:=by unfold qj;grind
 lia
theorem Par.self{a:Sp}(h:a≠(0,0)):Par a a:=⟨Qq a,by
 unfold qj
 exact sq_pos λ⟨p,q⟩=>h (tq p q)⟩
theorem Par.trans{a b c:Sp}(h:Par a b)(k:Par b c):Par a c:=by
 obtain⟨f,d⟩:=mV h.ne.1 h.ne.2 k.ne.2 k.ne.2
 have g:f 0=f 1:=by
  rcases d.dt 0 1 h.1 with q|q
  ·exact q.1
  have:=h.2;have:=q.2;simp only[four]at this;lia
 have e2:f 1=f 2:=by
  rcases d.dt 1 2 k.1 with q|q
  ·exact q.1
  have:=k.2;have:=q.2;simp only[four]at this;lia
 have e:f 0=f 2:=g.trans e2;have hz:cn a c=0:=(xE (d.sg 0 2)).2 (by rw[e];unfold csg;rw[bc];left;lia);refine⟨hz,?_⟩;rcases d.dt 0 2 hz with q|q
 ·exact q.2
 exact absurd e q.1
theorem Par.add{a:Sp}{x y z:Sp}(h:Par a (dq y x))(k:Par a (dq z y)):Par a (dq z x):=by
 obtain⟨c,d⟩:=h;obtain⟨e,f⟩:=k
 have b:cn a (dq z x)=cn a (dq y x)+cn a (dq z y):=by unfold cn dq;grind
 have e2:qj a (dq z x)=qj a (dq y x)+qj a (dq z y):=by unfold qj dq;grind
 exact⟨by lia,by lia⟩
theorem Par.neg{a b c d:Sp}(h:Par (dq a b) (dq c d)):Par (dq b a) (dq d c):=by
 obtain⟨f,g⟩:=h
 have e:cn (dq b a) (dq d c)=cn (dq a b) (dq c d):=by unfold cn dq;grind
 have e2:qj (dq b a) (dq d c)=qj (dq a b) (dq c d):=by unfold qj dq;grind
 exact⟨by lia,by lia⟩
def Rot{α:Type}(a b:List α):Prop:=∃p q,a=p++q/\b=q++p
theorem Rot.symm{α:Type}{a b:List α}(h:Rot a b):Rot b a:=by obtain⟨p,q,c,d⟩:=h;exact⟨q,p,d,c⟩
theorem Rot.trans{α:Type}{a b c:List α}(h:Rot a b)(k:Rot b c):Rot a c:=by
 obtain⟨p,q,rfl,e⟩:=h;obtain⟨r,s,d,rfl⟩:=k;rw[e]at d;rcases List.append_eq_append_iff.1 d with ⟨t,rfl,rfl⟩|⟨t,rfl,rfl⟩
 ·exact⟨t,s++q,by simp,by simp⟩
 exact⟨p++r,t,by simp,by simp⟩
def pP(Q:Ed->Ed->Prop)(T:List Ed):Prop:=0<T.length/\∀k,k<T.length->Q (T.getD k e0) (T.getD ((k+1)%T.length) e0)
theorem jP{p q:List Ed}{k:Nat}(a:k<(p++q).length):(q++p).getD k e0=(p++q).getD ((k+p.length)%(p++q).length) e0:=by
 rw[dz]at a|-;by_cases c:k<q.length
 ·rw[zz (by lia)];simp only[cz];rw[kq c,l9 (by lia)]
  congr 2
  lia
 have:(k+p.length)%(p.length+q.length)=k-q.length:=by
  rw[Nat.mod_eq_sub_mod (by lia),zz (by lia)];lia
 rw[this];simp only[cz];rw[l9 (by lia),kq (by lia)]
theorem pP.rot{Q:Ed->Ed->Prop}{T a:List Ed}(h:pP Q T)(r:Rot T a):pP Q a:=by
 obtain⟨p,q,rfl,rfl⟩:=r;obtain⟨b,d⟩:=h
 have f:(q++p).length=(p++q).length:=by simp[Nat.add_comm]
 refine⟨by lia,λk c=>?_⟩;rw[f]at c|-;have:=d ((k+p.length)%(p++q).length) (Ht _ b);rw[jP c,jP (Ht _ b)]
 have e:((k+1)%(p++q).length+p.length)%(p++q).length=((k+p.length)%(p++q).length+1)%(p++q).length:=by
  rw[VL,VL]
  congr 1
  lia
 rw[e];exact this
def chE:List Ed->Prop
 |[]=>True
 |[_]=>True
 |x::y::r=>y.1=x.2/\chE (y::r)
theorem UH:∀{T:List Ed},(∀k,k+1<T.length->(T.getD (k+1) e0).1=(T.getD k e0).2)->chE T
 |[],_=>trivial
 |[_],_=>trivial
 |x::y::r,h=>⟨h 0 (by simp),UH λk a=>h (k+1) (by simpa using a)⟩
section
variable{c:Sp->Bool}{S:Ed->Prop}(l8:∀e,S e->e.1≠e.2)(xv:∀e f,S e->S f->e.2=f.1->c f.1=ag->Par (dq e.2 e.1) (dq f.2 f.1))
 include l8 xv
theorem fwd:∀(M:List Ed) (f:Ed),chE (f::M)->(∀x∈f::M,S x)->Par (dq f.2 f.1) (dq (((M.map (·.1)).filter c).headD ((f::M).getD M.length e0).2) f.1):=by
 intro M
 induction M with
 |nil=>
  intro f _ hs;exact Par.self (xg λq=>l8 f (hs f (by simp)) q.symm)
 |cons g M l=>
  intro f d hs;have h:=hs f (by simp);have k:=hs g (by simp);have b:g.1=f.2:=d.1;by_cases a:c g.1=ah
  ·have:(((g::M).map (·.1)).filter c)=g.1::((M.map (·.1)).filter c):=by rw[du,Bl,bc a]
   rw[this,List.headD_cons,b];exact Par.self (xg λq=>l8 f h q.symm)
  have:(((g::M).map (·.1)).filter c)=((M.map (·.1)).filter c):=by rw[du,Bl,aq a]
  rw[this];have i:=l g d.2 λx hx=>hs x (by simp[fa.1 hx]);have s:=xv f g h k b.symm (by simpa using a);have e:(f::g::M).getD (g::M).length e0=(g::M).getD M.length e0:=rfl;rw[e];have j:=s.trans i;rw[b]at j;exact Par.add (Par.self (xg λq=>l8 f h q.symm)) j
end
theorem a36:∀{T:List Ed},chE T->chE ((T.map λe=>(e.2,e.1)).reverse):=by
 have app:∀(A:List Ed) (x y:Ed),chE (A++[x])->y.1=x.2->chE (A++[x]++[y]):=by
  intro A
  induction A with
  |nil=>intro x y _ h;exact⟨h,trivial⟩
  |cons a A d=>
   intro x y c f
   cases A with
   |nil=>exact⟨c.1,f,trivial⟩
   |cons b A=>exact⟨c.1,d x y c.2 f⟩
 intro T
 induction T with
 |nil=>intro _;trivial
 |cons x r d=>
  intro h
  cases r with
  |nil=>exact trivial
  |cons y r=>
   have i:=d h.2;rw[du,oq]at i;rw[du,oq,du,oq];exact app _ (y.2,y.1) (x.2,x.1) i h.1.symm
theorem TJ{c:Sp->Bool}{T:List Ed}{v:Sp}{X:List Sp}(h:Rot ((T.map (·.1)).filter c) (v::X)):∃f R,Rot T (f::R)/\f.1=v/\c v=ah/\(R.map (·.1)).filter c=X:=by
 have key:∀P Q,(T.map (·.1)).filter c=P++v::Q->∃f R,Rot T (f::R)/\f.1=v/\c v=ah/\(R.map (·.1)).filter c=Q++P:=by
  intro P Q h;obtain⟨n,o,b,a,e⟩:=List.filter_eq_append_iff.1 h;obtain⟨r,s,rfl,g,i,j⟩:=List.filter_eq_cons_iff.1 e;obtain⟨A,B,rfl,rfl,l⟩:=acf.1 b;obtain⟨C,D,rfl,rfl,m⟩:=acf.1 l;obtain⟨f,E,rfl,rfl,rfl⟩:=List.map_eq_cons_iff.1 m;refine⟨f,E++(A++C),⟨A++C,f::E,by simp,by simp⟩,rfl,i,?_⟩;have k:(C.map (·.1)).filter c=[]:=List.filter_eq_nil_iff.2 g;rw[fj,Jy,j,fj,Jy,a,k];simp
 obtain⟨p,q,b,a⟩:=h
 cases q with
 |nil=>
  rw[ub]at a;subst a;rw[pt]at b;simpa using key [] X b
 |cons w q=>
  rw[qc]at a
  injection a with d e2
  subst d e2;exact key p q b
theorem SA{f:Ed}{R:List Ed}:(f::R).getD R.length e0=(f::R).getLast (by simp):=by
 rw[List.getLast_eq_getElem];simp[cz]
theorem LF{es:List Ed}(h:ye es=ah)(hc:zt es){c:Sp->Bool}(xv:∀e∈es,∀f∈es,e.2=f.1->c f.1=ag->Par (dq e.2 e.1) (dq f.2 f.1))
  {T H:List Ed}(hT:∀e∈T,e∈es)(W:∀e∈H,e∈es){Q:Ed->Ed->Prop}(r:pP (λx y=>y.1=x.2) T)(r':pP (λx y=>y.1=x.2) H)(rQ:pP Q H)(hr:Rot ((T.map (·.1)).filter c) ((H.map (·.1)).filter c))
  {k:Nat}(Z:k<T.length)(C:c (T.getD ((k+1)%T.length) e0).1=ah):Q (T.getD k e0) (T.getD ((k+1)%T.length) e0):=by
 have n0:=r.1;have hj:(k+1)%T.length<T.length:=Ht _ n0;have K:T.take ((k+1)%T.length)++T.drop ((k+1)%T.length)=T:=Ej _ _;have o:Rot T (T.drop ((k+1)%T.length)++T.take ((k+1)%T.length)):=⟨_,_,K.symm,rfl⟩
 have g:∀i,i<T.length->(T.drop ((k+1)%T.length)++T.take ((k+1)%T.length)).getD i e0=T.getD ((i+(k+1)%T.length)%T.length) e0:=by
  intro i hi;have:=jP (p:=T.take ((k+1)%T.length)) (q:=T.drop ((k+1)%T.length)) (k:=i) (by rw[K];exact hi);rw[K,ey,rY (by lia)]at this;exact this
 have O:=g 0 n0;have P:=g (T.length-1) (by lia)
 have em:(T.length-1+(k+1)%T.length)%T.length=k:=by
  by_cases ck:k+1<T.length
  ·rw[zz ck,show T.length-1+(k+1)=T.length+k by lia,Nat.add_mod_left,zz Z]
  have:k+1=T.length:=by lia
  rw[this,acb,Ad,zz (by lia)];lia
 rw[em]at P;rw[gj,Nat.mod_mod]at O
 have j:(T.drop ((k+1)%T.length)++T.take ((k+1)%T.length)).length=T.length:=by simp;lia
 obtain⟨f,R,Y⟩:∃f R,T.drop ((k+1)%T.length)++T.take ((k+1)%T.length)=f::R:=by
  cases q:T.drop ((k+1)%T.length)++T.take ((k+1)%T.length)with
  |nil=>rw[q]at j;simp at j;lia
  |cons f R=>exact⟨f,R,rfl⟩
 rw[Y]at o O P j;have E:f=T.getD ((k+1)%T.length) e0:=O
 have V:R.length=T.length-1:=by simp at j;lia
 rw[<-E]at C|-;rw[<-P]
 have N:((f::R).map (·.1)).filter c=f.1::(R.map (·.1)).filter c:=by rw[du,Bl,bc C]
 have G:Rot ((T.map (·.1)).filter c) (((f::R).map (·.1)).filter c):=by
  obtain⟨p,q,A,B⟩:=o;rw[A,B];exact⟨(p.map (·.1)).filter c,(q.map (·.1)).filter c,by rw[fj,Jy],by rw[fj,Jy]⟩
 rw[N]at G;obtain⟨n,m,t1,t2,_,t4⟩:=TJ (hr.symm.trans G)
 have t:∀x∈f::R,x∈es:=by
  obtain⟨p,q,A,B⟩:=o;intro x hx;rw[B]at hx;refine hT x ?_;rw[A];simp only[jz]at hx|-;exact hx.symm
 have s:∀x∈n::m,x∈es:=by
  obtain⟨p,q,A,B⟩:=t1;intro x hx;rw[B]at hx;refine W x ?_;rw[A];simp only[jz]at hx|-;exact hx.symm
 have c1:=r.rot o;have c2:=r'.rot t1;have q2:=rQ.rot t1
 have one:∀(f:Ed) (R:List Ed),(∀x∈f::R,x∈es)->pP (λx y=>y.1=x.2) (f::R)->
   Par (dq f.2 f.1) (dq (((R.map (·.1)).filter c).headD f.1) f.1)/\Par (dq ((f::R).getD R.length e0).1 f.1) (dq (((R.map (·.1)).filter c).reverse.headD f.1) f.1)/\((f::R).getD R.length e0).2=f.1:=by
  intro f R hm D
  have u:chE (f::R):=UH λk Z=>by
   have:=D.2 k (by lia);rw[zz Z]at this;exact this
  have hw:((f::R).getD R.length e0).2=f.1:=by
   have:=D.2 R.length (by simp);rw[show R.length+1=(f::R).length from rfl,acb]at this;exact this.symm
  have p1:=fwd (c:=c) (S:=λe=>e∈es) (λe z=>Nf h z) (λe f z E=>xv e z f E) R f u hm;rw[hw]at p1;refine⟨p1,?_,hw⟩;have hb:=a36 u
  obtain⟨M,I⟩:∃M,((f::R).map λe=>(e.2,e.1)).reverse=((((f::R).getD R.length e0).2,((f::R).getD R.length e0).1):Ed)::M:=by
   rw[SA,<-JD]
   have:(f::R).reverse=(f::R).getLast (by simp)::(f::R).dropLast.reverse:=by
    conv=>lhs;rw[<-List.dropLast_concat_getLast (l:=f::R) (by simp)]
    rw[W6];rfl
   rw[this,du];exact⟨_,rfl⟩
  have U:M.length=R.length:=by
   have:=congrArg Ae I;simp at this;lia
  have lD:((((f::R).map λe=>(e.2,e.1)).reverse).getD R.length e0)=(f.2,f.1):=by
   simp[cz]
  have L:(M.map (·.1)).filter c=((R.map (·.1)).filter c).reverse:=by
   have e1:M.map (·.1)=(R.map (·.1)).reverse:=by
    have a:afi (·.2) (f::R).reverse=((f::R).getD R.length e0).2::M.map (·.1):=by
     have d:afi (λx:Ed=>x.1) (((f::R).map λe=>(e.2,e.1)).reverse)=afi (·.2) (f::R).reverse:=by rw[<-JD,JE];rfl
     exact d.symm.trans (congrArg (afi (λx:Ed=>x.1)) I)
    have st:∀(R:List Ed) (f:Ed),chE (f::R)->(f::R).map (·.2)=R.map (·.1)++[((f::R).getD R.length e0).2]:=by
     intro R
     induction R with
     |nil=>intro f _;rfl
     |cons g R ih=>
      intro f hh;have:=ih g hh.2;rw[du,this,du,hh.1];rfl
    have b:=congrArg List.reverse (st R f u);rw[<-JD,W6]at b;rw[b]at a;simp only[oq,rZ,ub,qc,iI]at a;exact a.2.symm
   rw[e1,List.filter_reverse]
  rw[I]at hb lD
  have J:=fwd (c:=c) (S:=λe=>(e.2,e.1)∈es) (λe z q=>Nf h z q.symm) (λe f z E hq X=>by
   have:=xv _ E _ z (show f.1=e.2 from hq.symm) (by rw[hq];exact X)
   exact this.symm.neg) M _ hb (λx hx=>by
   rw[<-I,List.mem_reverse,j6]at hx;obtain⟨y,hy,rfl⟩:=hx
   exact hm y hy)
  rw[U,lD,L]at J;simp only at J;rw[hw]at J;exact J
 obtain⟨a1,a2,a3⟩:=one f R t c1;obtain⟨b1,b2,b3⟩:=one n m s c2;rw[t4,t2]at b1 b2;rw[t2]at b3;have ef:f=n:=Tl h hc (t f (by simp)) (s n (by simp)) (b:=f.1) (v:=f.2) (w:=n.2) (.inl rfl) (.inl (tq t2 rfl)) (a1.trans b1.symm);have F:∀(f:Ed) (R:List Ed),(f::R).getD R.length e0∈f::R:=λf R=>L8 (by simp);have ee:(f::R).getD R.length e0=(n::m).getD m.length e0:=Tl h hc (t _ (F f R)) (s _ (F n m)) (b:=f.1) (v:=((f::R).getD R.length e0).1) (w:=((n::m).getD m.length e0).1) (.inr (tq rfl a3)) (.inr (tq rfl b3)) (a2.trans b2.symm);rw[<-V,ee,ef];have:=q2.2 m.length (by simp);rw[show m.length+1=(n::m).length from rfl,acb]at this;exact this
theorem a3e{e:Ed}{p:Sp}(n:e.1≠e.2)(h:onB e p=ah)(i:p≠e.1)(j:p≠e.2):lF e p=true:=by
 obtain⟨a,b⟩:=e;unfold onB mn mx at h;simp only[dc,beq_iff_eq,decide_eq_true_eq]at h;obtain⟨k,c,d,f,g⟩:=h;simp only at c d f g i j
 have hz:cn (dq a p) (dq b p)=0:=by rw[<-Wn];exact k
 unfold lF;simp only[dc,beq_iff_eq,decide_eq_true_eq];refine⟨hz,?_⟩
 have x1:(a.1-p.1)*(b.1-p.1)<=0:=by
  rcases Xu a.1 p.1 with q|q|q
  ·exact JG (by lia) (by split at c<;>split at d<;>lia)
  ·rw[q,Int.sub_self,Wv];decide
  exact Ar (by lia) (by split at c<;>split at d<;>lia)
 have x2:(a.2-p.2)*(b.2-p.2)<=0:=by
  rcases Xu a.2 p.2 with q|q|q
  ·exact JG (by lia) (by split at f<;>split at g<;>lia)
  ·rw[q,Int.sub_self,Wv];decide
  exact Ar (by lia) (by split at f<;>split at g<;>lia)
 have id:((a.1-p.1)*(b.1-p.1)+(a.2-p.2)*(b.2-p.2))*((a.1-p.1)*(b.1-p.1)+(a.2-p.2)*(b.2-p.2))+cn (dq a p) (dq b p)*cn (dq a p) (dq b p)
   =((a.1-p.1)*(a.1-p.1)+(a.2-p.2)*(a.2-p.2))*((b.1-p.1)*(b.1-p.1)+(b.2-p.2)*(b.2-p.2)):=by
  unfold cn dq;grind
 rw[hz]at id;have l:0<(a.1-p.1)*(a.1-p.1)+(a.2-p.2)*(a.2-p.2):=sq_pos λ⟨q1,q2⟩=>i (tq (by lia) (by lia));have m:0<(b.1-p.1)*(b.1-p.1)+(b.2-p.2)*(b.2-p.2):=sq_pos λ⟨q1,q2⟩=>j (tq (by lia) (by lia));have r:=Ck l m
 have o:(a.1-p.1)*(b.1-p.1)+(a.2-p.2)*(b.2-p.2)≠0:=λz=>by
  rw[z]at id;lia
 show(a.1-p.1)*(b.1-p.1)+(a.2-p.2)*(b.2-p.2)<0;lia
theorem FT(e f:Ed):Cx e f=Cx f e:=by
 unfold Cx;rw[Bool.and_comm]
theorem BA(e:Ed):Cx e e=false:=by
 unfold Cx
 have z:gu e.1 e.2 e.1=0:=by unfold gu;grind
 rw[z];simp[sgn]
theorem TU{es:List Ed}(h:Ov es=ah):ye es=true:=by
 unfold Ov at h;rw[dc]at h;obtain⟨n,o⟩:=h;have one:∀i,i<es.length->Xb es i=true:=λi d=>dg.1 n i (er.2 d);have f:∀i,i<es.length->∀k,k<es.length->Uy es i k=true:=λi d k e=>dg.1 (dg.1 o i (er.2 d)) k (er.2 e)
 have ne:∀i,i<es.length->(es.getD i e0).1≠(es.getD i e0).2:=by
  intro i d q;have:=one i d;unfold Xb at this;rw[r9.2 q]at this;simp at this
 have lt:∀i k,i<es.length->k<i->es.getD i e0≠es.getD k e0/\nW (es.getD i e0)≠es.getD k e0:=by
  intro i k d e;have:=one i d;unfold Xb at this;simp only[dc,ot]at this
  have j:es.getD k e0∈es.take i:=by
   rw[vB (show k<es.length by lia)];exact a8o.2 ⟨k,by lia,rfl⟩
  constructor
  ·intro q;rw[<-q]at j;have:=F3.2 j
   simp_all
  intro q;rw[<-q]at j;have:=F3.2 j
  simp_all
 unfold ye;refine dg.2 λi d=>?_;have d:=er.1 d;unfold Ty;rw[dc];refine⟨by rw[sO (ne i d)];rfl,dg.2 λk e=>?_⟩;have e:=er.1 e;rw[dc];constructor
 ·unfold Zy;have t:=f i d k e;unfold Uy at t;simp only[dc,ot]at t
  have c:Cx (es.getD i e0) (es.getD k e0)=false:=by
   rcases Nat.lt_trichotomy k i with q|q|q
   ·have:=t.2;rw[decide_eq_true q,rv]at this;exact this
   ·subst q;exact BA _
   have t2:=f k e i d;unfold Uy at t2;simp only[dc,ot]at t2;have:=t2.2;rw[decide_eq_true q,rv]at this;rw[FT];exact this
  rw[c,R0];cases l:onB (es.getD i e0) (es.getD k e0).1
  ·simp
  by_cases q1:(es.getD k e0).1=(es.getD i e0).1
  ·rw[r9.2 q1];rfl
  by_cases q2:(es.getD k e0).1=(es.getD i e0).2
  ·rw[r9.2 q2];simp
  have:=a3e (ne i d) l q1 q2;rw[t.1]at this;cases this
 unfold X7;by_cases q:i=k
 ·rw[decide_eq_false (λh=>h q)];rfl
 rw[decide_eq_true q,rv]
 have m:es.getD i e0≠es.getD k e0/\¬((es.getD i e0).1=(es.getD k e0).2/\(es.getD i e0).2=(es.getD k e0).1):=by
  rcases a5i q with g|g
  ·obtain⟨a,b⟩:=lt k i e g;exact⟨λw=>a w.symm,λ⟨w1,w2⟩=>b (tq w1.symm w2.symm)⟩
  obtain⟨a,b⟩:=lt i k d g;exact⟨a,λ⟨w1,w2⟩=>b (tq w2 w1)⟩
 have n1:X6 (es.getD i e0) (es.getD k e0)=false:=by
  cases w:X6 (es.getD i e0) (es.getD k e0)
  ·rfl
  exact absurd (TX.1 w) m.1
 rw[n1,C0];cases w:w9 (es.getD i e0).1 (es.getD k e0).2
 ·rfl
 cases w2:w9 (es.getD i e0).2 (es.getD k e0).1
 ·rfl
 exact absurd ⟨r9.1 w,r9.1 w2⟩ m.2
theorem RX{ls:List (List Sp)}(h:ye (dm ls)=ah)(c:zt (dm ls))(d:Qr (dm ls)=ah):Jh (dm ls)=true:=by
 unfold Jh;refine dg.2 λi b=>?_;have a:=er.1 b;have:=dg.1 d i b;rw[rA a (kD h c a) (rp h a).1]at this;exact this
theorem BK(l:List Sp):∀k,k<=l.length->Rot l (Gx l k):=by
 intro k
 induction k with
 |zero=>intro _;exact⟨[],l,rfl,(pt l).symm⟩
 |succ k a=>
  intro b
  have e:Gx l (k+1)=Wd l (Gx l k) k:=by
   unfold Gx;rw[adb,qu];rfl
  rw[e];unfold Wd;split
  ·exact⟨l.take k,l.drop k,(Ej k l).symm,rfl⟩
  exact a (by lia)
theorem uE(l:List Sp):(jb l).map (·.1)=l:=by
 unfold jb;rw[JE];refine Xt (by simp) λi b a=>?_;simp[u9,cz,a]
theorem Sq{l:List Sp}{k:Nat}(a:k<l.length):(jb l).getD k e0=u9 l k:=by
 unfold jb;simp[cz,a]
theorem MC{l:List Sp}(h:0<l.length):pP (λx y=>y.1=x.2) (jb l):=by
 refine⟨by rw[qh];exact h,λk a=>?_⟩;rw[qh]at a|-;rw[Sq a,Sq (Ht _ h)];rfl
theorem wZ{ls:List (List Sp)}(h:ye (dm ls)=ah)(n:zt (dm ls))(D:Jh (dm ls)=ah){e f:Ed}(i:e∈dm ls)(o:f∈dm ls)(d:e.2=f.1)(j:J5 (xa (dm ls)) (D5 (dm ls)) f.1=ag):
  Par (dq e.2 e.1) (dq f.2 f.1)/\Cc (dm ls) e=f:=by
 have C:=IH f.1 (dm ls) ⟨f,o,rfl⟩;obtain⟨B,_⟩:=EP f.1 (dm ls) ⟨e,i,d⟩;unfold J5 at j;rw[C,B]at j;have c:f.2∈outs (dm ls) f.1:=Cq.2 o;have k:e.1∈ins (dm ls) f.1:=HU.2 (by rw[<-d];exact i);obtain⟨_,n2,_⟩:=Sl h n i;have m:(Cc (dm ls) e).2∈outs (dm ls) f.1:=Cq.2 (by rw[<-d];exact n2)
 cases s:outs (dm ls) f.1 with
 |nil=>rw[s]at c;cases c
 |cons b r=>
  cases r with
  |cons b2 r=>rw[s]at j;cases j
  |nil=>
   rw[s]at c m j
   have t:f.2=b:=by simpa using c
   have A:(Cc (dm ls) e).2=b:=by simpa using m
   have l:Cc (dm ls) e=f:=tq d (A.trans t.symm);refine⟨?_,l⟩
   cases y:ins (dm ls) f.1 with
   |nil=>rw[y]at k;cases k
   |cons a H=>
    rw[y]at j
    have hs:sgn (cn (dq f.1 a) (dq b f.1))=0:=by simpa using j
    have z:(a,f.1)∈dm ls:=HU.1 (by rw[y];simp)
    have x:Cc (dm ls) (a,f.1)=f:=by
     obtain⟨_,E,_⟩:=Sl h n z;have:(Cc (dm ls) (a,f.1)).2∈outs (dm ls) f.1:=Cq.2 E;rw[s]at this
     have:(Cc (dm ls) (a,f.1)).2=b:=by simpa using this
     exact tq rfl (this.trans t.symm)
    have u:=zX h n D z i (x.trans l.symm)
    have hz:cn (dq e.2 e.1) (dq f.2 f.1)=0:=by
     have:cn (dq f.1 a) (dq b f.1)=0:=by
      unfold sgn at hs;split at hs
      ·cases hs
      split at hs
      ·cases hs
      lia
     rw[<-u,t];exact this
    refine⟨hz,?_⟩;rcases Xu (qj (dq e.2 e.1) (dq f.2 f.1)) 0 with g|g|g
    ·exfalso
     have p:Par (dq e.1 f.1) (dq f.2 f.1):=by
      constructor
      ·have:cn (dq e.1 f.1) (dq f.2 f.1)= -(cn (dq e.2 e.1) (dq f.2 f.1)):=by rw[d];unfold cn dq;simp only;grind
       rw[this,hz];rfl
      have:qj (dq e.1 f.1) (dq f.2 f.1)= -(qj (dq e.2 e.1) (dq f.2 f.1)):=by rw[d];unfold qj dq;simp only;grind
      lia
     have:=Tl h n i o (b:=f.1) (v:=e.1) (w:=f.2) (.inr (tq rfl d)) (.inl rfl) p;subst this;exact Nf h i d.symm
    ·exfalso
     have id:qj (dq e.2 e.1) (dq f.2 f.1)*qj (dq e.2 e.1) (dq f.2 f.1)+cn (dq e.2 e.1) (dq f.2 f.1)*cn (dq e.2 e.1) (dq f.2 f.1)=qj (dq e.2 e.1) (dq e.2 e.1)*qj (dq f.2 f.1) (dq f.2 f.1):=by
      unfold qj cn;grind
     rw[g,hz]at id;have F:=(Par.self (xg λq=>Nf h i q.symm)).2;have G:=(Par.self (xg λq=>Nf h o q.symm)).2;have:=Ck F G;lia
    exact g
theorem QU{ls:List (List Sp)}(h:ye (dm ls)=ah)(B:∀l∈ls,3<=l.length)(m:Jh (dm ls)=ah)(hs:we (D2 ls)=we (Hr ls)){l:List Sp}(n:l∈ls){k:Nat}(b:k<l.length):
  Cc (dm ls) (u9 l k)=u9 l ((k+1)%l.length):=by
 have i:=Ia B;have d:(k+1)%l.length<l.length:=Ht _ (by lia);have E:=Vw n b;have F:=Vw n d;have u:(u9 l k).2=(u9 l ((k+1)%l.length)).1:=rfl;cases j:J5 (xa (dm ls)) (D5 (dm ls)) (u9 l ((k+1)%l.length)).1
 ·exact(wZ h i m E F u j).2
 ·
  have inj:∀e∈dm ls,∀g∈dm ls,Cc (dm ls) e=Cc (dm ls) g->e=g:=λe a g D q=>zX h i m a D q
  have p:Gs (xa (dm ls)) (D5 (dm ls)) l∈Hr ls:=by
   have A:Gs (xa (dm ls)) (D5 (dm ls)) l∈D2 ls:=j6.2 ⟨l,n,rfl⟩;have v:=(C2 (D2 ls)).mem_iff.2 A;rw[hs]at v;exact(C2 (Hr ls)).mem_iff.1 v
  obtain⟨T,t1,t2⟩:=NS i inj ((dm ls).take (dm ls).length) ([],[]) (λe a=>sC a) (λe a=>by cases a) (λe _ _ q=>by cases q) (λl m=>by cases m) _ p
  have o:Rot (((jb l).map (·.1)).filter λs=> !!J5 (xa (dm ls)) (D5 (dm ls)) s) ((T.map (·.1)).filter λs=> !!J5 (xa (dm ls)) (D5 (dm ls)) s):=by
   rw[uE];have a1:=BK (Ib (xa (dm ls)) (D5 (dm ls)) l) _ (bm _);have w:=BK (Ib (xa (dm ls)) (D5 (dm ls)) (T.map (·.1))) _ (bm _);have z:Gx (Ib (xa (dm ls)) (D5 (dm ls)) l) (Ib (xa (dm ls)) (D5 (dm ls)) l).length=Gs (xa (dm ls)) (D5 (dm ls)) l:=rfl;rw[z,t2]at a1;exact a1.trans w.symm
  have G:pP (λx y=>y=Cc (dm ls) x) T:=⟨t1.pos,λk b=>t1.nx k b⟩;have H:pP (λx y=>y.1=x.2) T:=⟨t1.pos,λk b=>by rw[t1.nx k b];rfl⟩
  have t:∀e∈jb l,e∈dm ls:=λe a=>by
   unfold dm;exact K3.2 ⟨l,n,a⟩
  have:=LF h i (c:=λs=> !!J5 (xa (dm ls)) (D5 (dm ls)) s) (λe a f C u r=>(wZ h i m a C u (by simpa using r)).1) t t1.sub (MC (by lia)) H G o (k:=k) (by rw[qh];exact b)
   (by rw[qh,Sq d,j];rfl)
  rw[qh,Sq b,Sq d]at this;exact this.symm
theorem OO{ls:List (List Sp)}(h:ye (dm ls)=ah)(r:∀l∈ls,3<=l.length)(t:Jh (dm ls)=ah)(hs:we (D2 ls)=we (Hr ls)):Ly ls (dm ls)=true:=by
 have s:=Ia r;unfold Ly;refine dg.2 λi d=>dg.2 λk f=>dg.2 λj n=>?_;have d:=er.1 d;have f:=er.1 f;have n:=er.1 n
 have u:ls.getD i []∈ls:=by
  have:ls.getD i []=ls[i]:=by simp[cz,d]
  rw[this];exact dj d
 generalize ls.getD i []=l at*
 have y:(k+1)%l.length<l.length:=Ht _ (by lia);have v:=Vw u f;have w:=QU h r t hs u f;obtain⟨_,n2,c⟩:=Sl h s v
 have e2:((k+1)%l.length+1)%l.length=(k+2)%l.length:=by rw[VL]
 have b:=L8 n;have nb:∀g∈dm ls,(u9 l k).2=g.2->Dh (dq (u9 l k).1 (u9 l k).2) (dq g.1 (u9 l k).2) (dq (Cc (dm ls) (u9 l k)).2 (u9 l k).2)=ah->False:=λg m hb o=>Tk h s t v m hb o;rw[w]at n2 c nb
 generalize(dm ls).getD j e0=g at*
 unfold Gk Xz;unfold u9 at n2 c nb;rw[e2]at n2 c nb;simp only at n2 c nb
 generalize l.getD k (0,0)=p at*
 generalize l.getD ((k+1)%l.length) (0,0)=a at*
 generalize l.getD ((k+2)%l.length) (0,0)=x at*
 split
 ·rename_i c1;have c1:=r9.1 c1;unfold U6;cases q:Dh (dq p a) (dq x a) (dq g.2 a)
  ·by_cases e:g.2=x
   ·rw[e,r9.2 rfl];simp
   have:=(c g.2 (by rw[c1];exact b) e).1;rw[q]at this;cases this
  by_cases e:g.2=x
  ·rw[e,r9.2 rfl];simp
  rw[(c g.2 (by rw[c1];exact b) e).2];simp
 split
 ·rename_i _ c1;have c1:=r9.1 c1;unfold U6;cases q:Dh (dq p a) (dq g.1 a) (dq x a)
  ·simp
  exact absurd q (λq=>nb g b c1 q)
 rfl
theorem wU(ls:List (List Sp))(i:Nat):uc (ls.take i)<=uc ls:=by
 have:uc ls=uc (ls.take i)+uc (ls.drop i):=by
  conv=>lhs;rw[<-Ej i ls]
  unfold uc;rw[fj,a8n]
 lia
theorem DC{ls:List (List Sp)}(h:w8 ls=ah):oe ls=true:=by
 unfold w8 at h;simp only[dc,decide_eq_true_eq]at h;obtain⟨e,m,n,o,q⟩:=h
 have b:∀l∈ls,3<=l.length/\∀p∈l,Gl p=true:=by
  intro l g;have:=dg.1 m l g;unfold okL at this;simp only[dc,decide_eq_true_eq,dg]at this;exact this
 have a:∀l∈ls,3<=l.length:=λl g=>(b l g).1;have f:=TU n;have r:=Ia a;have hb:=RX f r o;unfold oe;simp only[dc];refine⟨?_,f,hb,OO f a hb q⟩;unfold kE;refine dg.2 λi c=>?_;have c:=er.1 c
 have j:ls.getD i []∈ls:=by
  have:ls.getD i []=ls[i]:=by simp[cz,c]
  rw[this];exact dj c
 unfold Hi
 generalize ls.getD i []=l at*
 unfold eK at e;simp only[dc,decide_eq_true_eq]at e|-;refine⟨a _ j,jg (wU ls (i+1)) e.1,dg.2 λk d=>?_⟩;have d:=er.1 d;refine(b _ j).2 _ ?_
 have:l.getD k (0,0)=l[k]:=by simp only[cz,bh d,jj]
 rw[this];exact dj d
theorem jY(ls:List (List Sp)):w8 ls=oe ls:=by
 cases h:oe ls
 ·cases k:w8 ls
  ·rfl
  rw[DC k]at h;cases h
 exact jQ h
def Bd{α:Type}(key:α->ByteArray)(x:α):List α->List α
 |[]=>[x]
 |y::r=>if strLt (key x) (key y)=ah then x::y::r else y::Bd key x r
def Nh{α:Type}(key:α->ByteArray)(x:α)(l:List α):Bool:=l.any λy=>strLt (key x) (key y)
section
variable{α:Type}{key:α->ByteArray}{x:α}
theorem cX:∀{l:List α},Nh key x l=ag->Bd key x l=l++[x]
 |[],_=>rfl
 |y::r,h=>by
  unfold Nh at h;rw[a8q,K4]at h;rw[Bd,aq (by rw[h.1];simp),cX h.2];rfl
theorem cZ:∀{l:List α} (y:α),Nh key x l=ah->Bd key x (l++[y])=Bd key x l++[y]
 |[],_,h=>by cases h
 |z::r,y,h=>by
  rw[qc,Bd,Bd];by_cases c:strLt (key x) (key z)=ah
  ·rw[bc c,bc c];rfl
  rw[aq c,aq c,cZ y]
  ·rfl
  unfold Nh at h|-;rw[a8q]at h;simpa[c]using h
theorem cY:∀{l:List α} (y:α),Nh key x l=ag->strLt (key x) (key y)=ah->Bd key x (l++[y])=l++[x,y]
 |[],y,_,h=>by rw[ub,Bd,bc h];rfl
 |z::r,y,h,h2=>by
  unfold Nh at h;rw[a8q,K4]at h;rw[qc,Bd,aq (by rw[h.1];simp),cY y h.2 h2];rfl
theorem rW(l:List α)(y:α):Nh key x (l++[y])=(Nh key x l||strLt (key x) (key y)):=by
 unfold Nh;rw[List.any_append];simp
theorem N6:∀l:List α,(Bd key x l).length=l.length+1
 |[]=>rfl
 |y::r=>by
  rw[Bd];split
  ·rfl
  rw[cq,N6 r];rfl
def Jz(key:α->ByteArray)(x:α)(l:List α):List α:=if Nh key x l=ah then Bd key x l else l
theorem zF(l:List α):(Jz key x l).length<=l.length+1:=by
 unfold Jz;split
 ·rw[N6];lia
 lia
end
theorem vA(a b:ByteArray):(!(Ws a.toList b.toList||a.toList==b.toList))=strLt b a:=by
 have e:Ws a.toList b.toList=strLt a b:=rfl;have e2:(a.toList==b.toList)=i6 a b:=rfl;rw[e,e2];cases h:strLt b a
 ·by_cases q:b=a
  ·subst q;rw[Dy];simp
  rw[Y1 h q];rfl
 rw[Jq h,Ow.2 (P8 (Z3 h))];rfl
def Us(s:PS)(S:List Nat)(sz:Nat)(dv:List (List D))(v:V):Prop:=
 (dv=[]/\v= .d .cj)\/(dv≠[]/\∃id∈S,v= .ref id (s.ba id) dv.length/\s.di id=aa (.arr sz dv))
theorem Us.nil{s:PS}{S:List Nat}{sz:Nat}:Us s S sz [] (.d .cj):= .inl ⟨rfl,rfl⟩
theorem Us.mono{s s':PS}{S:List Nat}{sz:Nat}{dv:List (List D)}{v:V}(h:Us s S sz dv v)(e:∀j∈S,s'.ba j=s.ba j/\s'.di j=s.di j):Us s' S sz dv v:=by
 rcases h with ⟨b,c⟩|⟨b,id,a,c,d⟩
 ·exact .inl ⟨b,c⟩
 obtain⟨f,g⟩:=e id a;exact .inr ⟨b,id,a,by rw[f];exact c,by rw[g];exact d⟩
theorem cG{P:Program}{K:PS->Prop}{s:PS}{r:List RI}{i:List Nat}{d sz b:Nat}{x y:ov}{dv ys:List (List D)}{osz:Option Nat}{S:List Nat}(hx:Us s S sz dv (x.ev s))(k:s.base+d∈S)(hy:pj s (y.ev s)=aa (ys,osz))(f:osz.getD sz=sz)
  (n:(ys.all λe=>e.all D.one)=ah)(hb:(dv.length+ys.length)*b<=2^47)(m:ys≠[])
  (h:∀s' id,id∈S->s'.tmp=lu s.tmp d (.ref id (s'.ba id) (dv++ys).length)->s'.di=lu s.di id (aa (.arr sz (dv++ys)))->(∀j,j≠id->s'.ba j=s.ba j)->s'.mp=s.mp->s'.base=s.base->s'.ctx=s.ctx->mc P r s' K):
  mc P (⟨aa d,.app sz b x y,ae,i⟩::r) s K:=by
 rw[Gv];have o:0<ys.length:=W8.2 m;rcases hx with ⟨rfl,hx⟩|⟨_,id,c,hx,a⟩
 ·simp only[lg.qi,hx,hy,f];rw[bc trivial,aq (by lia),bc (by simpa using hb),Dk];refine h _ (s.base+d) k ?_ ?_ (λj g=>?_) rfl rfl rfl
  ·simp[my.app,PS.put,PS.vz,de]
  ·simp[my.app,PS.put,PS.vz]
  simp[my.app,PS.put,PS.vz,ie _ _ _ _ g]
 have l:s.dv id (s.ba id)=aa (sz,dv):=by
  unfold PS.dv;rw[bc rfl,a]
 simp only[lg.qi,hx,hy,f,l];rw[bc trivial,bc ⟨n,trivial,trivial,hb⟩,Dk];refine h _ id c ?_ ?_ (λj g=>?_) rfl rfl rfl
 ·simp[my.app,PS.put,PS.vz]
 ·simp[my.app,PS.put,PS.vz]
 simp[my.app,PS.put,PS.vz]
theorem Us.res{s:PS}{S:List Nat}{sz:Nat}{dv:List (List D)}{v:V}(h:Us s S sz dv v)(d:dv≠[]):∃id,v= .ref id (s.ba id) dv.length/\s.di id=aa (.arr sz dv):=by
 rcases h with ⟨a,_⟩|⟨_,id,_,b,c⟩
 ·exact absurd a d
 exact⟨id,b,c⟩
section
variable{P:Program}(A:Pr8 P)
theorem qF(t:Tr)(s:ByteArray)(u:t.ps.length<=2^40):iv P A.jl [.agg (vt t),.str s] (.int aj (ku t s)):=by
 refine ez A.mo A.oG (by simp) ?_;show l7 P R4 (ly _ _) _;simp only[R4,vt,ki,lr,go_sem,cu,ak];refine gf t.ps.length (λk s'=>s'.tmp 1= .d (.str s)/\s'.tmp 2= .gz 2 (s'.ba 2) 0/\s'.di 2=aa (.loc [.d (.gd 2 (t.ps.map mg)),.d (.gd 5 (t.ns.map pa))])/\s'.tmp 5= .d (.int aj k)/\∀i,i<k->i6 (t.ps.getD i p0).n s=ag) ?_ ?_
 ·simp only[go_sem,ab];simp
 rintro k s' r ⟨l,g,b2,b,j⟩;by_cases o:(k:Int)<t.ps.length
 ·have f:k<t.ps.length:=by lia
  have q:=dr ((k:Int)+1) (by lia) (by lia)
  have p:(t.ps.map mg)[k]? =aa [.str (t.ps.getD k p0).n,.int aj (t.ps.getD k p0).v]:=by simp[f,mg,cz]
  simp only[go_sem,ab,cu,ak,ao,reduceCtorEq,l,g,b2,b,al,o,p,bn,aw];cases c:i6 (t.ps.getD k p0).n s
  ·have a:=c;unfold i6 at a;simp only[go_sem,ab,cu,reduceCtorEq,a,l,g,b2,b,q,f];exact⟨by simp,rz j c⟩
  have a:=c;unfold i6 at a;have e:ku t s=(k:Int):=Nb f c j;simp only[go_sem,ab,cu,a,b,e]
 have:k=t.ps.length:=by lia
 subst this
 have e:ku t s= -1:=by
  rcases P4 (λi=>i6 (t.ps.getD i p0).n s) t.ps.length with ⟨h,_⟩|⟨i,h,_,m,_⟩
  ·exact h
  rw[j i h]at m;cases m
 simp only[go_sem,ab,cu,ak,ao,reduceCtorEq,g,b2,b,al,o,e]
theorem a0x(l:List Pm)(p:Pm)(hl:l.length<=2^30):iv P A.l5 [.gd 2 (l.map mg),.agg (mg p)] (.gd 2 ((Bd Pm.n p l).map mg)):=by
 refine ez A.mo A.zV (by simp) ?_;show l7 P V8 (ly _ _) _
 have Q:∀x:Pm,([mg x].all λe=>e.all D.one)=true:=λx=>by simp[mg,D.one]
 have F:∀id∈[29,36,42],id≠3/\id≠35/\id≠28:=by decide
 simp only[V8,mg,go_sem,ak];refine wv (λs'=>s'.base=0/\s'.tmp 3= .gz 3 (s'.ba 3) 0/\s'.di 3=aa (.loc [.d (.str p.n),.d (.int aj p.v)])/\s'.tmp 6= .d (.bool (Nh Pm.n p l))/\Us s' [29,36,42] 2 ((Jz Pm.n p l).map mg) (s'.tmp 5)) ?_ ?_
 ·refine gf l.length (λk s'=>s'.base=0/\s'.tmp 0= .d (.gd 2 (l.map mg))/\s'.tmp 3= .gz 3 (s'.ba 3) 0/\s'.di 3=aa (.loc [.d (.str p.n),.d (.int aj p.v)])/\s'.tmp 7= .d (.int aj k)/\s'.tmp 6= .d (.bool (Nh Pm.n p (l.take k)))/\
   Us s' [29,36,42] 2 ((Jz Pm.n p (l.take k)).map mg) (s'.tmp 5)) ?_ ?_
  ·simp only[go_sem,ab,reduceCtorEq];exact⟨rfl,Us.nil⟩
  rintro k s' hk ⟨b,f,g,b3,h,f6,acc⟩;by_cases I:(k:Int)<l.length
  ·have E:k<l.length:=by lia
   have O:=dr ((k:Int)+1) (by lia) (by lia)
   have H:(l.map mg)[k]? =aa (mg l[k]):=by simp[E]
   have T:l.take (k+1)=l.take k++[l[k]]:=ux E;have u:=rW (key:=Pm.n) (x:=p) (l.take k) l[k];have M:=zF (key:=Pm.n) (x:=p) (l.take k);rw[ey]at M;rw[<-T]at u
   have w:Jz Pm.n p (l.take (k+1))=if Nh Pm.n p (l.take k)=ah then Jz Pm.n p (l.take k)++[l[k]]else if strLt p.n l[k].n=ah then Jz Pm.n p (l.take k)++[p]++[l[k]]else Jz Pm.n p (l.take k)++[l[k]]:=by
    unfold Jz;rw[u,T];cases c:Nh Pm.n p (l.take k)
    ·cases U:strLt p.n l[k].n
     ·rfl
     simp only[C0,da,gp,bp];rw[cY _ c U];simp
    simp only[D1,da];exact cZ _ c
   generalize Jz Pm.n p (l.take k)=X at*
   generalize l[k]=y at*
   have V:=Q y
   have s:∀(K:PS->Prop) (i:PS) (Y:List Pm) (a:Bool),i.base=0->i.tmp 0= .d (.gd 2 (l.map mg))->i.tmp 3= .gz 3 (i.ba 3) 0->i.di 3=aa (.loc [.d (.str p.n),.d (.int aj p.v)])->i.tmp 7= .d (.int aj k)->i.tmp 6= .d (.bool a)->
     i.tmp 35= .ref 35 (i.ba 35) 1->i.di 35=aa (.arr 2 [mg y])->Us i [29,36,42] 2 (Y.map mg) (i.tmp 30)->Y.length<=l.length+2->Jz Pm.n p (l.take (k+1))=Y++[y]->Nh Pm.n p (l.take (k+1))=a->
     (∀o,o.base=0/\o.tmp 0= .d (.gd 2 (l.map mg))/\o.tmp 3= .gz 3 (o.ba 3) 0/\o.di 3=aa (.loc [.d (.str p.n),.d (.int aj p.v)])/\o.tmp 7= .d (.int aj k)/\o.tmp 6= .d (.bool (Nh Pm.n p (l.take (k+1))))/\Us o [29,36,42] 2 ((Jz Pm.n p (l.take (k+1))).map mg) (o.tmp 5)->K o)->
     mc P [ri 36 (.app 2 24 (.t 30) (.t 35)),rm 5 36] i K:=by
    intro K i Y a b f g b3 h f6 L J acc hY C e2 W;simp only[go_sem];refine cG (dv:=Y.map mg) (ys:=[mg y]) (osz:=aa 2) (S:=[29,36,42]) ?_ ?_ ?_ rfl V ?_ (by simp) ?_
    ·simp only[go_sem];exact acc
    ·simp[b]
    ·simp only[go_sem,pj,L,J]
    ·simp only[al,cq,ew];lia
    intro G id m t1 t2 t3 t4 t5 t6;obtain⟨q1,q2,q3⟩:=F id m;have v3:=t3 3 (P8 q1)
    have N:G.di 3=i.di 3:=by rw[t2];simp[ar,P8 q1]
    simp only[go_sem,t1];refine W _ ⟨by rw[t5,b],?_,?_,by rw[N,b3],?_,?_,?_⟩
    ·simp[ar,f]
    ·simp[ar,g,v3]
    ·simp[ar,h]
    ·simp[ar,f6,e2]
    rw[C];refine .inr ⟨by simp,id,m,?_,?_⟩
    ·simp[ar]
    rw[t2];simp[ar]
   cases R:Nh Pm.n p (l.take k)
   ·rw[R]at f6 u w;rw[C0]at u;cases B:strLt p.n y.n
    ·have z:=B;unfold strLt at z;rw[B]at w u;simp only[go_sem,ab,ak,ao,reduceCtorEq,cw,b,f,g,b3,f6,h,al,I,H,bn,aw,mg,vA,B];refine s _ _ X ag (by simp[]) ?_ ?_ ?_ ?_ ?_ ?_ ?_ ?_ (by lia) w u ?_
     ·simp[ar,f]
     ·simp[ar,g]
     ·simp[ar,b3]
     ·simp[ar,h]
     ·simp[ar,f6]
     ·simp[ar]
     ·simp[ar,mg]
     ·simp only[go_sem,ab]
      exact acc.mono λj r=>by have:=F j r;simp[ar,this]
     rintro o ⟨b,f,g,b3,h,f6,acc⟩;simp only[go_sem,ab,reduceCtorEq,b,f,g,b3,f6,h,O,E];exact⟨by simp,acc.mono λj r=>⟨rfl,rfl⟩⟩
    have z:=B;unfold strLt at z;rw[B]at w u;simp only[go_sem,ab,ak,ao,reduceCtorEq,cw,b,f,g,b3,f6,h,al,I,H,bn,aw,mg,vA,B];refine cG (dv:=X.map mg) (ys:=[mg p]) (osz:=aa 2) (S:=[29,36,42]) ?_ ?_ ?_ rfl (Q p) ?_ (by simp) ?_
    ·simp only[go_sem,ab]
     exact acc.mono λj r=>by have:=F j r;simp[ar,this]
    ·simp[]
    ·simp only[go_sem,ab,pj,mg]
    ·simp only[al,cq,ew];lia
    intro G id m t1 t2 t3 t4 t5 t6;obtain⟨q1,q2,q3⟩:=F id m;have v3:=t3 3 (P8 q1)
    have N:G.di 3=s'.di 3:=by rw[t2];simp[ar,P8 q1]
    simp only[go_sem,ab,ak,reduceCtorEq,cw,t1,t5,f,h,H,bn,aw,mg];refine s _ _ (X++[p]) ah ?_ ?_ ?_ ?_ ?_ ?_ ?_ ?_ ?_ (by simp;lia) w u ?_
    ·simp
    ·simp[ar,f]
    ·simp[ar,g,v3]
    ·simp[ar,N,b3]
    ·simp[ar,h]
    ·simp[ar]
    ·simp[ar]
    ·simp[ar,mg]
    ·simp only[go_sem,ab];refine .inr ⟨by simp,id,m,?_,?_⟩
     ·simp[ar,q2,mg]
     simp[ar,q2,t2,mg]
    rintro o ⟨b,f,g,b3,h,f6,acc⟩;simp only[go_sem,ab,reduceCtorEq,b,f,g,b3,f6,h,O,E];exact⟨by simp,acc.mono λj r=>⟨rfl,rfl⟩⟩
   rw[R]at f6 u w;simp only[go_sem,ab,ak,reduceCtorEq,cw,b,f,f6,h,al,I,H,bn,aw,mg];refine s _ _ X ah (by simp[]) ?_ ?_ ?_ ?_ ?_ ?_ ?_ ?_ (by lia) w (by rw[u,D1]) ?_
   ·simp[ar,f]
   ·simp[ar,g]
   ·simp[ar,b3]
   ·simp[ar,h]
   ·simp[ar,f6]
   ·simp[ar]
   ·simp[ar,mg]
   ·simp only[go_sem,ab]
    exact acc.mono λj r=>by have:=F j r;simp[ar,this]
   rintro o ⟨b,f,g,b3,h,f6,acc⟩;simp only[go_sem,ab,reduceCtorEq,b,f,g,b3,f6,h,O,E];exact⟨by simp,acc.mono λj r=>⟨rfl,rfl⟩⟩
  have:k=l.length:=by lia
  subst this;rw[fm]at f6 acc;simp only[go_sem,ab,reduceCtorEq,b,f,g,b3,f6,h,al,I];exact acc.mono λj r=>⟨rfl,rfl⟩
 rintro s' ⟨b,g,b3,f6,acc⟩
 have Z:Bd Pm.n p l≠[]:=λq=>by
  have:=N6 (key:=Pm.n) (x:=p) l;rw[q]at this;simp at this
 cases c:Nh Pm.n p l
 ·rw[c]at f6
  have C:Jz Pm.n p l=l:=by unfold Jz;rw[c];rfl
  rw[C]at acc;simp only[go_sem,ab,ak,cw,b,g,b3,f6];refine cG (dv:=l.map mg) (ys:=[mg p]) (osz:=aa 2) (S:=[29,36,42]) ?_ ?_ ?_ rfl (Q p) ?_ (by simp) ?_
  ·simp only[go_sem,ab]
   exact acc.mono λj r=>by
     have:j≠41:=by rintro rfl;exact absurd r (by decide)
     simp[ar,this]
  ·simp[]
  ·simp only[go_sem,ab,pj,mg]
  ·simp only[al,cq,ew];lia
  intro G id m t1 t2 t3 t4 t5 t6
  have e2:(Bd Pm.n p l).map mg=l.map mg++[mg p]:=by rw[cX c];simp
  have b4:G.di id=aa (.arr 2 (l.map mg++[mg p])):=by rw[t2];simp[de]
  simp only[go_sem,ab,t1,b4,e2]
 rw[c]at f6
 have C:Jz Pm.n p l=Bd Pm.n p l:=by unfold Jz;rw[c];rfl
 rw[C]at acc;obtain⟨id,r1,r2⟩:=acc.res (by simpa using Z);simp only[go_sem,ab,b,f6,r1,r2]
theorem xH(l:List Nd)(p:Nd)(hl:l.length<=2^30):iv P A.jt [.gd 5 (l.map pa),.agg (pa p)] (.gd 5 ((Bd Nd.n p l).map pa)):=by
 refine ez A.mo A.lG (by simp) ?_;show l7 P Pe (ly _ _) _
 have Q:∀x:Nd,([pa x].all λe=>e.all D.one)=true:=λx=>by simp[pa,D.one,qx,kh,kn]
 have F:∀id∈[29,36,42],id≠3/\id≠35/\id≠28:=by decide
 simp only[Pe,pa,qx,kh,kn,go_sem,ak];refine wv (λs'=>s'.base=0/\s'.tmp 3= .gz 3 (s'.ba 3) 0/\s'.di 3=aa (.loc [.d (.str p.n),.d (.int aj p.f.k),.d (.gd 3 (p.f.vs.map B4)),.d (.gd 1 (p.f.ls.map λl=>[uu l])),.d (.gd 1 (p.ins.map qt))])/\s'.tmp 6= .d (.bool (Nh Nd.n p l))/\Us s' [29,36,42] 5 ((Jz Nd.n p l).map pa) (s'.tmp 5)) ?_ ?_
 ·refine gf l.length (λk s'=>s'.base=0/\s'.tmp 0= .d (.gd 5 (l.map pa))/\s'.tmp 3= .gz 3 (s'.ba 3) 0/\s'.di 3=aa (.loc [.d (.str p.n),.d (.int aj p.f.k),.d (.gd 3 (p.f.vs.map B4)),.d (.gd 1 (p.f.ls.map λl=>[uu l])),.d (.gd 1 (p.ins.map qt))])/\s'.tmp 7= .d (.int aj k)/\s'.tmp 6= .d (.bool (Nh Nd.n p (l.take k)))/\
   Us s' [29,36,42] 5 ((Jz Nd.n p (l.take k)).map pa) (s'.tmp 5)) ?_ ?_
  ·simp only[go_sem,ab,reduceCtorEq];exact⟨rfl,Us.nil⟩
  rintro k s' hk ⟨b,g,h,b3,i,f6,acc⟩;by_cases I:(k:Int)<l.length
  ·have E:k<l.length:=by lia
   have O:=dr ((k:Int)+1) (by lia) (by lia)
   have H:(l.map pa)[k]? =aa (pa l[k]):=by simp[E]
   have T:l.take (k+1)=l.take k++[l[k]]:=ux E;have v:=rW (key:=Nd.n) (x:=p) (l.take k) l[k];have M:=zF (key:=Nd.n) (x:=p) (l.take k);rw[ey]at M;rw[<-T]at v
   have w:Jz Nd.n p (l.take (k+1))=if Nh Nd.n p (l.take k)=ah then Jz Nd.n p (l.take k)++[l[k]]else if strLt p.n l[k].n=ah then Jz Nd.n p (l.take k)++[p]++[l[k]]else Jz Nd.n p (l.take k)++[l[k]]:=by
    unfold Jz;rw[v,T];cases c:Nh Nd.n p (l.take k)
    ·cases U:strLt p.n l[k].n
     ·rfl
     simp only[C0,da,gp,bp];rw[cY _ c U];simp
    simp only[D1,da];exact cZ _ c
   generalize Jz Nd.n p (l.take k)=X at*
   generalize l[k]=y at*
   have V:=Q y
   have u:∀(K:PS->Prop) (m:PS) (Y:List Nd) (a:Bool),m.base=0->m.tmp 0= .d (.gd 5 (l.map pa))->m.tmp 3= .gz 3 (m.ba 3) 0->m.di 3=aa (.loc [.d (.str p.n),.d (.int aj p.f.k),.d (.gd 3 (p.f.vs.map B4)),.d (.gd 1 (p.f.ls.map λl=>[uu l])),.d (.gd 1 (p.ins.map qt))])->m.tmp 7= .d (.int aj k)->m.tmp 6= .d (.bool a)->
     m.tmp 35= .ref 35 (m.ba 35) 1->m.di 35=aa (.arr 5 [pa y])->Us m [29,36,42] 5 (Y.map pa) (m.tmp 30)->Y.length<=l.length+2->Jz Nd.n p (l.take (k+1))=Y++[y]->Nh Nd.n p (l.take (k+1))=a->
     (∀r,r.base=0/\r.tmp 0= .d (.gd 5 (l.map pa))/\r.tmp 3= .gz 3 (r.ba 3) 0/\r.di 3=aa (.loc [.d (.str p.n),.d (.int aj p.f.k),.d (.gd 3 (p.f.vs.map B4)),.d (.gd 1 (p.f.ls.map λl=>[uu l])),.d (.gd 1 (p.ins.map qt))])/\r.tmp 7= .d (.int aj k)/\r.tmp 6= .d (.bool (Nh Nd.n p (l.take (k+1))))/\Us r [29,36,42] 5 ((Jz Nd.n p (l.take (k+1))).map pa) (r.tmp 5)->K r)->
     mc P [ri 36 (.app 5 96 (.t 30) (.t 35)),rm 5 36] m K:=by
    intro K m Y a b g h b3 i f6 L J acc hY C e2 W;simp only[go_sem];refine cG (dv:=Y.map pa) (ys:=[pa y]) (osz:=aa 5) (S:=[29,36,42]) ?_ ?_ ?_ rfl V ?_ (by simp) ?_
    ·simp only[go_sem];exact acc
    ·simp[b]
    ·simp only[go_sem,pj,L,J]
    ·simp only[al,cq,ew];lia
    intro G id o t1 t2 t3 t4 t5 t6;obtain⟨q1,q2,q3⟩:=F id o;have v3:=t3 3 (P8 q1)
    have N:G.di 3=m.di 3:=by rw[t2];simp[ar,P8 q1]
    simp only[go_sem,t1];refine W _ ⟨by rw[t5,b],?_,?_,by rw[N,b3],?_,?_,?_⟩
    ·simp[ar,g]
    ·simp[ar,h,v3]
    ·simp[ar,i]
    ·simp[ar,f6,e2]
    rw[C];refine .inr ⟨by simp,id,o,?_,?_⟩
    ·simp[ar]
    rw[t2];simp[ar]
   cases R:Nh Nd.n p (l.take k)
   ·rw[R]at f6 v w;rw[C0]at v;cases B:strLt p.n y.n
    ·have z:=B;unfold strLt at z;rw[B]at w v;simp only[go_sem,ab,ak,ao,reduceCtorEq,cw,b,g,h,b3,f6,i,al,I,H,bn,aw,pa,qx,kh,kn,vA,B];refine u _ _ X ag (by simp[]) ?_ ?_ ?_ ?_ ?_ ?_ ?_ ?_ (by lia) w v ?_
     ·simp[ar,g]
     ·simp[ar,h]
     ·simp[ar,b3]
     ·simp[ar,i]
     ·simp[ar,f6]
     ·simp[ar]
     ·simp[ar,pa,qx,kh,kn]
     ·simp only[go_sem,ab]
      exact acc.mono λj s=>by have:=F j s;simp[ar,this]
     rintro r ⟨b,g,h,b3,i,f6,acc⟩;simp only[go_sem,ab,reduceCtorEq,b,g,h,b3,f6,i,O,E];exact⟨by simp,acc.mono λj s=>⟨rfl,rfl⟩⟩
    have z:=B;unfold strLt at z;rw[B]at w v;simp only[go_sem,ab,ak,ao,reduceCtorEq,cw,b,g,h,b3,f6,i,al,I,H,bn,aw,pa,qx,kh,kn,vA,B];refine cG (dv:=X.map pa) (ys:=[pa p]) (osz:=aa 5) (S:=[29,36,42]) ?_ ?_ ?_ rfl (Q p) ?_ (by simp) ?_
    ·simp only[go_sem,ab]
     exact acc.mono λj s=>by have:=F j s;simp[ar,this]
    ·simp[]
    ·simp only[go_sem,ab,pj,pa,qx,kh,kn]
    ·simp only[al,cq,ew];lia
    intro G id o t1 t2 t3 t4 t5 t6;obtain⟨q1,q2,q3⟩:=F id o;have v3:=t3 3 (P8 q1)
    have N:G.di 3=s'.di 3:=by rw[t2];simp[ar,P8 q1]
    simp only[go_sem,ab,ak,reduceCtorEq,cw,t1,t5,g,i,H,bn,aw,pa,qx,kh,kn];refine u _ _ (X++[p]) ah ?_ ?_ ?_ ?_ ?_ ?_ ?_ ?_ ?_ (by simp;lia) w v ?_
    ·simp
    ·simp[ar,g]
    ·simp[ar,h,v3]
    ·simp[ar,N,b3]
    ·simp[ar,i]
    ·simp[ar]
    ·simp[ar]
    ·simp[ar,pa,qx,kh,kn]
    ·simp only[go_sem,ab];refine .inr ⟨by simp,id,o,?_,?_⟩
     ·simp[ar,q2,pa,qx,kh,kn]
     simp[ar,q2,t2,pa,qx,kh,kn]
    rintro r ⟨b,g,h,b3,i,f6,acc⟩;simp only[go_sem,ab,reduceCtorEq,b,g,h,b3,f6,i,O,E];exact⟨by simp,acc.mono λj s=>⟨rfl,rfl⟩⟩
   rw[R]at f6 v w;simp only[go_sem,ab,ak,reduceCtorEq,cw,b,g,f6,i,al,I,H,bn,aw,pa,qx,kh,kn];refine u _ _ X ah (by simp[]) ?_ ?_ ?_ ?_ ?_ ?_ ?_ ?_ (by lia) w (by rw[v,D1]) ?_
   ·simp[ar,g]
   ·simp[ar,h]
   ·simp[ar,b3]
   ·simp[ar,i]
   ·simp[ar,f6]
   ·simp[ar]
   ·simp[ar,pa,qx,kh,kn]
   ·simp only[go_sem,ab]
    exact acc.mono λj s=>by have:=F j s;simp[ar,this]
   rintro r ⟨b,g,h,b3,i,f6,acc⟩;simp only[go_sem,ab,reduceCtorEq,b,g,h,b3,f6,i,O,E];exact⟨by simp,acc.mono λj s=>⟨rfl,rfl⟩⟩
  have:k=l.length:=by lia
  subst this;rw[fm]at f6 acc;simp only[go_sem,ab,reduceCtorEq,b,g,h,b3,f6,i,al,I];exact acc.mono λj s=>⟨rfl,rfl⟩
 rintro s' ⟨b,h,b3,f6,acc⟩
 have Z:Bd Nd.n p l≠[]:=λq=>by
  have:=N6 (key:=Nd.n) (x:=p) l;rw[q]at this;simp at this
 cases c:Nh Nd.n p l
 ·rw[c]at f6
  have C:Jz Nd.n p l=l:=by unfold Jz;rw[c];rfl
  rw[C]at acc;simp only[go_sem,ab,ak,cw,b,h,b3,f6];refine cG (dv:=l.map pa) (ys:=[pa p]) (osz:=aa 5) (S:=[29,36,42]) ?_ ?_ ?_ rfl (Q p) ?_ (by simp) ?_
  ·simp only[go_sem,ab]
   exact acc.mono λj s=>by
     have:j≠41:=by rintro rfl;exact absurd s (by decide)
     simp[ar,this]
  ·simp[]
  ·simp only[go_sem,ab,pj,pa,qx,kh,kn]
  ·simp only[al,cq,ew];lia
  intro G id o t1 t2 t3 t4 t5 t6
  have e2:(Bd Nd.n p l).map pa=l.map pa++[pa p]:=by rw[cX c];simp
  have b4:G.di id=aa (.arr 5 (l.map pa++[pa p])):=by rw[t2];simp[de]
  simp only[go_sem,ab,t1,b4,e2]
 rw[c]at f6
 have C:Jz Nd.n p l=Bd Nd.n p l:=by unfold Jz;rw[c];rfl
 rw[C]at acc;obtain⟨id,r1,r2⟩:=acc.res (by simpa using Z);simp only[go_sem,ab,b,f6,r1,r2]
theorem qH(l:List Pm)(s:ByteArray)(E:l.length<=2^30):iv P A.j2 [.gd 2 (l.map mg),.str s] (p9 2 ((l.filter λp=> !i6 p.n s).map mg)):=by
 refine ez A.mo A.gQ (by simp) ?_;show l7 P Nv (ly _ _) _
 have B:∀x:Pm,([mg x].all λe=>e.all D.one)=true:=λx=>by simp[mg,D.one]
 simp only[Nv,go_sem];refine gf l.length (λk s'=>s'.base=0/\s'.tmp 0= .d (.gd 2 (l.map mg))/\s'.tmp 1= .d (.str s)/\s'.tmp 6= .d (.int aj k)/\u0 s' 26 2 (((l.take k).filter λp=> !i6 p.n s).map mg) (s'.tmp 5)) ?_ ?_
 ·simp only[go_sem,ab,reduceCtorEq];exact u0.nil
 rintro k s' C ⟨r,b,m,f6,acc⟩;by_cases u:(k:Int)<l.length
 ·have h:k<l.length:=by lia
  have v:=dr ((k:Int)+1) (by lia) (by lia)
  have t:(l.map mg)[k]? =aa (mg l[k]):=by simp[h]
  have i:(l.take (k+1)).filter (λp=> !i6 p.n s)=(l.take k).filter (λp=> !i6 p.n s)++if i6 l[k].n s then[]else[l[k]]:=by
   rw[ux h,Jy]
   congr 1
   rw[Bl];cases i6 l[k].n s<;>simp
  have q:=tu (λp:Pm=> !i6 p.n s) (l.take k);rw[ey]at q
  generalize(l.take k).filter (λp=> !i6 p.n s)=X at*
  generalize l[k]=y at*
  have f:=B y;simp only[go_sem,ab,ak,ao,reduceCtorEq,r,b,m,f6,al,u,t,bn,aw,mg];cases c:i6 y.n s
  ·have a:=c;unfold i6 at a;rw[c]at i;simp only[go_sem,ab,ak,reduceCtorEq,cw,a,b,f6,t,bn,aw,mg];refine r4 (dv:=X.map mg) (ys:=[mg y]) (osz:=aa 2) ?_ ?_ rfl f ?_ (by simp) ?_
   ·simp only[go_sem,ab];exact acc.mono (by simp[ar]) (by simp[ar])
   ·simp only[go_sem,ab,pj,mg]
   ·simp only[al,cq,ew];lia
   intro F g;have j:=g.acc (by simp);rw[g.tmp,de]at j;simp only[gj]at j;simp only[go_sem,ab,reduceCtorEq,g.tmp,b,m,f6,g.base,v,h,i];refine⟨by simp,?_⟩
   have w:(X++[y]).map mg=X.map mg++[mg y]:=by simp
   rw[w];exact j.mono rfl rfl
  have a:=c;unfold i6 at a;rw[c]at i;simp only[go_sem,ab,reduceCtorEq,a,b,m,f6,v,h,i];refine⟨by simp,?_⟩;exact acc.mono (by simp[]) (by simp[])
 have:k=l.length:=by lia
 subst this;rw[fm]at acc;simp only[go_sem,ab,reduceCtorEq,r,b,f6,al,u];unfold p9;rcases acc with ⟨o,f⟩|⟨o,f,z⟩
 ·rw[bc o];simp only[go_sem,f]
 rw[aq o];simp only[go_sem,f,z]
theorem qD(l:List Nd)(s:ByteArray)(E:l.length<=2^30):iv P A.jh [.gd 5 (l.map pa),.str s] (p9 5 ((l.filter λp=> !i6 p.n s).map pa)):=by
 refine ez A.mo A.gO (by simp) ?_;show l7 P Nt (ly _ _) _
 have B:∀x:Nd,([pa x].all λe=>e.all D.one)=true:=λx=>by simp[pa,D.one,qx,kh,kn]
 simp only[Nt,go_sem];refine gf l.length (λk s'=>s'.base=0/\s'.tmp 0= .d (.gd 5 (l.map pa))/\s'.tmp 1= .d (.str s)/\s'.tmp 6= .d (.int aj k)/\u0 s' 26 5 (((l.take k).filter λp=> !i6 p.n s).map pa) (s'.tmp 5)) ?_ ?_
 ·simp only[go_sem,ab,reduceCtorEq];exact u0.nil
 rintro k s' C ⟨r,b,m,f6,acc⟩;by_cases u:(k:Int)<l.length
 ·have h:k<l.length:=by lia
  have v:=dr ((k:Int)+1) (by lia) (by lia)
  have t:(l.map pa)[k]? =aa (pa l[k]):=by simp[h]
  have i:(l.take (k+1)).filter (λp=> !i6 p.n s)=(l.take k).filter (λp=> !i6 p.n s)++if i6 l[k].n s then[]else[l[k]]:=by
   rw[ux h,Jy]
   congr 1
   rw[Bl];cases i6 l[k].n s<;>simp
  have q:=tu (λp:Nd=> !i6 p.n s) (l.take k);rw[ey]at q
  generalize(l.take k).filter (λp=> !i6 p.n s)=X at*
  generalize l[k]=y at*
  have f:=B y;simp only[go_sem,ab,ak,ao,reduceCtorEq,r,b,m,f6,al,u,t,bn,aw,pa,qx,kh,kn];cases c:i6 y.n s
  ·have a:=c;unfold i6 at a;rw[c]at i;simp only[go_sem,ab,ak,reduceCtorEq,cw,a,b,f6,t,bn,aw,pa,qx,kh,kn];refine r4 (dv:=X.map pa) (ys:=[pa y]) (osz:=aa 5) ?_ ?_ rfl f ?_ (by simp) ?_
   ·simp only[go_sem,ab];exact acc.mono (by simp[ar]) (by simp[ar])
   ·simp only[go_sem,ab,pj,pa,qx,kh,kn]
   ·simp only[al,cq,ew];lia
   intro F g;have j:=g.acc (by simp);rw[g.tmp,de]at j;simp only[gj]at j;simp only[go_sem,ab,reduceCtorEq,g.tmp,b,m,f6,g.base,v,h,i];refine⟨by simp,?_⟩
   have w:(X++[y]).map pa=X.map pa++[pa y]:=by simp
   rw[w];exact j.mono rfl rfl
  have a:=c;unfold i6 at a;rw[c]at i;simp only[go_sem,ab,reduceCtorEq,a,b,m,f6,v,h,i];refine⟨by simp,?_⟩;exact acc.mono (by simp[]) (by simp[])
 have:k=l.length:=by lia
 subst this;rw[fm]at acc;simp only[go_sem,ab,reduceCtorEq,r,b,f6,al,u];unfold p9;rcases acc with ⟨o,f⟩|⟨o,f,z⟩
 ·rw[bc o];simp only[go_sem,f]
 rw[aq o];simp only[go_sem,f,z]
end
def Pd(a to:ByteArray)(n:Nd):Nd:=⟨rnS a to n.n,n.f,n.ins.map (rnS a to)⟩
def F4(l:List Nd):List Nd:=l.foldl (λo n=>Bd Nd.n n o) []
theorem fH(l:List Nd)(n:Nd):F4 (l++[n])=Bd Nd.n n (F4 l):=by unfold F4;rw[qu];rfl
theorem kW(l:List Nd):(F4 l).length=l.length:=by
 have:∀(l o:List Nd),(l.foldl (λo n=>Bd Nd.n n o) o).length=o.length+l.length:=by
  intro l
  induction l with
  |nil=>intro o;simp
  |cons n r a=>intro o;rw[yb,a,N6,cq];lia
 unfold F4;rw[this];simp
theorem bV(a to s:ByteArray):rnS a to s=if i6 s a=ah then to else s:=rfl
structure RnI(l X:List Nd)(fr to:ByteArray)(n:Nd)(i:Nat)(s:PS):Prop where
 base:s.base=0
 t0:s.tmp 0= .d (.gd 5 (l.map pa))
 t1:s.tmp 1= .d (.str fr)
 t2:s.tmp 2= .d (.str to)
 t8:s.tmp 8= .d (.int aj i)
 t7:s.tmp 7= .d (p9 5 (X.map pa))
 t9:s.tmp 9= .gz 9 (s.ba 9) 0
 b9:s.di 9=aa (.loc [.d (.str (rnS fr to n.n)),.d (.int aj n.f.k),.d (.gd 3 (n.f.vs.map B4)),.d (.gd 1 (n.f.ls.map λl=>[uu l])),.d (.gd 1 (n.ins.map qt))])
section
variable{P:Program}(A:Pr8 P)
theorem KH(l:List Nd)(p:Nd)(a:l.length<=2^30):iv P A.jt [p9 5 (l.map pa),.agg [.str p.n,.int aj p.f.k,.gd 3 (p.f.vs.map B4),.gd 1 (p.f.ls.map λl=>[uu l]),p9 1 (p.ins.map qt)]] (.gd 5 ((Bd Nd.n p l).map pa)):=by
 refine(xH A l p a).args (ys:=[p9 5 (l.map pa),.agg [.str p.n,.int aj p.f.k,.gd 3 (p.f.vs.map B4),.gd 1 (p.f.ls.map λl=>[uu l]),p9 1 (p.ins.map qt)]]) rfl λi x y hx hy=>?_
 match i,hx,hy with
 |0,hx,hy=>simp at hx hy;subst hx hy;exact By
 |1,hx,hy=>
  simp at hx hy;subst hx hy;exact WkL.agg (.cons (Wk.refl _) (.cons (Wk.refl _) (.cons (Wk.refl _) (.cons (Wk.refl _) (.cons By .nil)))))
 |i+2,hx,hy=>simp at hx
theorem KC(l:List Nd)(a to:ByteArray)(hl:l.length<=1000)(hi:∀n∈l,n.ins.length<=2^30):iv P A.jr [.gd 5 (l.map pa),.str a,.str to] (p9 5 ((F4 (l.map (Pd a to))).map pa)):=by
 refine ez A.mo A.gP (by simp) ?_;show l7 P (Nu A.jt) (ly _ _) _;simp only[Nu,go_sem];refine gf l.length (λi s'=>s'.base=0/\s'.tmp 0= .d (.gd 5 (l.map pa))/\s'.tmp 1= .d (.str a)/\s'.tmp 2= .d (.str to)/\s'.tmp 8= .d (.int aj i)/\s'.tmp 7= .d (p9 5 ((F4 ((l.take i).map (Pd a to))).map pa))) ?_ ?_
 ·simp only[go_sem,ab,reduceCtorEq,F4,a5l,p9]
 rintro i s' a0 ⟨F,s,w,y,u,t⟩;by_cases R:(i:Int)<l.length
 ·have r:i<l.length:=by lia
  have S:=dr ((i:Int)+1) (by lia) (by lia)
  have Q:(l.map pa)[i]? =aa (pa l[i]):=by simp[r]
  have ht:F4 ((l.take (i+1)).map (Pd a to))=Bd Nd.n (Pd a to l[i]) (F4 ((l.take i).map (Pd a to))):=by
   rw[ux r,fj,du,ic,fH]
  have J:=kW ((l.take i).map (Pd a to));rw[al,ey]at J;have a1:=hi _ (dj r);have p:=KH A (F4 ((l.take i).map (Pd a to))) (Pd a to l[i]) (by lia)
  generalize F4 ((l.take i).map (Pd a to))=X at*
  generalize l[i]=n at*
  simp only[pa,qx,kh,kn]at Q;simp only[go_sem,ab,ak,ao,reduceCtorEq,F,s,w,u,al,R,Q,bn,aw];refine jV (RnI l X a to n i) ?_ ?_
  ·cases c:i6 n.n a
   ·have h:=c;unfold i6 at h
    have e:rnS a to n.n=n.n:=by rw[bV,c];rfl
    simp only[go_sem,ab,h];refine⟨rfl,?_,?_,?_,?_,?_,?_,?_⟩<;>simp[ar,s,w,y,t,u,e]
   have h:=c;unfold i6 at h
   have e:rnS a to n.n=to:=by rw[bV,c];rfl
   simp only[go_sem,ab,ak,ao,h,y];refine⟨rfl,?_,?_,?_,?_,?_,?_,?_⟩<;>simp[ar,s,w,y,t,u,e]
  clear F s w y t u;rintro s2 I;simp only[go_sem,I.base];refine wv (λj=>RnI l X a to n i j/\u0 j 48 1 ((n.ins.map (rnS a to)).map qt) (j.tmp 10)) ?_ ?_
  ·refine gf n.ins.length (λk j=>RnI l X a to n i j/\j.tmp 11= .d (.int aj k)/\u0 j 48 1 (((n.ins.take k).map (rnS a to)).map qt) (j.tmp 10)) ?_ ?_
   ·simp only[go_sem,ab];refine⟨⟨rfl,?_,?_,?_,?_,?_,?_,I.b9⟩,u0.nil⟩
    ·simp[ar,I.t0]
    ·simp[ar,I.t1]
    ·simp[ar,I.t2]
    ·simp[ar,I.t8]
    ·simp[ar,I.t7]
    simp[ar,I.t9]
   clear I;rintro k j hk ⟨I,b,acc⟩;by_cases N:(k:Int)<n.ins.length
   ·have B:k<n.ins.length:=by lia
    have M:=dr ((k:Int)+1) (by lia) (by lia)
    have K:(n.ins.map qt)[k]? =aa [.str n.ins[k]]:=by simp[B,qt]
    have L:((n.ins.take (k+1)).map (rnS a to)).map qt=((n.ins.take k).map (rnS a to)).map qt++[qt (rnS a to n.ins[k])]:=by
     rw[ux B,fj,fj];rfl
    have a2:(((n.ins.take k).map (rnS a to)).map qt).length<=2^30:=by
     rw[al,al,ey];lia
    generalize((n.ins.take k).map (rnS a to)).map qt=Y at*
    generalize n.ins[k]=x at*
    simp only[go_sem,ab,ak,reduceCtorEq,I.base,I.t9,I.b9,I.t1,b,al,N,K,bn,aw];refine jV (λo=>RnI l X a to n i o/\o.tmp 11= .d (.int aj k)/\o.tmp 12= .d (.str (rnS a to x))/\u0 o 48 1 Y (o.tmp 10)) ?_ ?_
    ·cases c:i6 x a
     ·have h:=c;unfold i6 at h
      have e:rnS a to x=x:=by rw[bV,c];rfl
      simp only[go_sem,ab,h];refine⟨⟨rfl,?_,?_,?_,?_,?_,?_,I.b9⟩,?_,?_,?_⟩
      ·simp[ar,I.t0]
      ·simp[ar,I.t1]
      ·simp[ar,I.t2]
      ·simp[ar,I.t8]
      ·simp[ar,I.t7]
      ·simp[ar,I.t9]
      ·simp[b]
      ·simp[e]
      exact acc.mono rfl rfl
     have h:=c;unfold i6 at h
     have e:rnS a to x=to:=by rw[bV,c];rfl
     simp only[go_sem,ab,h,I.t2];refine⟨⟨rfl,?_,?_,?_,?_,?_,?_,I.b9⟩,?_,?_,?_⟩
     ·simp[ar,I.t0]
     ·simp[ar,I.t1]
     ·simp[ar,I.t2]
     ·simp[ar,I.t8]
     ·simp[ar,I.t7]
     ·simp[ar,I.t9]
     ·simp[b]
     ·simp[e]
     exact acc.mono rfl rfl
    clear I b acc;rintro o ⟨I,b,G,acc⟩;simp only[go_sem,ab,cw,G,I.base];refine r4 (dv:=Y) (ys:=[qt (rnS a to x)]) (osz:=aa 1) ?_ ?_ rfl (by simp[qt,D.one]) ?_ (by simp) ?_
    ·simp only[go_sem,ab];exact acc.mono (by simp[ar]) (by simp[ar])
    ·simp only[go_sem,ab,pj,qt]
    ·simp only[cq,ew];lia
    intro s5 g;have z:=g.acc (by simp);rw[g.tmp,de]at z;simp only[gj]at z;have Z:=g.ba 9 (by simp)
    have W:s5.di 9=o.di 9:=by rw[g.di];simp[ar]
    have lR:=g.base;simp only[go_sem,ab,reduceCtorEq,g.tmp,b,M,B,L];refine⟨⟨by rw[lR],?_,?_,?_,?_,?_,?_,by rw[W];exact I.b9⟩,by simp,?_⟩
    ·simp[ar,I.t0]
    ·simp[ar,I.t1]
    ·simp[ar,I.t2]
    ·simp[ar,I.t8]
    ·simp[ar,I.t7]
    ·simp[ar,I.t9,Z]
    exact z.mono rfl rfl
   have:k=n.ins.length:=by lia
   subst this;rw[fm]at acc;simp only[go_sem,ab,ak,reduceCtorEq,I.base,I.t9,I.b9,b,al,N];refine⟨⟨rfl,?_,?_,?_,?_,?_,?_,I.b9⟩,acc.mono rfl rfl⟩
   ·simp[ar,I.t0]
   ·simp[ar,I.t1]
   ·simp[ar,I.t2]
   ·simp[ar,I.t8]
   ·simp[ar,I.t7]
   simp[ar,I.t9]
  clear I;rintro j ⟨I,acc⟩;have T:(Pd a to n).n=rnS a to n.n:=rfl;have e2:(Pd a to n).f=n.f:=rfl;have U:(Pd a to n).ins=n.ins.map (rnS a to):=rfl;rw[T,e2,U]at p
  have O:p9 5 ((F4 ((l.take (i+1)).map (Pd a to))).map pa)= .gd 5 ((Bd Nd.n (Pd a to n) X).map pa):=by
   rw[ht];unfold p9;rw[aq];intro q;have:=congrArg Ae (fw.1 q);rw[N6]at this;simp at this
  rcases acc with ⟨H,m⟩|⟨H,m,v⟩
  ·have E:p9 1 ((n.ins.map (rnS a to)).map qt)= .cj:=by unfold p9;rw[bc H]
   rw[E]at p;simp only[go_sem,ab,ak,I.base,I.t9,I.b9,m];refine K5 [] ?_;simp only[PS.x7,go_sem,ab,ak,I.t7,I.t9];refine ir p ?_;simp only[go_sem,ab,reduceCtorEq,I.t0,I.t1,I.t2,I.t8,S,r,O];simp
  have E:p9 1 ((n.ins.map (rnS a to)).map qt)= .gd 1 ((n.ins.map (rnS a to)).map qt):=by unfold p9;rw[aq H]
  rw[E]at p;simp only[go_sem,ab,ak,I.base,I.t9,I.b9,m,v,ff];refine K5 [48] ?_;simp only[vC,Hm,go_sem,ab,ak,V.x7,C.x7,fa,kz,or_false,I.t7,I.t9,v,al];refine ir p ?_;simp only[go_sem,ab,reduceCtorEq,I.t0,I.t1,I.t2,I.t8,S,r,O];simp
 have:i=l.length:=by lia
 subst this;rw[fm]at t;simp only[go_sem,ab,reduceCtorEq,F,s,t,u,al,R]
end
def cRv(n:Nd):List D:=[.str n.n,.int aj n.f.k,p9 3 (n.f.vs.map B4),.gd 1 (n.f.ls.map λl=>[uu l]),.gd 1 (n.ins.map qt)]
theorem a5s(l:List Nd):Wk (p9 5 (l.map cRv)) (.gd 5 (l.map pa)):=by
 refine By.trans (Wk.gd (by simp) λi a b c hb=>?_);rw[dn]at c hb
 cases d:l[i]? with
 |none=>rw[d]at c;cases c
 |some n=>
  rw[d]at c hb;simp only[jc,av]at c hb;subst c hb;refine⟨rfl,λj x y hx hy=>?_⟩;have h:WkL (cRv n) (pa n):= .cons (Wk.refl _) (.cons (Wk.refl _) (.cons By (.cons (Wk.refl _) (.cons (Wk.refl _) .nil))));exact h.2 j x y hx hy
theorem a68(b to:ByteArray)(v:Vl):B4 (rpV b to v)=[.str (rnS b to v.n),.int aj v.t,.int aj v.a]:=by
 unfold rpV rnS B4;split<;>rfl
structure RvI(l:List Nd)(X:List Nd)(fr to:ByteArray)(n:Nd)(i:Nat)(s:PS):Prop where
 base:s.base=0
 t0:s.tmp 0= .d (.gd 5 (l.map pa))
 t1:s.tmp 1= .d (.str fr)
 t2:s.tmp 2= .d (.str to)
 t8:s.tmp 8= .d (.int aj i)
 t7:u0 s 53 5 (X.map cRv) (s.tmp 7)
 t9:s.tmp 9= .gz 9 (s.ba 9) 0
 b9:s.di 9=aa (.loc [.d (.str n.n),.d (.int aj n.f.k),.d (.gd 3 (n.f.vs.map B4)),.d (.gd 1 (n.f.ls.map λl=>[uu l])),.d (.gd 1 (n.ins.map qt))])
section
variable{P:Program}(A:Pr8 P)
theorem CL(l:List Nd)(h to:ByteArray)(hl:l.length<=1000)(hi:∀n∈l,n.f.vs.length<=2^30):iv P A.j8 [.gd 5 (l.map pa),.str h,.str to] (p9 5 ((l.map (Ox h to)).map cRv)):=by
 refine ez A.mo A.dE (by simp) ?_;show l7 P M3 (ly _ _) _;simp only[M3,go_sem];refine gf l.length (λi s'=>s'.base=0/\s'.tmp 0= .d (.gd 5 (l.map pa))/\s'.tmp 1= .d (.str h)/\s'.tmp 2= .d (.str to)/\s'.tmp 8= .d (.int aj i)/\u0 s' 53 5 (((l.take i).map (Ox h to)).map cRv) (s'.tmp 7)) ?_ ?_
 ·simp only[go_sem,ab,reduceCtorEq];exact u0.nil
 rintro i s' a3 ⟨z,w,K,L,y,q⟩;by_cases ju:(i:Int)<l.length
 ·have E:i<l.length:=by lia
  have wk:=dr ((i:Int)+1) (by lia) (by lia)
  have hg:(l.map pa)[i]? =aa (pa l[i]):=by simp[E]
  have F:((l.take (i+1)).map (Ox h to)).map cRv=(((l.take i).map (Ox h to)).map cRv)++[cRv (Ox h to l[i])]:=by
   rw[ux E,fj,fj];rfl
  have a2:((l.take i).map (Ox h to)).length<=1000:=by rw[al,ey];lia
  have a4:=hi _ (dj E)
  generalize(l.take i).map (Ox h to)=X at*
  generalize l[i]=n at*
  simp only[pa,qx,kh,kn]at hg;simp only[go_sem,ab,ak,reduceCtorEq,z,w,y,al,ju,hg,bn,aw];refine wv (λp=>RvI l X h to n i p/\u0 p 46 3 ((n.f.vs.map (rpV h to)).map B4) (p.tmp 10)) ?_ ?_
  ·refine gf n.f.vs.length (λk p=>RvI l X h to n i p/\p.tmp 11= .d (.int aj k)/\u0 p 46 3 (((n.f.vs.take k).map (rpV h to)).map B4) (p.tmp 10)) ?_ ?_
   ·simp only[go_sem,ab];refine⟨⟨rfl,?_,?_,?_,?_,?_,?_,?_⟩,u0.nil⟩
    ·simp[ar,w]
    ·simp[ar,K]
    ·simp[ar,L]
    ·simp[ar,y]
    ·simp only[ar,ab,reduceIte];exact q.mono (by simp[ar]) (by simp[ar])
    ·simp[ar]
    simp[ar]
   rintro k p hk ⟨I,j,acc⟩;by_cases dC:(k:Int)<n.f.vs.length
   ·have N:k<n.f.vs.length:=by lia
    have a1:=dr ((k:Int)+1) (by lia) (by lia)
    have a0:(n.f.vs.map B4)[k]? =aa [.str n.f.vs[k].n,.int aj n.f.vs[k].t,.int aj n.f.vs[k].a]:=by simp[N,B4]
    have G:((n.f.vs.take (k+1)).map (rpV h to)).map B4=((n.f.vs.take k).map (rpV h to)).map B4++[B4 (rpV h to n.f.vs[k])]:=by
     rw[ux N,fj,fj];rfl
    have a5:(((n.f.vs.take k).map (rpV h to)).map B4).length<=2^30:=by
     rw[al,al,ey];lia
    generalize((n.f.vs.take k).map (rpV h to)).map B4=Y at*
    generalize n.f.vs[k]=x at*
    rw[a68]at G;simp only[go_sem,ab,ak,ao,reduceCtorEq,I.base,I.t9,I.b9,I.t1,j,al,dC,a0,bn,aw];refine jV (λb=>RvI l X h to n i b/\b.tmp 11= .d (.int aj k)/\b.tmp 12= .gz 12 (b.ba 12) 0/\b.di 12=aa (.loc [.d (.str (rnS h to x.n)),.d (.int aj x.t),.d (.int aj x.a)])/\u0 b 46 3 Y (b.tmp 10)) ?_ ?_
    ·have m:=I.t7;cases c:i6 x.n h
     ·have B:=c;unfold i6 at B
      have e:rnS h to x.n=x.n:=by rw[bV,c];rfl
      simp only[go_sem,ab,B];refine⟨⟨rfl,?_,?_,?_,?_,?_,?_,?_⟩,?_,?_,?_⟩
      ·simp[ar,I.t0]
      ·simp[ar,I.t1]
      ·simp[ar,I.t2]
      ·simp[ar,I.t8]
      ·simp only[ar,ab,reduceIte];exact m.mono (by simp[ar]) (by simp[ar])
      ·simp[ar,I.t9]
      ·simp[ar,I.b9]
      ·simp[j]
      ·simp[e]
      exact acc.mono (by simp[ar]) (by simp[ar])
     have B:=c;unfold i6 at B
     have e:rnS h to x.n=to:=by rw[bV,c];rfl
     simp only[go_sem,ab,ak,ao,B,I.t2];refine⟨⟨rfl,?_,?_,?_,?_,?_,?_,?_⟩,?_,?_,?_⟩
     ·simp[ar,I.t0]
     ·simp[ar,I.t1]
     ·simp[ar,I.t2]
     ·simp[ar,I.t8]
     ·simp only[ar,ab,reduceIte];exact m.mono (by simp[ar]) (by simp[ar])
     ·simp[ar,I.t9]
     ·simp[ar,I.b9]
     ·simp[j]
     ·simp[e]
     exact acc.mono (by simp[ar]) (by simp[ar])
    clear I j acc;rintro b ⟨I,j,S,Q,acc⟩;have m:=I.t7;simp only[go_sem,ab,ak,cw,S,Q,I.base];refine r4 (dv:=Y) (ys:=[[.str (rnS h to x.n),.int aj x.t,.int aj x.a]]) (osz:=aa 3) ?_ ?_ rfl (by simp[D.one]) ?_ (by simp) ?_
    ·simp only[go_sem,ab];exact acc.mono (by simp[ar]) (by simp[ar])
    ·simp only[go_sem,ab,pj]
    ·simp only[cq,ew];lia
    intro M g;have o:=g.acc (by simp);rw[g.tmp,de]at o;simp only[gj]at o;have gv:=g.ba 9 (by simp)
    have gb:M.di 9=b.di 9:=by rw[g.di];simp[ar]
    have U:=g.ba 53 (by simp)
    have T:M.di 53=b.di 53:=by rw[g.di];simp[ar]
    have H:=g.base;simp only[go_sem,ab,reduceCtorEq,g.tmp,j,a1,N,G];refine⟨⟨by rw[H],?_,?_,?_,?_,?_,?_,by rw[gb];exact I.b9⟩,by simp,?_⟩
    ·simp[ar,I.t0]
    ·simp[ar,I.t1]
    ·simp[ar,I.t2]
    ·simp[ar,I.t8]
    ·simp only[ar,ab,reduceIte];exact m.mono (by simp[U,ar]) T
    ·simp[ar,I.t9,gv]
    exact o.mono rfl rfl
   have:k=n.f.vs.length:=by lia
   subst this;rw[fm]at acc;have m:=I.t7;simp only[go_sem,ab,ak,ao,reduceCtorEq,I.base,I.t9,I.b9,j,al,dC];refine⟨⟨rfl,?_,?_,?_,?_,?_,?_,I.b9⟩,acc.mono rfl rfl⟩
   ·simp[ar,I.t0]
   ·simp[ar,I.t1]
   ·simp[ar,I.t2]
   ·simp[ar,I.t8]
   ·simp only[ar,ab,reduceIte];exact m.mono rfl rfl
   simp[ar,I.t9]
  clear z w K L y q;rintro p ⟨I,acc⟩;have m:=I.t7;have ec:cRv (Ox h to n)=[.str n.n,.int aj n.f.k,p9 3 ((n.f.vs.map (rpV h to)).map B4),.gd 1 (n.f.ls.map λl=>[uu l]),.gd 1 (n.ins.map qt)]:=rfl;rw[ec]at F;rcases acc with ⟨W,r⟩|⟨W,r,u⟩
  ·have R:p9 3 ((n.f.vs.map (rpV h to)).map B4)= .cj:=by unfold p9;rw[bc W]
   rw[R]at F;simp only[go_sem,ab,ak,ao,I.base,I.t9,I.b9,r];refine K5 [] ?_;simp only[PS.x7,go_sem,ab,ak,cw,I.t9];refine r4 (dv:=X.map cRv) (ys:=[[.str n.n,.int aj n.f.k,.cj,.gd 1 (n.f.ls.map λl=>[uu l]),.gd 1 (n.ins.map qt)]]) (osz:=aa 5) ?_ ?_ rfl (by simp[D.one]) ?_ (by simp) ?_
   ·simp only[go_sem,ab];exact m.mono (by simp[ar]) (by simp[ar])
   ·simp only[go_sem,ab,pj]
   ·simp only[al,cq,ew];lia
   intro M g;have o:=g.acc (by simp);rw[g.tmp,de]at o;simp only[gj]at o;have H:=g.base;simp only[go_sem,ab,reduceCtorEq,g.tmp,I.t0,I.t1,I.t2,I.t8,wk,E,F];exact⟨H,by simp,o.mono rfl rfl⟩
  have R:p9 3 ((n.f.vs.map (rpV h to)).map B4)= .gd 3 ((n.f.vs.map (rpV h to)).map B4):=by unfold p9;rw[aq W]
  rw[R]at F;rw[jB]
  refine jV (λb=>b.base=0/\b.tmp 0= .d (.gd 5 (l.map pa))/\b.tmp 1= .d (.str h)/\b.tmp 2= .d (.str to)/\b.tmp 8= .d (.int aj i)/\u0 b 53 5 (X.map cRv) (b.tmp 7)/\b.tmp 9= .gz 9 (b.ba 9) 0/\
   b.di 9=aa (.loc [.d (.str n.n),.d (.int aj n.f.k),.ref 46 (b.ba 46) ((n.f.vs.map (rpV h to)).map B4).length,.d (.gd 1 (n.f.ls.map λl=>[uu l])),.d (.gd 1 (n.ins.map qt))])/\b.di 46=aa (.arr 3 ((n.f.vs.map (rpV h to)).map B4))) ?_ ?_
  ·simp only[go_sem,ab,ak,ao,reduceCtorEq,I.base,I.t9,I.b9,r,u,ff];refine⟨?_,?_,?_,?_,?_⟩
   ·simp[I.t0]
   ·simp[I.t1]
   ·simp[I.t2]
   ·simp[I.t8]
   exact m.mono (by simp[]) (by simp[ar])
  clear I m r u;rintro b ⟨z,w,K,L,y,m,f9,b9,u⟩;rw[jB];refine K5 [46] ?_
  have v:[46]≠[]:=by simp
  have n0:=Dl (s:=b) v 0;have n1:=Dl (s:=b) v 1;have n2:=Dl (s:=b) v 2;have n7:=Dl (s:=b) v 7;have n8:=Dl (s:=b) v 8;have n9:=Dl (s:=b) v 9;have J:=L9 (s:=b) v (i:=9) (by simp);have nv:=aK (s:=b) v;have yS:=T0 [46] b;have LY:=m.x7 v (by simp)
  have O:b.dv 46 (b.ba 46)=aa (3,(n.f.vs.map (rpV h to)).map B4):=by unfold PS.dv;rw[bc rfl,u]
  rw[z]at yS;simp only[w,K,L,y,f9,V.x7]at n0 n1 n2 n8 n9;simp only[Hm,b9,du,ic,C.x7,fa,kz,or_false,da,O]at J;rw[<-n7]at LY
  generalize b.x7 [46]=M at*
  rw[<-nv]at n9;simp only[go_sem,ab,ak,cw,yS,n9,J];refine r4 (dv:=X.map cRv) (ys:=[[.str n.n,.int aj n.f.k,.gd 3 ((n.f.vs.map (rpV h to)).map B4),.gd 1 (n.f.ls.map λl=>[uu l]),.gd 1 (n.ins.map qt)]]) (osz:=aa 5) ?_ ?_ rfl (by simp[D.one]) ?_ (by simp) ?_
  ·simp only[go_sem,ab];exact LY.mono (by simp[ar]) (by simp[ar])
  ·simp only[go_sem,ab,pj]
  ·simp only[al,cq,ew];lia
  intro s6 g;have o:=g.acc (by simp);rw[g.tmp,de]at o;simp only[gj]at o;have H:=g.base;simp only[go_sem,ab,reduceCtorEq,g.tmp,n0,n1,n2,n8,wk,E,F];exact⟨H,by simp,o.mono rfl rfl⟩
 have:i=l.length:=by lia
 subst this;rw[fm]at q;rcases q with ⟨Z,h2⟩|⟨Z,h2,h3⟩
 ·simp only[go_sem,ab,reduceCtorEq,z,w,y,al,ju,h2,p9,Z]
 simp only[go_sem,ab,reduceCtorEq,z,w,y,al,ju,h2,h3,p9,Z]
end
def Jx(s:PS)(id sz:Nat)(dv:List (List D))(c:C):Prop:=
 (dv=[]/\c= .d .cj)\/(dv≠[]/\c= .d (.gd sz dv))\/(dv≠[]/\c= .ref id (s.ba id) dv.length/\s.di id=aa (.arr sz dv))
def Qv(s:PS)(id sz:Nat)(dv:List (List D))(c:C):Prop:=
 (dv=[]/\c= .d .cj)\/(dv≠[]/\c= .ref id (s.ba id) dv.length/\s.di id=aa (.arr sz dv))
theorem Qv.o{s:PS}{id sz:Nat}{dv:List (List D)}{c:C}(h:Qv s id sz dv c):Jx s id sz dv c:=h.elim .inl λh=> .inr (.inr h)
theorem Qv.mono{s s':PS}{id sz:Nat}{dv:List (List D)}{c:C}(h:Qv s id sz dv c)(e:s'.ba id=s.ba id)(hb:s'.di id=s.di id):Qv s' id sz dv c:=by
 rcases h with h|⟨a,b,d⟩
 ·exact .inl h
 exact .inr ⟨a,by rw[e];exact b,by rw[hb];exact d⟩
theorem Jx.mono{s s':PS}{id sz:Nat}{dv:List (List D)}{c:C}(h:Jx s id sz dv c)(e:s'.ba id=s.ba id)(hb:s'.di id=s.di id):Jx s' id sz dv c:=by
 rcases h with h|h|⟨a,b,d⟩
 ·exact .inl h
 ·exact .inr (.inl h)
 exact .inr (.inr ⟨a,by rw[e];exact b,by rw[hb];exact d⟩)
theorem Jx.d{s:PS}{id sz:Nat}{dv:List (List D)}:Jx s id sz dv (.d (p9 sz dv)):=by
 unfold Jx p9;by_cases h:dv=[]
 ·rw[bc h];exact .inl ⟨h,rfl⟩
 rw[aq h];exact .inr (.inl ⟨h,rfl⟩)
structure A25(t:Tr)(e:G7)(s:PS):Prop where
 base:s.base=0
 t2:s.tmp 2= .gz 2 (s.ba 2) 0
 b2:s.di 2=aa (.loc [.d (.gd 2 (t.ps.map mg)),.d (.gd 5 (t.ns.map pa))])
 t3:s.tmp 3= .gz 3 (s.ba 3) 0
 b3:s.di 3=aa (.loc [.d (.int aj e.k),.d (.str e.n),.d (.str e.t),.d (.int aj e.v),.d (.str e.nd.n),.d (.int aj e.nd.f.k),.d (.gd 3 (e.nd.f.vs.map B4)),.d (.gd 1 (e.nd.f.ls.map λl=>[uu l])),.d (.gd 1 (e.nd.ins.map qt))])
 t4:s.tmp 4= .gz 4 (s.ba 4) 0
 b4:s.di 4=aa (.loc [.d .cj,.d .cj])
 t5:s.tmp 5= .d (.int aj 0)
 t6:s.tmp 6= .gz 6 (s.ba 6) 0
theorem A25.to{t:Tr}{e:G7}{s s':PS}(h:A25 t e s)(hb:s'.base=s.base)(a:∀i,i<7->s'.tmp i=s.tmp i)(c:∀i,i<5->s'.di i=s.di i)(b:∀i,i<7->s'.ba i=s.ba i):A25 t e s':=
 ⟨by rw[hb,h.base],by rw[a 2 (by omega),b 2 (by omega)];exact h.t2,by rw[c 2 (by omega)];exact h.b2,by rw[a 3 (by omega),b 3 (by omega)];exact h.t3,by rw[c 3 (by omega)];exact h.b3,
  by rw[a 4 (by omega),b 4 (by omega)];exact h.t4,by rw[c 4 (by omega)];exact h.b4,by rw[a 5 (by omega)];exact h.t5,by rw[a 6 (by omega),b 6 (by omega)];exact h.t6⟩
theorem qV{P:Program}{K:PS->Prop}{s:PS}{r:List RI}{e:List Nat}{d sz b:Nat}{x y:ov}{ys:List (List D)}(hx:x.ev s= .d .cj)(hy:y.ev s= .d (.gd sz ys))(hb:ys.length*b<=2^47)
  (h:∀s' v,s'.tmp=lu s.tmp d v->u0 s' (s.base+d) sz ys v->(∀j,j≠s.base+d->s'.di j=s.di j/\s'.ba j=s.ba j)->s'.mp=s.mp->s'.base=s.base->s'.ctx=s.ctx->mc P r s' K):mc P (⟨aa d,.app sz b x y,ae,e⟩::r) s K:=by
 rw[Gv];simp only[lg.qi,hx,hy,pj,jj];rw[bc trivial];by_cases a:ys=[]
 ·subst a;rw[bc ew,show my.uk (V.d .cj)=([],my.val (V.d .cj))from rfl,Dk];exact h _ (.d .cj) rfl u0.nil (λj _=>⟨rfl,rfl⟩) rfl rfl rfl
 have f:ys.length≠0:=λq=>a (jf q);rw[aq f,bc hb,Dk];refine h _ _ rfl (.inr ⟨a,?_,?_⟩) (λj c=>⟨?_,?_⟩) rfl rfl rfl
 ·simp[my.app,PS.put,PS.vz,de]
 ·simp[my.app,PS.put,PS.vz,de]
 ·simp[my.app,PS.put,PS.vz,ie _ _ _ _ c]
 simp[my.app,PS.put,PS.vz,ie _ _ _ _ c]
section
variable{P:Program}
theorem VV{t:Tr}{e:G7}{Q:Exit->PS->Prop}{s:PS}(I:A25 t e s)(b6:s.di 6=aa (.loc [.d .cj,.d .cj]))(n:t.ps.length<=2^30)
  (h:∀s' c,A25 t e s'->s'.di 6=aa (.loc [c,.d .cj])->Qv s' 14 2 (t.ps.map mg) c->Q .normal s'):l7 P (.region VA ag []) Q s:=by
 simp only[VA,go_sem,ab,ak,ao,I.base,I.t2,I.b2,I.t6,b6];refine qV (ys:=t.ps.map mg) ?_ ?_ (by rw[al];omega) ?_
 ·rfl
 ·rfl
 intro s' v t1 acc f t4 t5 t6;replace acc:u0 s' 14 2 (t.ps.map mg) v:=acc;replace f:∀j,j≠14->_:=f;have m:=f 6 (by omega);have o:=m.2;have g:=m.1
 have b:A25 t e s':=I.to (by rw[t5,I.base]) (λi a=>by rw[t1];simp only[ar];rw[aq (by omega),aq (by omega),aq (by omega),aq (by omega),aq (by omega)]) (λi a=>by have:=(f i (by omega)).1;simpa using this) (λi a=>by have:=(f i (by omega)).2;simpa using this)
 simp only[]at g;rw[b6]at g;rcases acc with ⟨k,rfl⟩|⟨k,rfl,l⟩
 ·simp only[go_sem,ab,ak,ao,t1,t5,b.t6,g];refine h _ _ (b.to (by rw[b.base]) (λi a=>?_) (λi a=>?_) (λi a=>rfl)) (by simp[ar]) (.inl ⟨k,rfl⟩)
  ·rw[t1];simp only[ar];rw[aq (show i≠15 by omega)]
  simp only[ar];rw[aq (by omega)]
 simp only[go_sem,ab,ak,ao,t1,t5,b.t6,g,l,ff];refine h _ _ (b.to (by rw[b.base]) (λi a=>?_) (λi a=>?_) (λi a=>rfl)) (by simp[ar]) (.inr ⟨k,rfl,by simp[ar,l]⟩)
 ·rw[t1];simp only[ar];rw[aq (show i≠15 by omega)]
 simp only[ar];rw[aq (by omega)]
theorem VU{t:Tr}{e:G7}{Q:Exit->PS->Prop}{s:PS}{cP:C}(I:A25 t e s)(b6:s.di 6=aa (.loc [cP,.d .cj]))(hP:Qv s 14 2 (t.ps.map mg) cP)(p:t.ns.length<=2^30)
  (h:∀s' c,A25 t e s'->s'.di 6=aa (.loc [cP,c])->Qv s' 14 2 (t.ps.map mg) cP->Qv s' 20 5 (t.ns.map pa) c->Q .normal s'):l7 P (.region UZ ag []) Q s:=by
 simp only[UZ,go_sem,ab,ak,I.base,I.t2,I.b2,I.t6,b6];refine qV (ys:=t.ns.map pa) ?_ ?_ (by rw[al];omega) ?_
 ·rfl
 ·rfl
 intro s' v t1 acc f t4 t5 t6;replace acc:u0 s' 20 5 (t.ns.map pa) v:=acc;replace f:∀j,j≠20->_:=f;have o:=f 6 (by omega);have l:=o.1
 have g:A25 t e s':=I.to (by rw[t5,I.base]) (λi a=>by rw[t1];simp only[ar];rw[aq (by omega),aq (by omega),aq (by omega),aq (by omega),aq (by omega)]) (λi a=>by have:=(f i (by omega)).1;simpa using this) (λi a=>by have:=(f i (by omega)).2;simpa using this)
 have k:Qv s' 14 2 (t.ps.map mg) cP:=hP.mono (f 14 (by omega)).2 (f 14 (by omega)).1;simp only[]at l;rw[b6]at l
 have one:∀b:Option B,(match cP with| .ref _ _ _=>True| .d _=>True|_=>False):=λ_=>by
  rcases hP with ⟨_,rfl⟩|⟨_,rfl,_⟩<;>trivial
 rcases acc with ⟨m,rfl⟩|⟨m,rfl,n⟩
 ·simp only[go_sem,ab,ak,t1,t5,g.t6,l];refine h _ _ (g.to (by rw[g.base]) (λi a=>?_) (λi a=>?_) (λi a=>rfl)) (by simp[ar]) (k.mono rfl (by simp[ar])) (.inl ⟨m,rfl⟩)
  ·rw[t1];simp only[ar];rw[aq (show i≠21 by omega)]
  simp only[ar];rw[aq (by omega)]
 simp only[go_sem,ab,ak,t1,t5,g.t6,l,n,ff];refine h _ _ (g.to (by rw[g.base]) (λi a=>?_) (λi a=>?_) (λi a=>rfl)) (by simp[ar]) (k.mono rfl (by simp[ar])) (.inr ⟨m,rfl,by simp[ar,n]⟩)
 ·rw[t1];simp only[ar];rw[aq (show i≠21 by omega)]
 simp only[ar];rw[aq (by omega)]
end
structure S25(t:Tr)(e:G7)(cP cN:C)(s:PS):Prop extends A25 t e s where
 b6:s.di 6=aa (.loc [cP,cN])
 hP:Qv s 14 2 (t.ps.map mg) cP
 hN:Qv s 20 5 (t.ns.map pa) cN
 t7:s.tmp 7= .d (.int aj (ku t e.n))
 t8:s.tmp 8= .d (.int aj (Ku t.ns e.n 0))
structure R25(ps ns:List (List D))(s:PS):Prop where
 base:s.base=0
 t4:s.tmp 4= .gz 4 (s.ba 4) 0
 b4:s.di 4=aa (.loc [.d .cj,.d .cj])
 t6:s.tmp 6= .gz 6 (s.ba 6) 0
 b6:∃cP cN,s.di 6=aa (.loc [cP,cN])/\Jx s 14 2 ps cP/\Jx s 20 5 ns cN
theorem R25.of{t:Tr}{e:G7}{s s':PS}{ps ns:List (List D)}{cP cN:C}(I:A25 t e s)(hb:s'.base=s.base)(a:s'.tmp 4=s.tmp 4)(b:s'.tmp 6=s.tmp 6)(c:s'.di 4=s.di 4)(v4:s'.ba 4=s.ba 4)(d:s'.ba 6=s.ba 6)
  (b6:s'.di 6=aa (.loc [cP,cN]))(hP:Jx s' 14 2 ps cP)(hN:Jx s' 20 5 ns cN):R25 ps ns s':=
 ⟨hb.trans I.base,by rw[a,v4];exact I.t4,by rw[c];exact I.b4,by rw[b,d];exact I.t6,cP,cN,b6,hP,hN⟩
structure E25(c:Int)(s:PS):Prop where
 t4:s.tmp 4= .gz 4 (s.ba 4) 0
 b4:s.di 4=aa (.loc [.d .cj,.d .cj])
 t5:s.tmp 5= .d (.int aj c)
section
variable{P:Program}(A:Pr8 P)
theorem VT{t:Tr}{e:G7}{Q:Exit->PS->Prop}{s:PS}{cP cN:C}(I:A25 t e s)(b6:s.di 6=aa (.loc [cP,cN]))(hP:Qv s 14 2 (t.ps.map mg) cP)(hN:Qv s 20 5 (t.ns.map pa) cN)(d:t.ps.length<=1000)(f:t.ns.length<=1000)
  (h:∀s',S25 t e cP cN s'->Q .normal s'):l7 P (UY A.jl A.je) Q s:=by
 have b:=qF A t e.n (by omega);have c:=tI A.toPr t e.n (by omega);simp only[vt,ki,lr]at b c;simp only[UY,go_sem,ab,ak,ao,I.base,I.t2,I.b2,I.t3,I.b3];refine ir b ?_;simp only[go_sem,ab,ak,ao,I.t2,I.b2,I.t3,I.b3];refine ir c ?_;simp only[go_sem,ab];refine h _ ⟨I.to ?_ (λi a=>?_) (λi a=>rfl) (λi a=>rfl),b6,hP.mono rfl rfl,hN.mono rfl rfl,?_,?_⟩
 ·exact I.base.symm
 ·simp only[ar]
  repeat rw[aq (by omega)]
 ·simp[ar]
 simp[ar]
theorem a1z{ps ns:List (List D)}{b:Bool}{s:PS}(I:R25 ps ns s)(a:iv P A.om [.agg [p9 2 ps,p9 5 ns]] (.bool b)):
  l7 P (mE A.om) (ly [.cell 4 2 ah,.tmp 5] (.Bb [if b=ah then .agg [p9 2 ps,p9 5 ns]else .agg [.cj,.cj],.int aj (if b=ah then 0 else 230)])) s:=by
 obtain⟨cP,cN,hb,hP,hN⟩:=I.b6;rcases hP with ⟨c,rfl⟩|⟨c,rfl⟩|⟨c,rfl,d⟩<;>rcases hN with ⟨e2,rfl⟩|⟨e2,rfl⟩|⟨e2,rfl,e⟩
 ·simp only[p9,c,e2,da]at a|-;simp only[mE,go_sem,ak,I.base,I.t6,hb];refine gq a ?_;cases b<;>simp only[go_sem,ab,ak,I.t6,hb,I.t4,I.b4,Iq]
 ·simp only[p9,c,e2,da,bp]at a|-;simp only[mE,go_sem,ak,I.base,I.t6,hb];refine gq a ?_;cases b<;>simp only[go_sem,ab,ak,I.t6,hb,I.t4,I.b4,Iq]
 ·simp only[p9,c,e2,da,bp]at a|-;simp only[mE,go_sem,ak,I.base,I.t6,hb];refine jn (ds:=[.agg [.cj,.gd 5 ns]]) ?_ a rfl ?_
  ·simp only[go_sem,k9,ow,e]
  cases b<;>simp only[go_sem,ab,ak,I.t6,hb,I.t4,I.b4,e,ff,Iq]
 ·simp only[p9,c,e2,da,bp]at a|-;simp only[mE,go_sem,ak,I.base,I.t6,hb];refine gq a ?_;cases b<;>simp only[go_sem,ab,ak,I.t6,hb,I.t4,I.b4,Iq]
 ·simp only[p9,c,e2,bp]at a|-;simp only[mE,go_sem,ak,I.base,I.t6,hb];refine gq a ?_;cases b<;>simp only[go_sem,ab,ak,I.t6,hb,I.t4,I.b4,Iq]
 ·simp only[p9,c,e2,bp]at a|-;simp only[mE,go_sem,ak,I.base,I.t6,hb];refine jn (ds:=[.agg [.gd 2 ps,.gd 5 ns]]) ?_ a rfl ?_
  ·simp only[go_sem,k9,ow,e]
  cases b<;>simp only[go_sem,ab,ak,I.t6,hb,I.t4,I.b4,e,ff,Iq]
 ·simp only[p9,c,e2,da,bp]at a|-;simp only[mE,go_sem,ak,I.base,I.t6,hb];refine jn (ds:=[.agg [.gd 2 ps,.cj]]) ?_ a rfl ?_
  ·simp only[go_sem,k9,ow,d]
  cases b<;>simp only[go_sem,ab,ak,I.t6,hb,I.t4,I.b4,d,ff,Iq]
 ·simp only[p9,c,e2,bp]at a|-;simp only[mE,go_sem,ak,I.base,I.t6,hb];refine jn (ds:=[.agg [.gd 2 ps,.gd 5 ns]]) ?_ a rfl ?_
  ·simp only[go_sem,k9,ow,d]
  cases b<;>simp only[go_sem,ab,ak,I.t6,hb,I.t4,I.b4,d,ff,Iq]
 simp only[p9,c,e2,bp]at a|-;simp only[mE,go_sem,ak,I.base,I.t6,hb];refine jn (ds:=[.agg [.gd 2 ps,.gd 5 ns]]) ?_ a rfl ?_
 ·simp only[go_sem,k9,ow,d,e]
 cases b<;>simp only[go_sem,ab,ak,I.t6,hb,I.t4,I.b4,d,e,ff,Iq]
theorem a97{t:Tr}{e:G7}{cP cN:C}{Q:Exit->PS->Prop}{s:PS}(I:S25 t e cP cN s)(m:t.ps.length<=1000)
  (c:ku t e.n<0->∀s',E25 4 s'->Q .ret s')(g:¬ku t e.n<0->∀s',R25 ((V0 t.ps (ku t e.n).toNat e.v).map mg) (t.ns.map pa) s'->Q .normal s'):l7 P IC Q s:=by
 rcases Fl t e.n with h|⟨k,i,h⟩
 ·have a:=I.t7;rw[h]at c a;simp only[IC,go_sem,ab,cu,ak,reduceCtorEq,a,I.t4,I.b4,show((-1:Int)<0)=True from by decide,decide_true];exact c (by decide) _ ⟨by simp[ar,I.t4],by simp[ar],by simp[ar]⟩
 have a:=I.t7;rw[h]at c g a
 have j:t.ps.map mg≠[]:=λq=>by have:=congrArg Ae q;simp at this;subst_vars;simp[this]at i
 obtain⟨rfl,hb⟩:cP= .ref 14 (s.ba 14) (t.ps.map mg).length/\s.di 14=aa (.arr 2 (t.ps.map mg)):=by
  rcases I.hP with ⟨q,_⟩|⟨_,q⟩
  ·exact absurd q j
  exact q
 have l:=aS i
 have f:(t.ps.map mg).set k [.str (t.ps.getD k p0).n,.int aj e.v]=(V0 t.ps k e.v).map mg:=by
  unfold V0;rw[<-J3];rfl
 have b:¬((k:Int)<0):=by omega
 have d:(k:Int)<(t.ps.map mg).length:=by rw[al];omega
 simp only[IC,go_sem,ab,ak,ao,reduceCtorEq,a,I.base,I.t6,I.b6,I.t3,I.b3,hb,b,d,l,aw,bn,decide_false,f]
 refine g b _ (R25.of (cP:= .ref 14 (s.ba 14) (t.ps.map mg).length) (cN:=cN) I.toA25 (by first|rfl|exact I.base.symm) (by first|rfl|simp[ar]) (by first|rfl|simp[ar]) (by first|rfl|simp[ar]) rfl rfl (by simp[ar,I.b6]) (.inr (.inr ⟨?_,?_,?_⟩)) (I.hN.o.mono rfl (by simp[ar])))
 ·simp only[bn,<-f]
  exact λq=>j (by have:=congrArg Ae q;simp at this;rw[this];rfl)
 ·simp[V0]
 simp[ar]
theorem Jx.s{s:PS}{id sz:Nat}{dv:List (List D)}(h:dv≠[]):Jx s id sz dv (.d (.gd sz dv)):= .inr (.inl ⟨h,rfl⟩)
theorem Wr(sz:Nat)(dv:List (List D)):(dv=[]/\p9 sz dv= .cj)\/(dv≠[]/\p9 sz dv= .gd sz dv):=by
 unfold p9;by_cases h:dv=[]
 ·exact .inl ⟨h,bc h⟩
 exact .inr ⟨h,aq h⟩
theorem uL{α:Type}(key:α->ByteArray)(x:α)(l:List α):Bd key x l≠[]:=λq=>by have:=congrArg Ae q;rw[N6]at this;simp at this
theorem a2k(l:List Pm)(p:Pm)(a:l.length<=2^30):iv P A.l5 [p9 2 (l.map mg),.agg (mg p)] (.gd 2 ((Bd Pm.n p l).map mg)):=by
 refine(a0x A l p a).args (ys:=[p9 2 (l.map mg),.agg (mg p)]) rfl λi x y hx hy=>?_
 match i,hx,hy with
 |0,hx,hy=>simp at hx hy;subst hx hy;exact By
 |1,hx,hy=>simp at hx hy;subst hx hy;exact Wk.refl _
 |i+2,hx,hy=>simp at hx
theorem KG(l:List Nd)(p:Nd)(a:l.length<=2^30):iv P A.jt [p9 5 (l.map pa),.agg (pa p)] (.gd 5 ((Bd Nd.n p l).map pa)):=by
 refine(xH A l p a).args (ys:=[p9 5 (l.map pa),.agg (pa p)]) rfl λi x y hx hy=>?_
 match i,hx,hy with
 |0,hx,hy=>simp at hx hy;subst hx hy;exact By
 |1,hx,hy=>simp at hx hy;subst hx hy;exact Wk.refl _
 |i+2,hx,hy=>simp at hx
theorem a96{t:Tr}{e:G7}{cP cN:C}{Q:Exit->PS->Prop}{s:PS}(I:S25 t e cP cN s)(i:t.ps.length<=1000)(j:t.ns.length<=1000)
  (f:¬ku t e.n<0->∀s',E25 7 s'->Q .ret s')(g:ku t e.n<0->∀s',R25 ((Bd Pm.n ⟨e.n,e.v⟩ t.ps).map mg) (t.ns.map pa) s'->Q .normal s'):l7 P (IB A.l5) Q s:=by
 have b:=I.t7;by_cases h:ku t e.n<0
 ·have a:decide (ku t e.n>=0)=false:=by simp;omega
  have c:=a0x A t.ps ⟨e.n,e.v⟩ (by omega);simp only[mg]at c;simp only[IB,go_sem,ab,ak,ao,reduceCtorEq,b,a,I.base,I.t2,I.b2,I.t3,I.b3];refine ir c ?_;simp only[go_sem,ab,ak,ao,I.t6,I.b6]
  refine g h _ (R25.of (cP:= .d (.gd 2 ((Bd Pm.n ⟨e.n,e.v⟩ t.ps).map mg))) (cN:=cN) I.toA25 (by first|rfl|exact I.base.symm) (by first|rfl|simp[ar]) (by first|rfl|simp[ar]) (by first|rfl|simp[ar]) rfl rfl (by simp[ar]) (Jx.s (by simp[uL])) (I.hN.o.mono rfl (by simp[ar])))
 have a:decide (ku t e.n>=0)=true:=by simp;omega
 simp only[IB,go_sem,ab,ak,reduceCtorEq,b,a,I.t4,I.b4];exact f h _ ⟨by simp[ar,I.t4],by simp[ar],by simp[ar]⟩
theorem a95{t:Tr}{e:G7}{cP cN:C}{Q:Exit->PS->Prop}{s:PS}(I:S25 t e cP cN s)(i:t.ps.length<=1000)(j:t.ns.length<=1000)
  (f:ku t e.n<0->∀s',E25 4 s'->Q .ret s')(g:¬ku t e.n<0->∀s',R25 ((t.ps.filter λp=> !i6 p.n e.n).map mg) (t.ns.map pa) s'->Q .normal s'):l7 P (IA A.j2) Q s:=by
 have b:=I.t7;by_cases h:ku t e.n<0
 ·have a:decide (ku t e.n<0)=true:=by simp;omega
  simp only[IA,go_sem,ab,ak,reduceCtorEq,b,a,I.t4,I.b4];exact f h _ ⟨by simp[ar,I.t4],by simp[ar],by simp[ar]⟩
 have a:decide (ku t e.n<0)=false:=by simp;omega
 have c:=qH A t.ps e.n (by omega);rcases Wr 2 ((t.ps.filter λp=> !i6 p.n e.n).map mg)with ⟨_,q⟩|⟨_,q⟩<;>rw[q]at c
 all_goals
  simp only[IA,go_sem,ab,ak,ao,reduceCtorEq,b,a,I.base,I.t2,I.b2,I.t3,I.b3];refine ir c ?_;simp only[go_sem,ab,ak,ao,I.t6,I.b6]
  refine g h _ (R25.of (cP:= .d (p9 2 ((t.ps.filter λp=> !i6 p.n e.n).map mg))) (cN:=cN) I.toA25 (by first|rfl|exact I.base.symm) (by first|rfl|simp[ar]) (by first|rfl|simp[ar]) (by first|rfl|simp[ar]) rfl rfl (by simp[ar,q]) Jx.d (I.hN.o.mono rfl (by simp[ar])))
theorem a94{t:Tr}{e:G7}{cP cN:C}{Q:Exit->PS->Prop}{s:PS}(I:S25 t e cP cN s)(g:t.ps.length<=1000)(h:t.ns.length<=1000)
  (b:∀s',R25 (t.ps.map mg) ((Bd Nd.n e.nd (t.ns.filter λn=> !i6 n.n e.nd.n)).map pa) s'->Q .normal s'):l7 P (SE A.jh A.jt) Q s:=by
 have f:=tu (λn:Nd=> !i6 n.n e.nd.n) t.ns;have c:=qD A t.ns e.nd.n (by omega);have a:=KG A (t.ns.filter λn=> !i6 n.n e.nd.n) e.nd (by omega);simp only[pa,qx,kh,kn]at a;simp only[SE,go_sem,ab,ak,ao,I.base,I.t2,I.b2,I.t3,I.b3];refine ir c ?_;simp only[go_sem,ab,ak,I.t3,I.b3];refine ir a ?_;simp only[go_sem,ab,ak,I.t6,I.b6]
 refine b _ (R25.of (cP:=cP) (cN:= .d (.gd 5 ((Bd Nd.n e.nd (t.ns.filter λn=> !i6 n.n e.nd.n)).map pa))) I.toA25 (by first|rfl|exact I.base.symm) (by first|rfl|simp[ar]) (by first|rfl|simp[ar]) (by first|rfl|simp[ar]) rfl rfl (by simp[ar]) (I.hP.o.mono rfl (by simp[ar])) (Jx.s (by simp[uL])))
theorem a92{t:Tr}{e:G7}{cP cN:C}{Q:Exit->PS->Prop}{s:PS}(I:S25 t e cP cN s)(i:t.ps.length<=1000)(j:t.ns.length<=1000)
  (f:Ku t.ns e.n 0<0->∀s',E25 4 s'->Q .ret s')(g:¬Ku t.ns e.n 0<0->∀s',R25 (t.ps.map mg) ((t.ns.filter λn=> !i6 n.n e.n).map pa) s'->Q .normal s'):l7 P (HZ A.jh) Q s:=by
 have b:=I.t8;by_cases h:Ku t.ns e.n 0<0
 ·have a:decide (Ku t.ns e.n 0<0)=true:=by simp;omega
  simp only[HZ,go_sem,ab,ak,reduceCtorEq,b,a,I.t4,I.b4];exact f h _ ⟨by simp[ar,I.t4],by simp[ar],by simp[ar]⟩
 have a:decide (Ku t.ns e.n 0<0)=false:=by simp;omega
 have c:=qD A t.ns e.n (by omega);rcases Wr 5 ((t.ns.filter λn=> !i6 n.n e.n).map pa)with ⟨_,q⟩|⟨_,q⟩<;>rw[q]at c
 all_goals
  simp only[HZ,go_sem,ab,ak,ao,reduceCtorEq,b,a,I.base,I.t2,I.b2,I.t3,I.b3];refine ir c ?_;simp only[go_sem,ab,ak,I.t6,I.b6]
  refine g h _ (R25.of (cP:=cP) (cN:= .d (p9 5 ((t.ns.filter λn=> !i6 n.n e.n).map pa))) I.toA25 (by first|rfl|exact I.base.symm) (by first|rfl|simp[ar]) (by first|rfl|simp[ar]) (by first|rfl|simp[ar]) rfl rfl (by simp[ar,q]) (I.hP.o.mono rfl (by simp[ar])) Jx.d)
theorem a90{t:Tr}{e:G7}{cP cN:C}{Q:Exit->PS->Prop}{s:PS}(I:S25 t e cP cN s)(r:t.ps.length<=1000)(p:t.ns.length<=1000)(m:∀n∈t.ns,n.ins.length<=2^30)
  (j:Ku t.ns e.n 0<0->∀s',E25 4 s'->Q .ret s')(l:¬Ku t.ns e.n 0<0->¬Ku t.ns e.t 0<0->∀s',E25 7 s'->Q .ret s')
  (k:¬Ku t.ns e.n 0<0->Ku t.ns e.t 0<0->∀s',R25 (t.ps.map mg) ((F4 (t.ns.map (Pd e.n e.t))).map pa) s'->Q .normal s'):l7 P (HY A.je A.jr) Q s:=by
 have c:=I.t8;by_cases h:Ku t.ns e.n 0<0
 ·have a:decide (Ku t.ns e.n 0<0)=true:=by simp;omega
  simp only[HY,go_sem,ab,ak,reduceCtorEq,c,a,I.t4,I.b4];exact j h _ ⟨by simp[ar,I.t4],by simp[ar],by simp[ar]⟩
 have a:decide (Ku t.ns e.n 0<0)=false:=by simp;omega
 have i:=tI A.toPr t e.t (by omega);simp only[vt,ki,lr]at i;have f:=KC A t.ns e.n e.t p m;simp only[HY,go_sem,ab,ak,ao,reduceCtorEq,c,a,I.base,I.t2,I.b2,I.t3,I.b3];refine ir i ?_;by_cases g:Ku t.ns e.t 0<0
 ·have b:decide (Ku t.ns e.t 0>=0)=false:=by simp;omega
  simp only[go_sem,ab,ak,ao,reduceCtorEq,b,I.t2,I.b2,I.t3,I.b3];rcases Wr 5 ((F4 (t.ns.map (Pd e.n e.t))).map pa)with ⟨_,q⟩|⟨_,q⟩<;>rw[q]at f
  all_goals
   refine Fw f ?_;simp only[go_sem,ab,ak,I.t6,I.b6]
   refine k h g _ (R25.of (cP:=cP) (cN:= .d (p9 5 ((F4 (t.ns.map (Pd e.n e.t))).map pa))) I.toA25 (by first|rfl|exact I.base.symm) (by first|rfl|simp[ar]) (by first|rfl|simp[ar]) (by first|rfl|simp[ar]) rfl rfl (by simp[ar,q]) (I.hP.o.mono rfl (by simp[ar])) Jx.d)
 have b:decide (Ku t.ns e.t 0>=0)=true:=by simp;omega
 simp only[go_sem,ab,ak,reduceCtorEq,b,I.t4,I.b4];exact l h g _ ⟨by simp[ar,I.t4],by simp[ar],by simp[ar]⟩
theorem a8z{t:Tr}{e:G7}{cP cN:C}{Q:Exit->PS->Prop}{s:PS}(I:S25 t e cP cN s)(G:t.ps.length<=1000)(B:t.ns.length<=1000)(x:∀n∈t.ns,n.f.vs.length<=2^30)
  (c:ku t e.n<0->∀s',E25 4 s'->Q .ret s')(m:¬ku t e.n<0->¬ku t e.t<0->∀s',E25 7 s'->Q .ret s')
  (i:¬ku t e.n<0->ku t e.t<0->∀s',R25 ((Bd Pm.n ⟨e.t,(t.ps.getD (ku t e.n).toNat p0).v⟩ (t.ps.filter λp=> !i6 p.n e.n)).map mg) ((t.ns.map (Ox e.n e.t)).map cRv) s'->Q .normal s'):l7 P (HX A.jl A.l5 A.j2 A.j8) Q s:=by
 rcases Fl t e.n with h|⟨k,y,h⟩
 ·have b:=I.t7;rw[h]at c b;simp only[HX,go_sem,ab,cu,ak,reduceCtorEq,b,I.t4,I.b4,show((-1:Int)<0)=True from by decide,decide_true];exact c (by decide) _ ⟨by simp[ar,I.t4],by simp[ar],by simp[ar]⟩
 have b:=I.t7;rw[h]at c i m b
 have a:¬((k:Int)<0):=by omega
 have z:(k:Int)<(t.ps.map mg).length:=by rw[al];omega
 have l:=aS y;have u:=qF A t e.t (by omega);simp only[vt,ki,lr]at u;have r:=CL A t.ns e.n e.t B x;have F:=tu (λp:Pm=> !i6 p.n e.n) t.ps;have D:=qH A t.ps e.n (by omega);have o:=a2k A (t.ps.filter λp=> !i6 p.n e.n) ⟨e.t,(t.ps.getD k p0).v⟩ (by omega);simp only[mg]at o;simp only[bn]at i;have E:=uL Pm.n ⟨e.t,(t.ps.getD k p0).v⟩ (t.ps.filter λp=> !i6 p.n e.n)
 generalize Bd Pm.n ⟨e.t,(t.ps.getD k p0).v⟩ (t.ps.filter λp=> !i6 p.n e.n)=w at*
 simp only[HX,go_sem,ab,ak,ao,reduceCtorEq,b,a,decide_false,I.base,I.t2,I.b2,I.t3,I.b3];refine ir u ?_;by_cases g:ku t e.t<0
 ·have j:decide (ku t e.t>=0)=false:=by simp;omega
  simp only[go_sem,ab,ak,ao,reduceCtorEq,j,I.t2,I.b2,I.t3,I.b3];refine ir D ?_;simp only[go_sem,ab,ak,ao,l,I.t2,I.b2,I.t3,I.b3,b,bn,aw];refine ir o ?_;simp only[go_sem,ab,ak,ao,I.t2,I.b2,I.t3,I.b3,I.t6,I.b6];rcases Wr 5 ((t.ns.map (Ox e.n e.t)).map cRv)with ⟨_,q⟩|⟨_,q⟩<;>rw[q]at r
  all_goals
   refine Fw r ?_;simp only[go_sem,ab,ak,I.t6,I.b6]
   refine i a g _ (R25.of (cP:= .d (.gd 2 (w.map mg))) (cN:= .d (p9 5 ((t.ns.map (Ox e.n e.t)).map cRv))) I.toA25 (by first|rfl|exact I.base.symm) (by first|rfl|simp[ar]) (by first|rfl|simp[ar]) (by first|rfl|simp[ar]) rfl rfl (by simp[-JE,ar,q]) (Jx.s (by simpa using E)) Jx.d)
 have j:decide (ku t e.t>=0)=true:=by simp;omega
 simp only[go_sem,ab,ak,reduceCtorEq,j,I.t4,I.b4];exact m a g _ ⟨by simp[ar,I.t4],by simp[ar],by simp[ar]⟩
end
end Go.PI
