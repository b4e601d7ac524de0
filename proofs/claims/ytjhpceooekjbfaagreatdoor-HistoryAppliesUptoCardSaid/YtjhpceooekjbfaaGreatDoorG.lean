/- A part of the proof for HistoryApplies: F115 to SLayP. Printed from longer texts. -/
import Derived.Test.YtjhpceooekjbfaaGreatDoorF
import Derived.Deep.Slices
import Derived.ChangeShapes
import Derived.OpenShut
import Derived.ChangeSame
import Derived.ChangeStays
import Derived.ChangeBook
import Derived.RowKit
import Derived.Test.YtjhpceooekjbfaaGreatDoorRows
import Derived.KernelRfl
import Derived.Shelf.SlLaysF
set_option linter.all false
set_option maxHeartbeats 64000000
open Bool renaming and_eq_true->dc,false->ag,true->ah
open Classical renaming byContradiction->sJ
open Go.IntKind renaming i64->aj
open Go.Proofs.SlLaysF renaming n6->afc
open Go.Shelf renaming Ren->aed
open Go.World renaming cell?->aet
open Int renaming reduceBEq->Bz,reduceBNe->mj
open List renaming all_eq_true->dg,any_eq_false->wL,any_eq_true->Bm,append_nil->pt,cons_append->qc,drop_drop->JF,drop_zero->wK,eq_nil_of_length_eq_zero->jf,eraseIdx_cons_succ->ac5,eraseIdx_cons_zero->ac4,ext_getElem->Xt,filter_cons->Bl,filter_eq_self->Qx,getD->cz,getElem?_append_left->kq,getElem?_append_right->l9,getElem?_eq_getElem->bh,getElem?_eq_some_iff->bd,getElem?_map->dn,getElem?_of_mem->adf,getElem?_range->Nk,getElem_map->Gy,getElem_mem->dj,length_filter_le->tu,length_map->al,length_range->a8u,map_append->fj,map_cons->du,map_nil->ic,mem_append->jz,mem_cons->fa,mem_filter->ya,mem_map->j6,mem_range->er,mem_singleton->Q9,nodup_append->Xs,nodup_cons->VM,nodup_iff_pairwise_ne->yi,pairwise_cons->yh,pairwise_map->U5,perm_append_singleton->a5j,range->fc,reverse_append->W6,reverse_cons->oq,reverse_reverse->ue,take_of_length_le->D0
open List.Pairwise renaming filter->adi
open Nat renaming le_trans->jg,reduceAdd->ak,reduceEqDiff->ab,reduceLeDiff->ao
open Option renaming bind_eq_some_iff->BS,map_eq_some_iff->ax,none->ae,some->aa
namespace Go.PI
theorem YL{t:Tr}(h:yj w8 t=ah):(t.ns.map Nd.n).Pairwise λa b=>strLt a b=true:=by
 unfold yj at h;simp only[dc,decide_eq_true_eq,dg,er,beq_iff_eq]at h;obtain⟨e,f,d,g⟩:=h;have p:=λi c=>Zp (d i c);exact Ya λi c=>(p i (by simpa using c)).2.1
section
variable{α:Type}{key:α->ByteArray}
def eD(key:α->ByteArray)(l:List α):Prop:=l.Pairwise λx y=>strLt (key x) (key y)=ah
theorem kT{x y:α}(h:¬strLt (key x) (key y)=ah):∀A:List α,tp key (A++[y]) x=tp key A x++[y]
 |[]=>by simp[tp,h]
 |z::A=>by
  rw[qc,tp];by_cases c:strLt (key x) (key z)=ah
  ·rw[bc c,kT h A,tp,bc c];rfl
  rw[aq c,tp,aq c];rfl
theorem zH{x:α}:∀{l:List α},eC key l->(tp key l.reverse x).reverse=Bd key x l
 |[],_=>rfl
 |y::r,h=>by
  rw[oq];by_cases c:strLt (key x) (key y)=ah
  ·have a:∀z∈r.reverse++[y],strLt (key x) (key z)=true:=by
    intro z hz;rw[jz,List.mem_reverse,Q9]at hz;rcases hz with hz|rfl
    ·have:=(yh.1 h).1 z hz;by_cases q:key z=key y
     ·rw[q];exact c
     exact Uw c (Y1 this q)
    exact c
   have:=fD key a [];rw[pt]at this;rw[this,Bd,bc c];simp[tp]
  rw[kT c,W6,zH (yh.1 h).2,Bd,aq c];rfl
theorem Tq(l:List α)(x:α):ji key (l++[x])=Bd key x (ji key l):=by rw[Bv,zH (Tp key l)]
theorem qQ:∀{l m:List α},l.Perm m->eD key l->eD key m->l=m
 |[],m,h,_,_=>h.nil_eq
 |a::r,[],h,_,_=>absurd h.length_eq (by simp)
 |a::r,b::s,h,h1,h2=>by
  have c:=yh.1 h1;have d:=yh.1 h2;have f:a∈b::s:=h.mem_iff.1 (by simp);have hb:b∈a::r:=h.mem_iff.2 (by simp)
  have:a=b:=by
   rcases fa.1 f with q|q
   ·exact q
   rcases fa.1 hb with p|p
   ·exact p.symm
   have g:=d.1 a q;have e:=c.1 b p;rw[Jq g]at e;cases e
  subst this;rw[qQ h.cons_inv c.2 d.2]
theorem kO{l:List α}(h:(l.map key).Nodup):eD key (ji key l):=by
 have d:eC key (ji key l):=Tp key l;have c:((ji key l).map key).Nodup:=((Pt key l).map key).nodup_iff.2 h;rw[yi,U5]at c;exact(d.and c).imp λ{a b} q=>Y1 q.1 (λe=>q.2 e.symm)
theorem SF{l m:List α}(a:l.Perm m)(h:(l.map key).Nodup):ji key l=ji key m:=
 qQ ((Pt key l).trans (a.trans (Pt key m).symm)) (kO h) (kO ((a.map key).nodup_iff.1 h))
theorem erase_filter{s:ByteArray}:∀{l:List α} {k:Nat} (c:k<l.length),key l[k]=s->(l.map key).Nodup->l.eraseIdx k=l.filter λy=> !i6 (key y) s
 |y::r,0,c,e,hn=>by
  have a:key y=s:=e;rw[du,VM]at hn;rw[ac4,Bl,aq (by rw[a,Dy];simp)];refine(Qx.2 λz hz=>?_).symm;have:key z≠s:=λq=>hn.1 (by rw[a,<-q];exact j6.2 ⟨z,hz,rfl⟩);rw[Ow.2 this];rfl
 |y::r,k+1,c,e,hn=>by
  have b:k<r.length:=by simpa using c
  have a:key r[k]=s:=e;rw[du,VM]at hn;have:key y≠s:=λq=>hn.1 (by rw[q,<-a];exact j6.2 ⟨_,dj b,rfl⟩);rw[ac5,erase_filter b a hn.2,Bl,bc (by rw[Ow.2 this];rfl)]
theorem qC{x:α}:∀{l:List α} {k:Nat},k<l.length->(l.set k x).Perm (l.eraseIdx k++[x])
 |y::r,0,_=>by
  rw[List.set_cons_zero,ac4];exact(a5j x r).symm
 |y::r,k+1,h=>by
  rw[List.set_cons_succ,ac5,qc];exact(qC (by simpa using h)).cons y
theorem Pc{l:List α}(h:eD key l):(l.map key).Nodup:=by
 rw[yi,U5];exact h.imp Z3
theorem V7{l:List α}(h:eD key l)(p:α->Bool):eD key (l.filter p):=adi p h
theorem rC{l:List α}{k:Nat}{s:ByteArray}{x:α}(h:eD key l)(f:k<l.length)(e:key l[k]=s)(hx:key x=s\/∀y∈l,key y≠key x):
  ji key (l.set k x)=Bd key x (l.filter λy=> !i6 (key y) s):=by
 have d:=V7 h (λy=> !i6 (key y) s)
 have e2:Bd key x (l.filter λy=> !i6 (key y) s)=ji key ((l.filter λy=> !i6 (key y) s)++[x]):=by rw[Tq,Pu d]
 have c:=qC (x:=x) f;rw[erase_filter f e (Pc h)]at c;rw[e2];refine SF c ((c.map key).nodup_iff.2 ?_);rw[fj,Xs];refine⟨Pc d,by simp,?_⟩;intro a g b hb q;rw[du,ic,Q9]at hb;obtain⟨y,hy,rfl⟩:=j6.1 g;rw[ya]at hy;have n1:key y≠s:=Ow.1 (by simpa using hy.2);rcases hx with hx|hx
 ·exact n1 (by rw[q,hb,hx])
 exact hx y hy.1 (by rw[q,hb])
end
theorem Zu(l:List Nd):F4 l=ji Nd.n l:=by
 have:∀r:List Nd,F4 r.reverse=ji Nd.n r.reverse:=by
  intro r
  induction r with
  |nil=>rfl
  |cons x r a=>rw[oq,fH,Tq,a]
 have:=this l.reverse
 rwa[ue]at this
theorem St(t:Tr)(s:ByteArray):(Ku t.ns s 0<0)=(ur t s<0):=by
 rw[zJ t.ns s 0 (by lia)];refine propext ⟨λh=>?_,λh=>?_⟩
 ·refine sJ λc=>?_;obtain⟨k,a,e,_⟩:=Qi c
  have:Ts t.ns s=true:=by
   unfold Ts;rw[Bm];exact⟨_,dj a,by rw[e];exact Dy s⟩
  rw[h]at this;cases this
 have:=eS h;unfold Ts;rw[wL];intro n b;rw[Ow.2 (this n b)];simp
def rb(t:Tr)(e:G7):Tr×Int:=
 if e.k=0 then(if ku t e.n<0 then(t,4)else(⟨V0 t.ps (ku t e.n).toNat e.v,t.ns⟩,0))
 else if e.k=1 then(if ku t e.n<0 then(⟨Bd Pm.n ⟨e.n,e.v⟩ t.ps,t.ns⟩,0)else(t,7))
 else if e.k=2 then(if ku t e.n<0 then(t,4)else(⟨t.ps.filter λp=> !i6 p.n e.n,t.ns⟩,0))
 else if e.k=3 then(⟨t.ps,Bd Nd.n e.nd (t.ns.filter λn=> !i6 n.n e.nd.n)⟩,0)
 else if e.k=4 then(if ur t e.n<0 then(t,4)else(⟨t.ps,t.ns.filter λn=> !i6 n.n e.n⟩,0))
 else if e.k=5 then(if ur t e.n<0 then(t,4)else if ur t e.t<0 then(⟨t.ps,F4 (t.ns.map (Pd e.n e.t))⟩,0)else(t,7))
 else(if ku t e.n<0 then(t,4)else if ku t e.t<0 then(⟨Bd Pm.n ⟨e.t,(t.ps.getD (ku t e.n).toNat p0).v⟩ (t.ps.filter λp=> !i6 p.n e.n),t.ns.map (Ox e.n e.t)⟩,0)else(t,7))
def Ui(t:Tr)(e:G7):Tr×Int:=
 if e.k<0\/7<=e.k then(⟨[],[]⟩,1)
 else if(rb t e).2≠0 then(⟨[],[]⟩,(rb t e).2)
 else if yj oe (rb t e).1=ah then((rb t e).1,0)else(⟨[],[]⟩,230)
theorem MI{t:Tr}(h:yj w8 t=ah)(e:G7):(rb t e).2=(tn t e).2/\((tn t e).2=0->(rb t e).1=H6 (tn t e).1):=by
 have z:eD Pm.n t.ps:=by have:=yA (xU h).pms;rwa[U5]at this
 have m:eD Nd.n t.ns:=by have:=YL h;rwa[U5]at this
 have p:=Pu z;have l:=Pu m;unfold rb tn H6;by_cases e0:e.k=0
 ·rw[bc e0,bc e0];by_cases c:ku t e.n<0
  ·rw[bc c];exact⟨rfl,λq=>by cases q⟩
  rw[aq c];refine⟨rfl,λ_=>?_⟩
  have:eD Pm.n (V0 t.ps (ku t e.n).toNat e.v):=by
   unfold eD;have q:=yA (xU h).pms
   have:(V0 t.ps (ku t e.n).toNat e.v).map Pm.n=t.ps.map Pm.n:=by
    obtain⟨k,a,b,f⟩:=Va c;rw[f];unfold V0;refine Xt (by simp) λi C B=>?_;rw[Gy,Gy,List.getElem_set];split
    ·rename_i q;subst q;simp[cz,a]
    rfl
   rw[<-this,U5]at q;exact q
  show _=Tr.mk _ _;rw[Pu this,l]
 rw[aq e0,aq e0];by_cases r:e.k=1
 ·rw[bc r,bc r];by_cases c:ku t e.n<0
  ·rw[bc c,bc c]
   exact⟨rfl,λ_=>by show _=Tr.mk _ _;rw[Tq,p,l]⟩
  rw[aq c,aq c];exact⟨rfl,λq=>by cases q⟩
 rw[aq r,aq r];by_cases e2:e.k=2
 ·rw[bc e2,bc e2];by_cases c:ku t e.n<0
  ·rw[bc c,bc c];exact⟨rfl,λq=>by cases q⟩
  rw[aq c,aq c];obtain⟨k,a,b,f⟩:=Va c;refine⟨rfl,λ_=>?_⟩;show _=Tr.mk _ _;rw[f,bn,erase_filter a b (Pc z),Pu (V7 z _),l]
 rw[aq e2,aq e2];by_cases s:e.k=3
 ·rw[bc s,bc s];by_cases c:ur t e.nd.n<0
  ·rw[bc c];refine⟨rfl,λ_=>?_⟩;show _=Tr.mk _ _;rw[Tq,p,l,Qx.2 λn m=>by rw[Ow.2 (eS c n m)];rfl]
  rw[aq c];obtain⟨k,a,b,f⟩:=Qi c;refine⟨rfl,λ_=>?_⟩;show _=Tr.mk _ _;rw[f,bn,rC m a b (.inl rfl),p]
 rw[aq s,aq s];by_cases u:e.k=4
 ·rw[bc u,bc u];by_cases c:ur t e.n<0
  ·rw[bc c,bc c];exact⟨rfl,λq=>by cases q⟩
  rw[aq c,aq c];obtain⟨k,a,b,f⟩:=Qi c;refine⟨rfl,λ_=>?_⟩;show _=Tr.mk _ _;rw[f,bn,erase_filter a b (Pc m),Pu (V7 m _),p]
 rw[aq u,aq u];by_cases x:e.k=5
 ·rw[bc x,bc x];by_cases c:ur t e.n<0
  ·rw[bc c,bc c];exact⟨rfl,λq=>by cases q⟩
  rw[aq c,aq c];by_cases d:ur t e.t<0
  ·rw[bc d,bc d];obtain⟨k,a,b,f⟩:=Qi c;refine⟨rfl,λ_=>?_⟩;show _=Tr.mk _ _
   have:(Mo t e k).ns=t.ns.map (Pd e.n e.t):=by
    unfold Mo U8;refine Xt (by simp) λi C B=>?_
    have D:i<t.ns.length:=by simpa using B
    rw[Gy,Gy,List.getElem_set];by_cases q:k=i
    ·subst q;rw[bc rfl]
     have g:t.ns.getD k n0=t.ns[k]:=by simp[cz,a]
     rw[g];unfold nX Pd;rw[b,a34]
    rw[aq q];unfold nX Pd
    have:t.ns[i].n≠e.n:=λw=>by
     have:=(List.getElem_inj (i:=i) (j:=k) (h₀:=by simpa using D) (h₁:=by simpa using a) (Pc m)).1 (by rw[Gy,Gy,w,b]);exact q this.symm
    rw[a30 this]
   have o:(Mo t e k).ps=t.ps:=rfl;rw[f,bn,this,o,Zu,p]
  rw[aq d,aq d];exact⟨rfl,λq=>by cases q⟩
 rw[aq x,aq x];by_cases c:ku t e.n<0
 ·rw[bc c,bc c];exact⟨rfl,λq=>by cases q⟩
 rw[aq c,aq c];by_cases d:ku t e.t<0
 ·rw[bc d,bc d];obtain⟨k,a,b,f⟩:=Va c;refine⟨rfl,λ_=>?_⟩;show _=Tr.mk _ _
  have E:eD Nd.n (t.ns.map (Ox e.n e.t)):=by
   unfold eD;rw[U5];exact m
  have o:(K9 t e k).ps=t.ps.set k ⟨e.t,(t.ps.getD k p0).v⟩:=rfl;have A:(K9 t e k).ns=t.ns.map (Ox e.n e.t):=rfl;rw[f,bn,o,A,Pu E,rC z a b (.inr λy hy=>yD d y hy)]
 rw[aq d,aq d];exact⟨rfl,λq=>by cases q⟩
theorem LI{t:Tr}(h:yj w8 t=ah)(e:G7):Ui t e=applyN w8 t e:=by
 obtain⟨a,b⟩:=MI h e;have f:oe=w8:=funext λls=>(jY ls).symm;unfold Ui applyN;by_cases c:e.k<0\/7<=e.k
 ·rw[bc c,bc c]
 rw[aq c,aq c,a];by_cases d:(tn t e).2≠0
 ·rw[bc d,bc d]
 rw[aq d,aq d,b (by simpa using d),f]
theorem S25.to{t:Tr}{e:G7}{cP cN:C}{s s':PS}(h:S25 t e cP cN s)(hb:s'.base=s.base)(a:s'.di=s.di)(c:s'.ba=s.ba)(b:∀i,i<9->s'.tmp i=s.tmp i):S25 t e cP cN s':=
 ⟨h.toA25.to hb (λi d=>b i (by omega)) (λi _=>by rw[a]) (λi _=>by rw[c]),by rw[a];exact h.b6,h.hP.mono (by rw[c]) (by rw[a]),h.hN.mono (by rw[c]) (by rw[a]),by rw[b 7 (by omega)];exact h.t7,by rw[b 8 (by omega)];exact h.t8⟩
def nsR(e:G7)(l:List Nd):List (List D):=if e.k=6 then l.map cRv else l.map pa
section
variable{P:Program}(A:Pr8 P)
theorem a1y{t:Tr}{e:G7}{cP cN:C}{Q:Exit->PS->Prop}{s:PS}(I:S25 t e cP cN s)(r:t.ps.length<=1000)(u:t.ns.length<=1000)(o:∀n∈t.ns,n.ins.length<=2^30/\n.f.vs.length<=2^30)
  (E:e.k<0\/7<=e.k->∀s',E25 1 s'->Q .ret s')
  (b:¬(e.k<0\/7<=e.k)->(rb t e).2≠0->∀s',E25 (rb t e).2 s'->Q .ret s')
  (a:¬(e.k<0\/7<=e.k)->(rb t e).2=0->∀s',R25 ((rb t e).1.ps.map mg) (nsR e (rb t e).1.ns) s'->Q .normal s'):
  l7 P (nU A.jl A.je A.l5 A.j2 A.jh A.jt A.jr A.j8) Q s:=by
 by_cases e0:e.k=0
 ·have g:¬(e.k<0\/7<=e.k):=by omega
  have j:rb t e=if ku t e.n<0 then(t,4)else(⟨V0 t.ps (ku t e.n).toNat e.v,t.ns⟩,0):=by unfold rb;rw[bc e0]
  have m:∀l,nsR e l=l.map pa:=λl=>by unfold nsR;rw[aq (by omega)]
  rw[j]at b a;simp only[m]at a;simp only[nU,go_sem,ab,Bz,ak,ao,reduceCtorEq,I.t3,I.b3,e0,da,bp];exact a97 (I.to rfl rfl rfl λi o=>by simp only[ar];repeat rw[aq (by omega)]) r (λc=>by rw[bc c]at b;exact b g (by simp)) (λc=>by rw[aq c]at a;exact a g rfl)
 by_cases x:e.k=1
 ·have g:¬(e.k<0\/7<=e.k):=by omega
  have j:rb t e=if ku t e.n<0 then(⟨Bd Pm.n ⟨e.n,e.v⟩ t.ps,t.ns⟩,0)else(t,7):=by unfold rb;rw[aq (show¬e.k=0 by omega),bc x]
  have m:∀l,nsR e l=l.map pa:=λl=>by unfold nsR;rw[aq (by omega)]
  rw[j]at b a;simp only[m]at a;simp only[nU,fS,go_sem,ab,Bz,ak,ao,reduceCtorEq,I.t3,I.b3,x,da,bp];exact a96 A (I.to rfl rfl rfl λi o=>by simp only[ar];repeat rw[aq (by omega)]) r u (λc=>by rw[aq c]at b;exact b g (by simp)) (λc=>by rw[bc c]at a;exact a g rfl)
 by_cases e2:e.k=2
 ·have g:¬(e.k<0\/7<=e.k):=by omega
  have j:rb t e=if ku t e.n<0 then(t,4)else(⟨t.ps.filter λp=> !i6 p.n e.n,t.ns⟩,0):=by unfold rb;rw[aq (show¬e.k=0 by omega),aq (show¬e.k=1 by omega),bc e2]
  have m:∀l,nsR e l=l.map pa:=λl=>by unfold nsR;rw[aq (by omega)]
  rw[j]at b a;simp only[m]at a;simp only[nU,fS,nA,go_sem,ab,Bz,ak,ao,reduceCtorEq,I.t3,I.b3,e2,da,bp];exact a95 A (I.to rfl rfl rfl λi o=>by simp only[ar];repeat rw[aq (by omega)]) r u (λc=>by rw[bc c]at b;exact b g (by simp)) (λc=>by rw[aq c]at a;exact a g rfl)
 by_cases y:e.k=3
 ·have g:¬(e.k<0\/7<=e.k):=by omega
  have j:rb t e=(⟨t.ps,Bd Nd.n e.nd (t.ns.filter λn=> !i6 n.n e.nd.n)⟩,0):=by unfold rb;rw[aq (show¬e.k=0 by omega),aq (show¬e.k=1 by omega),aq (show¬e.k=2 by omega),bc y]
  have m:∀l,nsR e l=l.map pa:=λl=>by unfold nsR;rw[aq (by omega)]
  rw[j]at b a;simp only[m]at a;simp only[nU,fS,nA,rU,go_sem,ab,Bz,ak,ao,reduceCtorEq,I.t3,I.b3,y,da,bp];exact a94 A (I.to rfl rfl rfl λi o=>by simp only[ar];repeat rw[aq (by omega)]) r u (a g trivial)
 by_cases z:e.k=4
 ·have g:¬(e.k<0\/7<=e.k):=by omega
  have j:rb t e=if ur t e.n<0 then(t,4)else(⟨t.ps,t.ns.filter λn=> !i6 n.n e.n⟩,0):=by unfold rb;rw[aq (show¬e.k=0 by omega),aq (show¬e.k=1 by omega),aq (show¬e.k=2 by omega),aq (show¬e.k=3 by omega),bc z]
  have m:∀l,nsR e l=l.map pa:=λl=>by unfold nsR;rw[aq (by omega)]
  rw[j]at b a;simp only[m]at a;simp only[nU,fS,nA,rU,BI,go_sem,ab,Bz,ak,ao,reduceCtorEq,I.t3,I.b3,z,da,bp];exact a92 A (I.to rfl rfl rfl λi o=>by simp only[ar];repeat rw[aq (by omega)]) r u (λc=>by rw[St]at c;rw[bc c]at b;exact b g (by simp)) (λc=>by rw[St]at c;rw[aq c]at a;exact a g rfl)
 by_cases B:e.k=5
 ·have g:¬(e.k<0\/7<=e.k):=by omega
  have j:rb t e=if ur t e.n<0 then(t,4)else if ur t e.t<0 then(⟨t.ps,F4 (t.ns.map (Pd e.n e.t))⟩,0)else(t,7):=by unfold rb;rw[aq (show¬e.k=0 by omega),aq (show¬e.k=1 by omega),aq (show¬e.k=2 by omega),aq (show¬e.k=3 by omega),aq (show¬e.k=4 by omega),bc B]
  have m:∀l,nsR e l=l.map pa:=λl=>by unfold nsR;rw[aq (by omega)]
  rw[j]at b a;simp only[m]at a;simp only[nU,fS,nA,rU,BI,IQ,go_sem,ab,Bz,ak,ao,reduceCtorEq,I.t3,I.b3,B,da,bp];exact a90 A (I.to rfl rfl rfl λi o=>by simp only[ar];repeat rw[aq (by omega)]) r u (λn w=>(o n w).1) (λc=>by rw[St]at c;rw[bc c]at b;exact b g (by simp)) (λc d=>by rw[St]at c d;rw[aq c,aq d]at b;exact b g (by simp)) (λc d=>by rw[St]at c d;rw[aq c,bc d]at a;exact a g rfl)
 by_cases D:e.k=6
 ·have g:¬(e.k<0\/7<=e.k):=by omega
  have j:rb t e=if ku t e.n<0 then(t,4)else if ku t e.t<0 then(⟨Bd Pm.n ⟨e.t,(t.ps.getD (ku t e.n).toNat p0).v⟩ (t.ps.filter λp=> !i6 p.n e.n),t.ns.map (Ox e.n e.t)⟩,0)else(t,7):=by unfold rb;rw[aq (show¬e.k=0 by omega),aq (show¬e.k=1 by omega),aq (show¬e.k=2 by omega),aq (show¬e.k=3 by omega),aq (show¬e.k=4 by omega),aq (show¬e.k=5 by omega)]
  have m:∀l,nsR e l=l.map cRv:=λl=>by unfold nsR;rw[bc D]
  rw[j]at b a;simp only[m]at a;simp only[nU,fS,nA,rU,BI,IQ,UQ,go_sem,ab,Bz,ak,ao,reduceCtorEq,I.t3,I.b3,D,da,bp];exact a8z A (I.to rfl rfl rfl λi o=>by simp only[ar];repeat rw[aq (by omega)]) r u (λn w=>(o n w).2) (λc=>by rw[bc c]at b;exact b g (by simp)) (λc d=>by rw[aq c,aq d]at b;exact b g (by simp)) (λc d=>by rw[aq c,bc d]at a;exact a g rfl)
 have q:∀k:Int,(k=0\/k=1\/k=2\/k=3\/k=4\/k=5\/k=6)->(e.k==k)=false:=λk h=>by rw[beq_eq_false_iff_ne];omega
 simp only[nU,fS,nA,rU,BI,IQ,UQ,a15,go_sem,ab,ak,ao,reduceCtorEq,I.t3,I.b3,q 0 (by omega),q 1 (by omega),q 2 (by omega),q 3 (by omega),q 4 (by omega),q 5 (by omega),q 6 (by omega),bp,I.t4,I.b4];exact E (by omega) _ ⟨by simp[ar,I.t4],by simp[ar],by simp[ar]⟩
def FP(t:Tr)(e:G7):D:= .Bb [.agg [p9 2 ((Ui t e).1.ps.map mg),p9 5 (nsR e (Ui t e).1.ns)],.int aj (Ui t e).2]
theorem HN(e:G7):nsR e []=[]:=by unfold nsR;split<;>rfl
theorem OK(e:G7)(l:List Nd):Wk (p9 5 (nsR e l)) (.gd 5 (l.map pa)):=by
 unfold nsR;split
 ·exact a5s l
 exact By
theorem TP{t:Tr}{e:G7}{c:Int}{s:PS}(E:E25 c s)(h:Ui t e=(⟨[],[]⟩,c)):ly [.cell 4 2 ah,.tmp 5] (FP t e) .ret s:=by
 obtain⟨a,b4,b⟩:=E;simp only[FP,h,HN,ic,p9,da];simp only[go_sem,ak,a,b4,b]
theorem a27{t:Tr}{e:G7}{s:PS}(I:A25 t e s)(b6:s.di 6=aa (.loc [.d .cj,.d .cj]))(c:t.ps.length<=1000)(u:t.ns.length<=999)(o:∀n∈t.ns,n.ins.length<=2^30/\n.f.vs.length<=2^30)
  (l:iv P A.om [.agg [p9 2 ((rb t e).1.ps.map mg),p9 5 (nsR e (rb t e).1.ns)]] (.bool (yj oe (rb t e).1))):l7 P (a56 A.jl A.je A.l5 A.j2 A.jh A.jt A.jr A.j8 A.om) (ly [.cell 4 2 ah,.tmp 5] (FP t e)) s:=by
 unfold a56;rw[Qg];refine VV I b6 (by omega) λv c1 g k hP=>?_
 dsimp only
 rw[Qg];refine VU g k hP (by omega) λw r i b2 a hN=>?_
 dsimp only
 rw[Qg];refine VT A i b2 a hN c (by omega) λx j=>?_
 dsimp only
 rw[Qg];refine a1y A j c (by omega) o (λh s' E=>?_) (λh b s' E=>?_) (λh b s' R=>?_)
 ·exact TP E (by unfold Ui;rw[bc h])
 ·exact TP E (by unfold Ui;rw[aq h,bc b])
 have p:=a1z A R l
 have m:FP t e= .Bb [if yj oe (rb t e).1=ah then .agg [p9 2 ((rb t e).1.ps.map mg),p9 5 (nsR e (rb t e).1.ns)]else .agg [.cj,.cj],.int aj (if yj oe (rb t e).1=ah then 0 else 230)]:=by
  unfold FP Ui;rw[aq h,aq (by simpa using b)];by_cases q:yj oe (rb t e).1=ah
  ·rw[bc q,bc q,bc q]
  rw[aq q,aq q,aq q,HN];rfl
 rw[m];exact p
theorem KY(t:Tr)(e:G7)(c:t.ps.length<=1000)(d:t.ns.length<=999)(b:∀n∈t.ns,n.ins.length<=2^30/\n.f.vs.length<=2^30)(hs:Om (rb t e).1):iv P A.Ga [.agg (vt t),.agg (nk e)] (FP t e):=by
 refine ez A.mo A.oH (by simp) ?_;show l7 P (R5 A.jl A.je A.l5 A.j2 A.jh A.jt A.jr A.j8 A.om) (ly _ _) _;simp only[R5,vt,ki,lr,nk,qx,kh,kn,go_sem,ab,ak]
 have a:iv P A.om [.agg [p9 2 ((rb t e).1.ps.map mg),p9 5 (nsR e (rb t e).1.ns)]] (.bool (yj oe (rb t e).1)):=by
  refine(qJ A.toPr (rb t e).1 hs).args (ys:=[.agg [p9 2 ((rb t e).1.ps.map mg),p9 5 (nsR e (rb t e).1.ns)]]) rfl λi x y hx hy=>?_
  match i,hx,hy with
  |0,hx,hy=>simp at hx hy;subst hx hy;exact WkL.agg (.cons By (.cons (OK e _) .nil))
  |i+1,hx,hy=>simp at hx
 refine a27 A (t:=t) (e:=e) ?_ ?_ c d b a
 ·refine⟨rfl,?_,?_,?_,?_,?_,?_,?_,?_⟩<;>first|rfl|(simp[ar];done)|trace_state
 first|rfl|(simp[ar];done)|trace_state
end
theorem zI{α:Type}{key:α->ByteArray}{x y:α}:∀{l:List α},y∈Bd key x l->y=x\/y∈l
 |[],h=> .inl (by simpa[Bd]using h)
 |z::r,h=>by
  rw[Bd]at h;by_cases c:strLt (key x) (key z)=ah
  ·rw[bc c]at h;exact fa.1 h
  rw[aq c]at h;rcases fa.1 h with rfl|h
  ·exact .inr (by simp)
  rcases zI h with h|h
  ·exact .inl h
  exact .inr (by simp[h])
theorem JW{t:Tr}{e:G7}(p:Og t)(k:Oe e):Om (rb t e).1:=by
 obtain⟨q,r,i⟩:=p;have h:∀{n:Nd},Ur n->n.ins.length<=2^30/\n.f.vs.length<=2^30/\n.f.ls.length<=2^30/\∀l∈n.f.ls,l.length<=2^30:=λ⟨a,b,c,d⟩=>⟨d,a,b,c⟩;have base:Om t:=⟨by lia,λn g=>h (i n g)⟩;have same:∀ps,Om ⟨ps,t.ns⟩:=λps=>base;unfold rb;split
 ·split
  ·exact base
  exact same _
 split
 ·split
  ·exact same _
  exact base
 split
 ·split
  ·exact base
  exact same _
 split
 ·have o:=tu (λn:Nd=> !i6 n.n e.nd.n) t.ns;refine⟨by rw[N6];lia,λn g=>?_⟩;rcases zI g with rfl|g
  ·exact h k
  exact h (i n (ya.1 g).1)
 split
 ·split
  ·exact base
  have o:=tu (λn:Nd=> !i6 n.n e.n) t.ns
  exact⟨by show(List.filter _ _).length<=_;lia,λn g=>h (i n (ya.1 g).1)⟩
 split
 ·split
  ·exact base
  split
  ·refine⟨by rw[kW,al];lia,λn g=>?_⟩;rw[Zu]at g;obtain⟨m,j,rfl⟩:=j6.1 ((Pt Nd.n _).mem_iff.1 g);obtain⟨a,b,c,d⟩:=i m j;exact⟨by unfold Pd;rw[al];exact d,a,b,c⟩
  exact base
 split
 ·exact base
 split
 ·refine⟨by rw[al];lia,λn g=>?_⟩;obtain⟨m,j,rfl⟩:=j6.1 g;obtain⟨a,b,c,d⟩:=i m j;exact⟨d,by unfold Ox;rw[al];exact a,b,c⟩
 exact base
def vZ(t:Tr)(e:G7):Tr×Int:=if yj w8 t=ah then applyN w8 t e else(⟨[],[]⟩,230)
section
variable{P:Program}(A:Pr8 P)
theorem QF(c:Mk A.toPr w8)(t:Tr)(f:Om t)(h:∀n∈t.ns,Ur n)(e:G7)(g:Oe e):
  iv P A.Db [.agg (vt t),.agg (nk e)] (.Bb [.agg (if yj w8 t=ah then vt (applyN w8 t e).1 else[.cj,.cj]),.int aj (vZ t e).2]):=by
 have b:=jN A.toPr2 c t f;unfold vZ;by_cases a:yj w8 t=ah
 ·rw[bc a]at b;obtain⟨i,j⟩:=Uv a;have d:=tG A.toPr4 c t e ⟨i,j,h⟩ g;rw[bc a,bc a];generalize applyN w8 t e=r at d|-;refine ez A.mo A.Uc (by simp) ?_;show l7 P (Fz A.ll A.ql) (ly _ _) _;simp only[vt,ki,lr,nk,qx,kh,kn]at b d;simp only[Fz,vt,ki,lr,nk,qx,kh,kn,go_sem,ab,ak];refine gq b ?_;simp only[go_sem,ab,mj,ak,reduceCtorEq];refine ir d ?_;simp only[go_sem,ab,ak]
 rw[aq a]at b;rw[aq a,aq a];refine ez A.mo A.Uc (by simp) ?_;show l7 P (Fz A.ll A.ql) (ly _ _) _;simp only[vt,ki,lr]at b;simp only[Fz,vt,ki,lr,nk,qx,kh,kn,go_sem,ab,ak];refine gq b ?_;simp only[go_sem,ab,mj,ak,reduceCtorEq]
theorem a2o(e:G7)(a:Oe e):iv P A.I8 [.agg (nk e)] (.agg (nk e)):=by
 have b:=CQ A.toPr e.nd a.1 a.2.1 a.2.2.1;refine ez A.mo A.uW (by simp) ?_;show l7 P (Tg A.uo) (ly _ _) _;simp only[pa,qx,kh,kn]at b;simp only[Tg,nk,qx,kh,kn,go_sem,ab,ak,ao];refine gq b ?_;simp only[go_sem,ab,ak,ao]
end
end Go.PI
namespace Go.PI
open Go Go.Proofs
section
variable{P:Program}(A:Pr8 P){ρ:aed}
theorem bR(L:afc P ρ)(J:ρ.f 6=A.ia)(t:Tr)(e:G7)(j:Mid t)(u:Oe e):
  iv P A.La [.agg (vt t),.agg (nk e)] (.bool ah):=by
 have o:=QR A.toPr3 L J;have v:=WW A.toPr5 o
 have a:=qI A.toPr t ⟨by have:=j.1;lia,λn m=>by obtain⟨q1,q2,q3,q4⟩:=j.2.2 n m;exact⟨by lia,by lia⟩⟩
 obtain⟨z,q⟩:=KB A.toPr5 e u;simp only[vt,ki,lr]at a;simp only[nk,qx,kh,kn]at q;refine ez A.mo A.Tw (by simp) ?_;show l7 P (wg A.vp A.Gf A.C9 A.Db A.Ca A.om A.Ee A.I8 A.Ga) (ly _ _) _;by_cases c1:bO t=ah;rotate_left
 ·have B:bO t=false:=by simpa using c1
  rw[B]at a;simp only[wg,vt,ki,lr,nk,qx,kh,kn,go_sem,ab,ak];refine gq a ?_;simp only[go_sem,ab];refine Ic v ?_;simp only[go_sem,ab]
 rw[c1]at a
 cases z with
 |false=>
  simp only[wg,vt,ki,lr,nk,qx,kh,kn,go_sem,ab,ak];refine gq a ?_;simp only[go_sem,ab,ak];refine gq q ?_;simp only[go_sem,ab];refine Ic v ?_;simp only[go_sem,ab]
 |true=>
 have K:t.ns.length<=25:=by
  unfold bO at c1;simp only[dc,decide_eq_true_eq]at c1;exact c1.1
 have w:Om t:=⟨by lia,λn m=>by obtain⟨q1,q2,q3,q4⟩:=j.2.2 n m;exact⟨q4,q1,q2,q3⟩⟩;have g:=KL A.toPr t (by have:=j.1;lia) w;have c:=qJ A.toPr t w;have d:=QF A o t w j.2.2 e u;simp only[vt,ki,lr]at g c;simp only[vt,ki,lr,nk,qx,kh,kn]at d;by_cases s:yj oe t=ah;rotate_left
 ·have C:yj oe t=false:=by simpa using s
  have E:oe=w8:=funext λls=>(jY ls).symm
  have h:¬yj w8 t=true:=by rw[<-E];exact s
  unfold vZ at d;rw[aq h,aq h]at d;rw[C]at c
  have b:=(Zb A.toPr ⟨[],[]⟩ (by simp) ⟨by simp,by simp⟩).args (ys:=[.agg [.cj,.cj],.agg [.cj,.cj]]) rfl λi x y hx hy=>by
   match i,hx,hy with
   |0,hx,hy=>simp at hx hy;subst hx hy;exact WkL.agg (.cons Wk.cj (.cons Wk.cj .nil))
   |1,hx,hy=>simp at hx hy;subst hx hy;exact WkL.agg (.cons Wk.cj (.cons Wk.cj .nil))
   |i+2,hx,hy=>simp at hx
  simp only[wg,vt,ki,lr,nk,qx,kh,kn,go_sem,ab,ak];refine gq a ?_;simp only[go_sem,ab,ak];refine gq q ?_;simp only[go_sem,ab,ak];refine ir d ?_;simp only[go_sem,ab,ak];refine gq g ?_;simp only[go_sem,ab];refine gq c ?_;simp only[go_sem,ab,Bz,ak,reduceCtorEq];refine ir b ?_;simp only[go_sem,ab];refine Ic v ?_;simp only[go_sem,ab]
 rw[s]at c;have h:=BY (λls=>jQ) s;obtain⟨M,N⟩:=Uv h;have I:Og t:=⟨M,N,j.2.2⟩;have l:=JW I u;have D:=KY A t e (by lia) (by lia) (λn m=>by obtain⟨q1,q2,q3,q4⟩:=j.2.2 n m;exact⟨q4,q1⟩) l;have k:=a2o A e u;have F:=LI h e;unfold vZ at d;rw[bc h,bc h]at d
 have p:Om (Ui t e).1/\(Ui t e).1.ps.length<=2^50:=by
  unfold Ui;split
  ·exact⟨⟨by simp,by simp⟩,by simp⟩
  split
  ·exact⟨⟨by simp,by simp⟩,by simp⟩
  split
  ·rename_i H;refine⟨l,?_⟩;have E:oe=w8:=funext λls=>(jY ls).symm;rw[E]at H;obtain⟨O,_⟩:=Uv H;show(rb t e).1.ps.length<=_;lia
  exact⟨⟨by simp,by simp⟩,by simp⟩
 rw[<-F]at d
 have b:=(Zb A.toPr (Ui t e).1 p.2 p.1).args (ys:=[.agg (vt (Ui t e).1),.agg [p9 2 ((Ui t e).1.ps.map mg),p9 5 (nsR e (Ui t e).1.ns)]]) rfl λi x y hx hy=>by
  match i,hx,hy with
  |0,hx,hy=>simp at hx hy;subst hx hy;exact Wk.refl _
  |1,hx,hy=>simp at hx hy;subst hx hy;exact WkL.agg (.cons By (.cons (OK e _) .nil))
  |i+2,hx,hy=>simp at hx
 simp only[FP,vt,ki,lr,nk,qx,kh,kn]at D k b d
 generalize nsR e (Ui t e).1.ns=G at*
 generalize Ui t e=r at*
 rcases Wr 2 (r.1.ps.map mg)with ⟨_,w1⟩|⟨_,w1⟩<;>rcases Wr 5 G with ⟨_,w2⟩|⟨_,w2⟩<;>rw[w1,w2]at D b
 all_goals
  simp only[wg,vt,ki,lr,nk,qx,kh,kn,go_sem,ab,ak];refine gq a ?_;simp only[go_sem,ab,ak];refine gq q ?_;simp only[go_sem,ab,ak];refine ir d ?_;simp only[go_sem,ab,ak];refine gq g ?_;simp only[go_sem,ab];refine gq c ?_;simp only[go_sem,ab,ak];refine gq g ?_;simp only[go_sem,ab,ak];refine gq k ?_;simp only[go_sem,ab];refine ir D ?_;simp only[go_sem,ab,ak,reduceCtorEq,ff];refine ir b ?_;simp only[go_sem,ab];refine Ic v ?_;simp only[go_sem,ab]
end
end Go.PI
namespace Go.PI
def GW(w:World):ix:=⟨λb o=>w.cell? ⟨b,o,ae⟩,λb=>match w.heap[b]? with
 |some (.map ents _)=>aa (ents.toList.map λe=>(e.key,e.val))
 |_=>ae⟩
theorem a8h(w:World):GOk (GW w) w:=by
 refine⟨λb o v h=>h,λb es h=>?_⟩;simp only[GW]at h;split at h
 ·rename_i ents clock a
  injection h with h
  exact⟨ents,clock,a,h⟩
 cases h
structure Mu{H:Type}(μ:DataW H->Nat):Prop where
 len:∀elems spare,elems.length<=μ (.slice elems spare)
 el:∀elems spare d,d∈elems->μ d<=μ (.slice elems spare)
 part:∀parts d,d∈parts->μ d<=μ (.agg parts)
def Oh(G:ix)(ds:List D)(cs:List Value):Prop:=ds.length=cs.length/\∀(i:Nat) (x:D) (v:Value),ds[i]? =aa x->cs[i]? =aa v->iz G x v
theorem Oh.append{G:ix}{a b:List D}{c d:List Value}(h:Oh G a c)(k:Oh G b d):Oh G (a++b) (c++d):=by
 refine⟨by simp[h.1,k.1],λi x v hx e=>?_⟩;by_cases f:i<a.length
 ·rw[kq f]at hx;rw[kq (by rw[<-h.1];exact f)]at e;exact h.2 i x v hx e
 rw[l9 (by lia)]at hx;rw[l9 (by rw[<-h.1];lia),<-h.1]at e;exact k.2 _ x v hx e
theorem Oh.agg{G:ix}{ds:List D}{cs:Array Value}(h:Oh G ds cs.toList):iz G (.agg ds) (.agg cs):=
 .agg (by have:=h.1;simp at this;lia) λi x v hx a=>h.2 i x v hx (by simpa using a)
theorem qN{α:Type}{Q:Nat->α->Prop}:∀n:Nat,(∀i,i<n->∃a,Q i a)->∃l:List α,l.length=n/\∀i a,l[i]? =aa a->Q i a
 |0,_=>⟨[],rfl,λi a h=>by simp at h⟩
 |n+1,h=>by
  obtain⟨l,d,e⟩:=qN n (λi c=>h i (by lia));obtain⟨a,f⟩:=h n (by lia);refine⟨l++[a],by simp[d],λi b hb=>?_⟩;by_cases c:i<l.length
  ·rw[kq c]at hb;exact e i b hb
  rw[l9 (by lia)]at hb
  have:i-l.length=0:=by
   have:=(bd.1 hb).1;simp at this;lia
  rw[this]at hb;simp at hb;subst hb;rw[show i=n by lia];exact f
section
variable{H:Type}(enc:TypeId×Value->H)(P:Program)(w:World)(μ:DataW H->Nat)
def Rd{α:Type}(t:TypeId)(S:α->List D)(B:α->Nat->Prop):Prop:=
 ∀(fuel:Nat) (cs:List Value) (x:DataW H×List MemPlace),DataW.trod enc P w 0 (λ_=>ah) ah fuel t cs=aa x->∃a,Oh (GW w) (S a) cs/\∀m,μ x.1<=m->B a m
def RdF{α:Type}(fs:List (TypeId×Nat))(o W:Nat)(S:α->List D)(B:α->Nat->Prop):Prop:=
 ∀(fuel:Nat) (cs:List Value) (xs:List (DataW H×List MemPlace)),xs.length=fs.length->(∀(i:Nat) (f:TypeId×Nat),fs[i]? =aa f->DataW.trod enc P w 0 (λ_=>ah) ah fuel f.1 ((cs.drop f.2).take (P.cellsOf f.1))=xs[i]?)->
  ∃a,Oh (GW w) (S a) ((cs.drop o).take W)/\∀m,(∀y∈xs,μ y.1<=m)->B a m
variable{enc P w μ}
theorem Rd.int{t:TypeId}{k:IntKind}(b:P.underlying t=aa (.int k)):Rd enc P w μ t (λn:Int=>[.int k n]) (λ_ _=>True):=by
 intro fuel cs x h;obtain⟨n,rfl,_,_⟩:=DataW.trod_int b h;refine⟨n,⟨rfl,λi x v hx a=>?_⟩,λ_ _=>trivial⟩
 cases i with
 |zero=>simp at hx a;subst hx a;exact .int
 |succ i=>simp at hx
theorem Rd.str{t:TypeId}(b:P.underlying t=aa .string):Rd enc P w μ t (λn:ByteArray=>[.str n]) (λ_ _=>True):=by
 intro fuel cs x h;obtain⟨n,rfl,_,_⟩:=DataW.trod_string b h;refine⟨n,⟨rfl,λi x v hx a=>?_⟩,λ_ _=>trivial⟩
 cases i with
 |zero=>simp at hx a;subst hx a;exact .str
 |succ i=>simp at hx
theorem Rd.conv{α β:Type}{t:TypeId}{S:α->List D}{B:α->Nat->Prop}{c:β->List D}{b:β->Nat->Prop}(h:Rd enc P w μ t S B)(g:α->β)(i:∀a,c (g a)=S a)(f:∀a m,B a m->b (g a) m):Rd enc P w μ t c b:=by
 intro fuel cs x hx;obtain⟨a,d,e⟩:=h fuel cs x hx;exact⟨g a,by rw[i];exact d,λm j=>f a m (e m j)⟩
theorem RdF.nil{o:Nat}:RdF enc P w μ [] o 0 (λ_:Unit=>[]) (λ_ _=>True):=by
 intro fuel cs xs a h;exact⟨(),⟨by simp,λi x v hx=>by simp at hx⟩,λ_ _=>trivial⟩
theorem RdF.cons{α β:Type}{t:TypeId}{fs:List (TypeId×Nat)}{o k W:Nat}{e:α->List D}{c:α->Nat->Prop}{f:β->List D}{d:β->Nat->Prop}(v:P.cellsOf t=k)(r:Rd enc P w μ t e c)(s:RdF enc P w μ fs (o+k) W f d):
  RdF enc P w μ ((t,o)::fs) o (k+W) (λp:α×β=>e p.1++f p.2) (λp m=>c p.1 m/\d p.2 m):=by
 intro fuel cs xs j h
 cases xs with
 |nil=>simp at j
 |cons x xs=>
  have e0:=h 0 (t,o) rfl;simp only[v]at e0;obtain⟨a,a1,n⟩:=r _ _ _ e0
  obtain⟨b,q,b2⟩:=s fuel cs xs (by simpa using j) λi g u=>by simpa using h (i+1) g (by simpa using u)
  refine⟨(a,b),?_,λm l=>⟨n m (l x (by simp)),b2 m λy hy=>l y (by simp[hy])⟩⟩
  have:(cs.drop o).take (k+W)=(cs.drop o).take k++(cs.drop (o+k)).take W:=by
   rw[List.take_add,JF]
  rw[this];exact a1.append q
theorem Rd.struct{α:Type}{t:TypeId}{fs:Array Field}{l:List (TypeId×Nat)}{W:Nat}{S:α->List D}{B:α->Nat->Prop}(r:Mu μ)(q:P.underlying t=aa (.struct fs))(b:fs.toList.map (λf=>(f.type,f.offset))=l)(s:P.cellsOf t=W)(h:RdF enc P w μ l 0 W S B):Rd enc P w μ t S B:=by
 intro fuel cs x hx;obtain⟨xs,n,rfl,rfl,u,p,j⟩:=DataW.trod_struct q hx
 obtain⟨a,c,e⟩:=h n cs xs (by rw[<-b];simpa using p) λi f d=>by
  rw[<-b,dn,ax]at d;obtain⟨g,k,rfl⟩:=d;exact j i g (by simpa using k)
 refine⟨a,?_,λm o=>e m λy hy=>jg (r.part _ _ (j6.2 ⟨y,hy,rfl⟩)) o⟩;rw[wK,D0 (by lia)]at c;exact c
theorem Rd.array{α:Type}{t e:TypeId}{n W:Nat}{l:List (TypeId×Nat)}{S:α->List D}{B:α->Nat->Prop}(u:Mu μ)(s:P.underlying t=aa (.array n e))(k:(fc n).map (λi=>(e,i*P.cellsOf e))=l)(z:P.cellsOf t=W)(h:RdF enc P w μ l 0 W S B):Rd enc P w μ t S B:=by
 intro fuel cs x hx;obtain⟨xs,m,rfl,rfl,v,r,p⟩:=DataW.trod_array s hx
 obtain⟨a,d,o⟩:=h m cs xs (by rw[<-k];simpa using r) λi f j=>by
  rw[<-k,dn,ax]at j;obtain⟨g,c,rfl⟩:=j;have b:=(bd.1 c).1;rw[a8u]at b;rw[Nk b]at c
  injection c with c
  subst c;exact p i b
 refine⟨a,?_,λm q=>o m λy hy=>jg (u.part _ _ (j6.2 ⟨y,hy,rfl⟩)) q⟩;rw[wK,D0 (by lia)]at d;exact d
theorem a0m{b o i j:Nat}:((⟨b,o,ae⟩:Addr).add i).add j=⟨b,o+i+j,ae⟩:=by
 unfold Addr.add;by_cases a:i=0<;>by_cases c:j=0<;>simp[a,c]
theorem Rd.slice{α:Type}{t e:TypeId}{sz:Nat}{S:α->List D}{B:α->Nat->Prop}(N:Mu μ)(W:P.underlying t=aa (.slice e))(U:P.cellsOf e=sz)(hz:0<sz)(K:∀a,(S a).length=sz)(p:Rd enc P w μ e S B):
  Rd enc P w μ t (λl:List α=>[.gd sz (l.map S)]) (λl m=>l.length<=m/\∀a∈l,B a m):=by
 intro fuel cs x hx;rcases DataW.trod_slice W hx with ⟨rfl,rfl⟩|⟨a,len,cap,g,A,n,rfl,rfl,rfl,hb,Z,y,L,s,_,_⟩
 ·refine⟨[],⟨rfl,λi x v hx h=>?_⟩,λm _=>⟨by simp,by simp⟩⟩
  cases i with
  |zero=>simp at hx h;subst hx h;exact .Y3
  |succ i=>simp at hx
 rw[U]at s
 obtain⟨l,Y,I⟩:=qN (Q:=λi (b:α)=>∃f,w.cells? 0 (a.add (i*sz)) sz=aa f/\Oh (GW w) (S b) f/\∀m,(∀d∈g.map (·.1),μ d<=m)->B b m) len λi r=>by
  have J:=s i r;rw[bh (by lia)]at J;obtain⟨f,c1,C⟩:=BS.1 J;obtain⟨b,R,b2⟩:=p _ _ _ C;exact⟨b,f,c1,R,λm y=>b2 m (y _ (j6.2 ⟨_,dj (by lia),rfl⟩))⟩
 refine⟨l,⟨rfl,λi x v hx h=>?_⟩,λm y=>⟨?_,λb hb=>?_⟩⟩
 ·cases i with
  |succ i=>simp at hx
  |zero=>
   simp at hx h;subst hx h;by_cases T:len=0
   ·have:l=[]:=jf (by lia);subst this T;exact .bN
   obtain⟨f,c1,C,_⟩:=I 0 (l[0]'(by lia)) (bh (by lia));obtain⟨_,d1,d2⟩:=World.cells?_some c1
   have z:a.spot=none:=by
    have:=d2 0 hz;rw[bh (by lia)]at this
    have e0:(a.add (0*sz)).add 0=a:=by simp[Addr.add]
    rw[e0]at this;unfold aet at this;split at this
    ·split at this
     ·cases this
     rename_i hs;simpa using hs
    cases this
   obtain⟨b,o,sp⟩:=a;simp only at z;subst z
   have cell:∀i j,i<len->j<sz->∃f,Oh (GW w) (S (l.getD i (l[0]'(by lia)))) f/\f.length=sz/\(GW w).cv b (o+i*sz+j)=f[j]? :=by
    intro i j r u;obtain⟨f,c1,C,_⟩:=I i (l.getD i (l[0]'(by lia))) (by simp[cz,show i<l.length by lia]);obtain⟨_,d1,d2⟩:=World.cells?_some c1;refine⟨f,C,d1,?_⟩;have:=d2 j u;rw[a0m]at this;exact this
   have:=iz.gd (G:=GW w) (sz:=sz) (l:=l.map S) (b:=b) (o:=o) (c:=cap) (by simp;lia) (λi e p=>by
    simp only[dn,ax]at p;obtain⟨q,_,rfl⟩:=p
    exact K q) (λi j r u=>by
    obtain⟨f,_,X,F⟩:=cell i j (by simp at r;lia) u;rw[F,bh (by lia)]
    rfl) (λi e j x v p hx h=>by
    simp only[dn,ax]at p;obtain⟨q,M,rfl⟩:=p;have r:i<l.length:=(bd.1 M).1
    have u:j<sz:=by
     have:=(bd.1 hx).1;rw[K]at this;exact this
    obtain⟨f,O,X,F⟩:=cell i j (by lia) u
    have E:l.getD i (l[0]'(by lia))=q:=by simp[cz,M]
    rw[E]at O;rw[F]at h
    exact O.2 j x v hx h)
   rw[al,Y]at this;exact this
 ·have:=N.len (g.map (·.1)) (A.map (·.1));simp only[al]at this;simp only at y;lia
 obtain⟨i,r⟩:=adf hb;obtain⟨_,_,_,k⟩:=I i b r;exact k m λd V=>jg (N.el _ _ d V) y
end
end Go.PI
namespace Go.PI
open Go Go.ChangeShapes Go.WideShapes Go.RowKit Go.WideElems
section
variable{H:Type}{enc:TypeId×Value->H}{P:Program}
theorem Xa(c:laidOutB P=ah){W a:World}(hb:Below W.heap.size W a):
  ∀{ts:List TypeId} {vs:List Value} {ds:List (DataW H)} {ps:List MemPlace},(∀t∈ts,P.readableRec t=ah/\t<P.types.size)->DataW.TrodAll enc P W 0 (λ_=>ah) ah ts vs ds ps->(∀p∈ps,p.block<W.heap.size)->DataW.TrodAll enc P a 0 (λb=>decide (b<W.heap.size)) ah ts vs ds ps
 |[],[],[],_,_,h,_=>h
 |[],[],_::_,_,_,h,_=>h.elim
 |[],_::_,_,_,_,h,_=>h.elim
 |_::_,[],_,_,_,h,_=>h.elim
 |_::_,_::_,[],_,_,h,_=>h.elim
 |t::ts,v::vs,d::ds,ps,ht,h,hp=>by
  obtain⟨p,q,⟨n,f⟩,g,rfl⟩:=h;obtain⟨e,j⟩:=ht t (by simp);refine⟨p,q,⟨n,?_⟩,Xa c hb (λu i=>ht u (by simp[i])) g λx hx=>hp x (by simp[hx]),rfl⟩;exact DataW.trod_stays (kids_book c e) (book_sized e) (λh=>by cases h) ⟨j,book_self t⟩ f (λx hx=>hb.same (hp x (by simp[hx]))) (λx hx=>by simpa using hp x (by simp[hx]))
theorem MH{f:Nat}{c:Func}{s:ChangeSpec}{W:World}{args:Array Value}{ds gs:List (DataW H)}{a:List MemPlace}{tb:TypeId}{xs:List D}
  (y:laidOutB P=ah)(m:∀t∈c.params.toList,P.readableRec t=ah/\t<P.types.size)(A:c.resultTypes= #[tb])(hb:P.underlying tb=aa .bool)(b:s.vars=[])
  (j:(s.fn H (ds++gs)).results=[.lit (.bool ah)])(k:(s.fn H (ds++gs)).args=ds)(l:(s.fn H (ds++gs)).vars=[])
  (d:DataW.Whole enc P c.params.toList s.vars ag W args.toList ds gs a)(z:iv P f xs (.bool ah))(hx:args.size=xs.length)(w:∀(i:Nat) (x:D) (v:Value),xs[i]? =aa x->args[i]? =aa v->iz (GW W) x v):
  Calls P f args W λe n=>∃v,e= .returned v/\s.post enc P c ag ah ag ag W args v n:=by
 refine(z.2 (GW W) W args (a8h W) hx w).mono ?_;rintro e n ⟨v,G',rfl,_,_,_,o,B⟩;cases B;have g:=d;obtain⟨p,q,u,r,rfl,_,_⟩:=g;have C:=d.lt;rw[b]at r;obtain⟨rfl,rfl⟩:=trodVars_none r;refine⟨_,rfl,ds,[],p++[],[],p,[],d,?_,?_,?_,o.toBelow.frame _,λh=>by cases h⟩
 ·rw[A,j];exact trodAll_mk1 (shut_bool hb ah)
 ·rw[k];exact Xa y o.toBelow m u λx hx=>C x (by simpa using hx)
 rw[l,b];rfl
end
end Go.PI
namespace Go.Proofs.YtjhpceooekjbfaaGreatDoor
open Go Go.PI
def ftB(f:Ft)(m:Nat):Prop:=f.vs.length<=m/\f.ls.length<=m/\∀q∈f.ls,q.length<=m
def ndB(n:Nd)(m:Nat):Prop:=ftB n.f m/\n.ins.length<=m
def trB(t:Tr)(m:Nat):Prop:=t.ps.length<=m/\t.ns.length<=m/\∀n∈t.ns,ndB n m
section
variable{H:Type}{enc:TypeId×Value->H}{w:World}{μ:DataW H->Nat}
theorem rd2:Rd enc Tryz.prog w μ 2 (λn:Int=>[.int .i64 n]) (λ_ _=>True):=
 Rd.int Tryz.underlying2
theorem rd3:Rd enc Tryz.prog w μ 3 (λn:Int=>[.int .i64 n]) (λ_ _=>True):=
 Rd.int Tryz.underlying3
theorem a9m:Rd enc Tryz.prog w μ 26 (λn:Int=>[.int .i64 n]) (λ_ _=>True):=
 Rd.int Tryz.underlying26
theorem rd9:Rd enc Tryz.prog w μ 9 (λn:ByteArray=>[.str n]) (λ_ _=>True):=
 Rd.str Tryz.underlying9
theorem a9f(a:Mu μ):Rd enc Tryz.prog w μ 70 mg (λ_ _=>True):=
 Rd.conv (Rd.struct a Tryz.underlying70 (l:=[(9,0),(2,1)]) (by kernel_rfl) (by kernel_rfl) (RdF.cons (k:=1) (by kernel_rfl) (rd9) (RdF.cons (k:=1) (by kernel_rfl) (rd2) RdF.nil))) (λp=>⟨p.1,p.2.1⟩) (λ_=>rfl) (λ_ _ _=>trivial)
theorem a9e(a:Mu μ):Rd enc Tryz.prog w μ 98 B4 (λ_ _=>True):=
 Rd.conv (Rd.struct a Tryz.underlying98 (l:=[(9,0),(2,1),(2,2)]) (by kernel_rfl) (by kernel_rfl) (RdF.cons (k:=1) (by kernel_rfl) (rd9) (RdF.cons (k:=1) (by kernel_rfl) (rd2) (RdF.cons (k:=1) (by kernel_rfl) (rd2) RdF.nil)))) (λp=>⟨p.1,p.2.1,p.2.2.1⟩) (λ_=>rfl) (λ_ _ _=>trivial)
theorem a6c(a:Mu μ):Rd enc Tryz.prog w μ 166 Ci (λ_ _=>True):=
 Rd.conv (Rd.array a Tryz.underlying166 (l:=[(2,0),(2,1)]) (by kernel_rfl) (by kernel_rfl) (RdF.cons (k:=1) (by kernel_rfl) (rd2) (RdF.cons (k:=1) (by kernel_rfl) (rd2) RdF.nil))) (λp=>(p.1,p.2.1)) (λ_=>rfl) (λ_ _ _=>trivial)
theorem a6d(a:Mu μ):Rd enc Tryz.prog w μ 130 (λl:List Sp=>[uu l]) (λl m=>l.length<=m):=
 Rd.conv (Rd.slice a Tryz.underlying130 (sz:=2) (by kernel_rfl) (by decide) (λ_=>rfl) (a6c a)) (λl=>l) (λ_=>rfl) (λ_ _ h=>h.1)
theorem a9k(a:Mu μ):Rd enc Tryz.prog w μ 28 (λl:List (List Sp)=>[kh l]) (λl m=>l.length<=m/\∀q∈l,q.length<=m):=
 Rd.conv (Rd.slice a Tryz.underlying28 (sz:=1) (by kernel_rfl) (by decide) (λ_=>rfl) (a6d a)) (λl=>l) (λ_=>rfl) (λ_ _ h=>h)
theorem a9j(a:Mu μ):Rd enc Tryz.prog w μ 30 (λl:List (List Sp)=>[kh l]) (λl m=>l.length<=m/\∀q∈l,q.length<=m):=
 Rd.conv (Rd.struct a Tryz.underlying30 (l:=[(28,0)]) (by kernel_rfl) (by kernel_rfl) (RdF.cons (k:=1) (by kernel_rfl) (a9k a) RdF.nil)) (λp=>p.1) (λ_=>rfl) (λ_ _ h=>h.1)
theorem a9l(a:Mu μ):Rd enc Tryz.prog w μ 27 (λl:List Vl=>[qx l]) (λl m=>l.length<=m):=
 Rd.conv (Rd.slice a Tryz.underlying27 (sz:=3) (by kernel_rfl) (by decide) (λ_=>rfl) (a9e a)) (λl=>l) (λ_=>rfl) (λ_ _ h=>h.1)
theorem a9p(a:Mu μ):Rd enc Tryz.prog w μ 22 (λl:List Pm=>[ki l]) (λl m=>l.length<=m):=
 Rd.conv (Rd.slice a Tryz.underlying22 (sz:=2) (by kernel_rfl) (by decide) (λ_=>rfl) (a9f a)) (λl=>l) (λ_=>rfl) (λ_ _ h=>h.1)
theorem a9h(a:Mu μ):Rd enc Tryz.prog w μ 33 (λl:List ByteArray=>[kn l]) (λl m=>l.length<=m):=
 Rd.conv (Rd.slice a Tryz.underlying33 (sz:=1) (by kernel_rfl) (by decide) (λ_=>rfl) (rd9)) (λl=>l) (λ_=>rfl) (λ_ _ h=>h.1)
theorem a9i(a:Mu μ):Rd enc Tryz.prog w μ 32 cFt ftB:=
 Rd.conv (Rd.struct a Tryz.underlying32 (l:=[(26,0),(27,1),(30,2)]) (by kernel_rfl) (by kernel_rfl) (RdF.cons (k:=1) (by kernel_rfl) (a9m) (RdF.cons (k:=1) (by kernel_rfl) (a9l a) (RdF.cons (k:=1) (by kernel_rfl) (a9j a) RdF.nil)))) (λp=>⟨p.1,p.2.1,p.2.2.1⟩) (λ_=>rfl) (λ_ _ h=>⟨h.2.1,h.2.2.1⟩)
theorem a6b(a:Mu μ):Rd enc Tryz.prog w μ 35 pa ndB:=
 Rd.conv (Rd.struct a Tryz.underlying35 (l:=[(9,0),(32,1),(33,4)]) (by kernel_rfl) (by kernel_rfl) (RdF.cons (k:=1) (by kernel_rfl) (rd9) (RdF.cons (k:=3) (by kernel_rfl) (a9i a) (RdF.cons (k:=1) (by kernel_rfl) (a9h a) RdF.nil)))) (λp=>⟨p.1,p.2.1,p.2.2.1⟩) (λ_=>rfl) (λ_ _ h=>⟨h.2.1,h.2.2.1⟩)
theorem a9o(a:Mu μ):Rd enc Tryz.prog w μ 23 (λl:List Nd=>[lr l]) (λl m=>l.length<=m/\∀n∈l,ndB n m):=
 Rd.conv (Rd.slice a Tryz.underlying23 (sz:=5) (by kernel_rfl) (by decide) (λ_=>rfl) (a6b a)) (λl=>l) (λ_=>rfl) (λ_ _ h=>h)
theorem a9n(a:Mu μ):Rd enc Tryz.prog w μ 25 vt trB:=
 Rd.conv (Rd.struct a Tryz.underlying25 (l:=[(22,0),(23,1)]) (by kernel_rfl) (by kernel_rfl) (RdF.cons (k:=1) (by kernel_rfl) (a9p a) (RdF.cons (k:=1) (by kernel_rfl) (a9o a) RdF.nil))) (λp=>⟨p.1,p.2.1⟩) (λ_=>rfl) (λ_ _ h=>⟨h.1,h.2.1.1,h.2.1.2⟩)
theorem a9g(a:Mu μ):Rd enc Tryz.prog w μ 37 nk (λe m=>ndB e.nd m):=
 Rd.conv (Rd.struct a Tryz.underlying37 (l:=[(3,0),(9,1),(9,2),(2,3),(35,4)]) (by kernel_rfl) (by kernel_rfl) (RdF.cons (k:=1) (by kernel_rfl) (rd3) (RdF.cons (k:=1) (by kernel_rfl) (rd9) (RdF.cons (k:=1) (by kernel_rfl) (rd9) (RdF.cons (k:=1) (by kernel_rfl) (rd2) (RdF.cons (k:=5) (by kernel_rfl) (a6b a) RdF.nil)))))) (λp=>⟨p.1,p.2.1,p.2.2.1,p.2.2.2.1,p.2.2.2.2.1⟩) (λ_=>rfl) (λ_ _ h=>h.2.2.2.2.1)
end
end Go.Proofs.YtjhpceooekjbfaaGreatDoor
namespace Go.Proofs
open Go.Shelf
def Tryz.l6_ren:Go.Shelf.Ren:=⟨λ|6=>317|15=>320|14=>390|28=>399|29=>400|20=>457|21=>458|22=>459|23=>460|24=>461|25=>462|26=>463|27=>464|46=>513|47=>466|48=>467|49=>514|50=>515|57=>540|n=>n,λ|22=>28|24=>130|25=>443|3=>3|39=>325|0=>0|53=>547|55=>272|4=>4|46=>541|45=>540|50=>452|5=>5|9=>9|66=>618|70=>622|76=>658|77=>72|n=>n,λ|n=>n⟩
theorem Tryz.l6:Go.Proofs.SlLaysF.n6 Tryz.prog Tryz.l6_ren:={
 mixed:=by kernel_rfl
 f6:=⟨Tryz.f317.name,by decide,Tryz.func317.trans (congrArg some (by kernel_rfl))⟩
 f14:=⟨Tryz.f390.name,by decide,Tryz.func390.trans (congrArg some (by kernel_rfl))⟩
 f15:=Tryz.func320.trans (congrArg some (by kernel_rfl))
 f20:=⟨Tryz.f457.name,by decide,Tryz.func457.trans (congrArg some (by kernel_rfl))⟩
 f21:=⟨Tryz.f458.name,by decide,Tryz.func458.trans (congrArg some (by kernel_rfl))⟩
 f22:=⟨Tryz.f459.name,by decide,Tryz.func459.trans (congrArg some (by kernel_rfl))⟩
 f23:=⟨Tryz.f460.name,by decide,Tryz.func460.trans (congrArg some (by kernel_rfl))⟩
 f24:=⟨Tryz.f461.name,by decide,Tryz.func461.trans (congrArg some (by kernel_rfl))⟩
 f25:=⟨Tryz.f462.name,by decide,Tryz.func462.trans (congrArg some (by kernel_rfl))⟩
 f26:=⟨Tryz.f463.name,by decide,Tryz.func463.trans (congrArg some (by kernel_rfl))⟩
 f27:=⟨Tryz.f464.name,by decide,Tryz.func464.trans (congrArg some (by kernel_rfl))⟩
 f28:=Tryz.func399.trans (congrArg some (by kernel_rfl))
 f29:=Tryz.func400.trans (congrArg some (by kernel_rfl))
 f46:=⟨Tryz.f513.name,by decide,Tryz.func513.trans (congrArg some (by kernel_rfl))⟩
 f47:=Tryz.func466.trans (congrArg some (by kernel_rfl))
 f48:=Tryz.func467.trans (congrArg some (by kernel_rfl))
 f49:=⟨Tryz.f514.name,by decide,Tryz.func514.trans (congrArg some (by kernel_rfl))⟩
 f50:=⟨Tryz.f515.name,by decide,Tryz.func515.trans (congrArg some (by kernel_rfl))⟩
 f57:=⟨Tryz.f540.name,by decide,Tryz.func540.trans (congrArg some (by kernel_rfl))⟩
 t0:=Tryz.underlying0
 a0:=Tryz.isAgg0
 z0:=Tryz.sizeOf0
 v0:=Tryz.zeroValue0
 t3:=Tryz.underlying3
 a3:=Tryz.isAgg3
 z3:=Tryz.sizeOf3
 v3:=Tryz.zeroValue3
 t4:=Tryz.underlying4
 a4:=Tryz.isAgg4
 z4:=Tryz.sizeOf4
 v4:=Tryz.zeroValue4
 t5:=Tryz.underlying5
 a5:=Tryz.isAgg5
 z5:=Tryz.sizeOf5
 v5:=Tryz.zeroValue5
 t9:=Tryz.underlying9
 a9:=Tryz.isAgg9
 z9:=Tryz.sizeOf9
 v9:=Tryz.zeroValue9
 t22:=Tryz.underlying28
 a22:=Tryz.isAgg28
 z22:=Tryz.sizeOf28
 v22:=Tryz.zeroValue28
 a24:=Tryz.isAgg130
 z24:=Tryz.sizeOf130
 t25:=Tryz.underlying443
 a25:=Tryz.isAgg443
 z25:=Tryz.sizeOf443
 v25:=Tryz.zeroValue443
 t39:=Tryz.underlying325
 a39:=Tryz.isAgg325
 z39:=Tryz.sizeOf325
 v39:=Tryz.zeroValue325
 t45:=Tryz.underlying540
 a45:=Tryz.isAgg540
 z45:=Tryz.sizeOf540
 v45:=Tryz.zeroValue540
 t46:=Tryz.underlying541
 a46:=Tryz.isAgg541
 z46:=Tryz.sizeOf541
 v46:=Tryz.zeroValue541
 t50:=Tryz.underlying452
 a50:=Tryz.isAgg452
 z50:=Tryz.sizeOf452
 v50:=Tryz.zeroValue452
 t53:=Tryz.underlying547
 a53:=Tryz.isAgg547
 z53:=Tryz.sizeOf547
 v53:=Tryz.zeroValue547
 t55:=Tryz.underlying272
 a55:=Tryz.isAgg272
 z55:=Tryz.sizeOf272
 v55:=Tryz.zeroValue272
 t66:=Tryz.underlying618
 a66:=Tryz.isAgg618
 z66:=Tryz.sizeOf618
 v66:=Tryz.zeroValue618
 t70:=Tryz.underlying622
 a70:=Tryz.isAgg622
 z70:=Tryz.sizeOf622
 v70:=Tryz.zeroValue622
 t76:=Tryz.underlying658
 a76:=Tryz.isAgg658
 z76:=Tryz.sizeOf658
 v76:=Tryz.zeroValue658
 t77:=Tryz.underlying72
 a77:=Tryz.isAgg72
 z77:=Tryz.sizeOf72
 v77:=Tryz.zeroValue72}
end Go.Proofs
