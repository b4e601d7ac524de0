/- A part of the proof for HistoryApplies: F12 to F42. Printed from longer texts. -/
import Derived.Test.YtjhpceooekjbfaaGreatDoorC
import Derived.Shelf.SlSortCmp.NoneTotal
set_option linter.all false
set_option maxHeartbeats 64000000
open Array renaming eq_empty_of_size_eq_zero->Yy,getElem?_append->Io,getElem?_append_left->Bn,getElem?_eq_getElem->bz,getElem?_eq_some_iff->la,getElem?_extract->gC,getElem?_modify->Em,getElem_toList->sL,length_toList->x9,size_append->Xw
open Bool renaming and_eq_true->dc,and_false->sf,and_self->Iq,and_true->Ip,eq_iff_iff->Uh,false->ag,false_and->fh,false_eq_true->gp,false_or->C0,not_eq_true'->ot,not_false->Mz,not_true->a8s,or_eq_false_iff->K4,or_eq_true->Oi,or_false->R0,or_true->adn,true->ah,true_and->rv,true_or->D1
open Go.IntKind renaming i64->aj,wrap->Qy
open Go.Op renaming bytesLess->Ws
open Go.Proofs renaming sortWorld->gA
open Go.Proofs.SlLaysF renaming n6->afc
open Go.Shelf renaming Ren->aed
open Go.Sort renaming grow->aer,mapBlock->sI,putCells->Dx
open Go.World renaming cell?->aet
open Int renaming add_zero->JI,natCast_add->mu,natCast_nonneg->aw,natCast_zero->fZ,reduceBEq->Bz,reduceBNe->mj,reduceLE->ft,reduceLT->dw,reduceNeg->cu,reduceSub->adw,reduceToNat->fk
open List renaming all_cons->X8,all_eq_false->iJ,all_eq_true->dg,any_cons->a8q,any_eq_false->wL,any_eq_not_all_not->BT,any_eq_true->Bm,append_assoc->uy,append_nil->pt,cons_append->qc,drop->afk,drop_drop->JF,drop_eq_getElem_cons->jx,drop_eq_nil_of_le->Oo,drop_length->Qa,eq_nil_of_length_eq_zero->jf,exists_cons_of_ne_nil->a5m,ext_getElem->Xt,filter_append->Jy,filter_cons->Bl,filter_eq_self->Qx,find?_eq_none->Yw,find?_eq_some_iff_append->bI,flatten_append->ads,foldl_append->qu,foldl_cons->yb,foldl_nil->a5l,getD->cz,getD_cons_zero->a1t,getD_eq_getElem?_getD->Bj,getElem?_append_left->kq,getElem?_append_right->l9,getElem?_cons_succ->mq,getElem?_cons_zero->iw,getElem?_drop->pv,getElem?_eq_getElem->bh,getElem?_eq_some_iff->bd,getElem?_map->dn,getElem?_range->Nk,getElem_map->Gy,getElem_mem->dj,getElem_of_mem->x8,getElem_take->a8v,length->Ae,length_append->dz,length_cons->cq,length_drop->A0,length_filter_le->tu,length_map->al,length_nil->ew,length_pos_iff->W8,length_replicate->ad2,length_reverse->fX,length_take->ey,map_append->fj,map_congr_left->Nj,map_cons->du,map_drop->a1s,map_map->JE,map_nil->ic,map_set->aey,map_take->Mm,mem_append->jz,mem_cons->fa,mem_cons_of_mem->sD,mem_filter->ya,mem_iff_getElem->j0,mem_map->j6,mem_of_find?_eq_some->W7,mem_of_getElem?->pw,mem_of_mem_take->sC,mem_range->er,mem_singleton->Q9,nodup_append->Xs,nodup_cons->VM,not_mem_nil->kz,pairwise_iff_getElem->Cy,pairwise_map->U5,range->fc,range_succ->adb,reduceReplicate->cw,replicate->jq,reverse_cons->oq,reverse_reverse->ue,sum_cons->a1r,take->afl,take_add_one->j3,take_append_drop->Ej,take_append_of_le_length->a0r,take_length->fm,take_of_length_le->D0
open Nat renaming add_assoc->tc,add_zero->Ad,le_of_lt->aep,le_refl->bm,le_trans->jg,lt_succ_iff_lt_or_eq->Xq,mod_lt->Ht,mul_le_mul->ae0,not_lt_zero->a8m,reduceAdd->ak,reduceEqDiff->ab,reduceLeDiff->ao,reduceMul->fp,reducePow->Qw,sub_self->Wu,sub_zero->Wt,zero_add->gj,zero_le->aei
open Option renaming getD_some->jj,isSome->cy,map->afd,map_eq_some_iff->ax,map_some->jc,none->ae,some->aa,toList_some->JA
open Option.some renaming inj->a8l,injEq->av
open Prod renaming ext->tq
namespace Go.PI
def Qj(v:Vl)(x:Int×Bool)(p:Pm):Int×Bool:=if i6 p.n v.n then(v.t*p.v+v.a,ah)else x
def ra(v:Vl)(l:List Pm):Int×Bool:=l.foldl (Qj v) (v.a,isE v.n)
def xh(pr:List (List Sp)->Bool)(f:Ft)(l:List Pm):List Int×Int:=
 if yc pr f=ag then([],220)else if Av l=ag then([],1)
 else if f.vs.all (λv=>(ra v l).2)then(f.vs.map λv=>(ra v l).1,0)else([],4)
def Eo(n:Int):List D:=[.int aj n]
def rO(x:List Int×Int):D:= .Bb [.gd 1 (x.1.map Eo),.int aj x.2]
theorem a3w{x y:Int}(hx: -1000000<=x/\x<=1000000)(hy: -1000000<=y/\y<=1000000): -1000000000000<=x*y/\x*y<=1000000000000:=by
 have a:x.natAbs<=1000000:=by lia
 have b:y.natAbs<=1000000:=by lia
 have:=ae0 a b;rw[<-Int.natAbs_mul]at this;lia
theorem tZ{n:Int}(h:Rv n=ah): -1000000<=n/\n<=1000000:=by
 unfold Rv at h;simpa using h
theorem wR{v:Vl}(h:Lx v=ah):(-1000000<=v.t/\v.t<=1000000)/\(-1000000<=v.a/\v.a<=1000000):=by
 unfold Lx at h;simp only[dc]at h;exact⟨tZ h.1,tZ h.2.1⟩
theorem lZ{pr:List (List Sp)->Bool}{f:Ft}(h:yc pr f=ah):∀i,i<f.vs.length->Lx (f.vs.getD i v0)=true:=by
 unfold yc at h;simp only[dc]at h;exact λi a=>dg.1 h.2.2.1 i (er.2 a)
theorem Zh{l:List Pm}(h:Av l=ah):l.length<=20/\∀i (a:i<l.length),Rv (l[i]).v=true:=by
 unfold Av at h;simp only[dc,decide_eq_true_eq]at h;refine⟨h.1,λi a=>?_⟩;have:=dg.1 h.2 i (er.2 a);unfold oA at this;simp only[bh a,dc]at this;exact this.2.1
theorem rK{pr:List (List Sp)->Bool}{f:Ft}(h:yc pr f=ah):f.vs.length<=6:=by
 unfold yc at h;simp only[dc,decide_eq_true_eq,beq_iff_eq]at h;obtain⟨⟨a,b⟩,c,_⟩:=h
 have:f.k.toNat<14:=by lia
 have d:Ji f.k.toNat<=6:=by
  generalize f.k.toNat=k at this
  match k,this with
  |0,_|1,_|2,_|3,_|4,_|5,_|6,_|7,_|8,_|9,_|10,_|11,_|12,_|13,_=>decide
  |n+14,h=>lia
 lia
theorem yN{v:Vl}{l:List Pm}{k:Nat}(h:k<l.length):ra v (l.take (k+1))=Qj v (ra v (l.take k)) l[k]:=by
 unfold ra;rw[j3,qu];simp[h]
theorem wT{sz:Nat}{x:D}:∀G v,iz G (.Bb [.cj,x]) v->iz G (.Bb [.gd sz [],x]) v:=by
 intro G v h
 cases h with
 | @Bb _ vs c a=>
  refine .Bb c λi y u hy b=>?_
  match i with
  |0=>
   simp only[iw,av]at hy;subst hy;exact Mc G u (a 0 .cj u rfl b)
  |i+1=>exact a (i+1) y u hy b
theorem aT{l:List Pm}{k:Nat}(h:k<l.length):(l.map mg)[k]? =aa [.str l[k].n,.int aj l[k].v]:=by simp[h,mg]
section
variable{P:Program}(A:Pr P)
theorem xL(f:Ft)(l:List Pm)(q:f.vs.length<=2^30)(X:f.ls.length<=2^30)(Y:∀l∈f.ls,l.length<=2^30):iv P A.Bg [.agg (cFt f),ki l] (rO (xh oe f l)):=by
 have p:iv P A.Bg [.agg (cFt f),ki l] (.Bb [if(xh oe f l).1.map Eo=[]then .cj else .gd 1 ((xh oe f l).1.map Eo),.int aj (xh oe f l).2]):=by
  refine ez A.mo A.gR (by simp) ?_;show l7 P (Nw A.yv A.qy) (ly _ _) _;have O:=qK A f q X Y;simp only[cFt,qx,kh]at O;simp only[Nw,cFt,qx,kh,ki,go_sem,ab,ak];refine gq O ?_;cases c1:yc oe f
  ·have:xh oe f l=([],220):=by unfold xh;rw[bc c1]
   rw[this];simp only[go_sem,ab]
  simp only[go_sem,ab];refine gq (Xd A l) ?_;cases E:Av l
  ·have:xh oe f l=([],1):=by unfold xh;rw[aq (by rw[c1];simp),bc E]
   rw[this];simp only[go_sem,ab]
  have hN:xh oe f l=if f.vs.all (λv=>(ra v l).2)then(f.vs.map λv=>(ra v l).1,0)else([],4):=by
   unfold xh;rw[aq (by rw[c1];simp),aq (by rw[E];simp)]
  rw[hN];have a0:=rK c1;obtain⟨a4,I⟩:=Zh E;simp only[go_sem,ab]
  refine gf f.vs.length (λi s'=>s'.base=0/\s'.tmp 1= .d (.gd 2 (l.map mg))/\s'.tmp 2= .gz 2 (s'.ba 2) 0/\s'.di 2=aa (.loc [.d (.int aj f.k),.d (.gd 3 (f.vs.map B4)),.d (.gd 1 (f.ls.map λl=>[uu l]))])/\s'.tmp 7= .d (.int aj i)/\
   u0 s' 67 1 (((f.vs.take i).map λv=>(ra v l).1).map Eo) (s'.tmp 6)/\∀Q,Q<i->(ra (f.vs.getD Q v0) l).2=ah) ?_ ?_
  ·simp only[go_sem,ab];refine⟨u0.nil,by simp⟩
  rintro i s' H ⟨r,o,j,b2,m,acc,N⟩;by_cases R:(i:Int)<f.vs.length
  ·have s:i<f.vs.length:=by lia
   have wi:=dr ((i:Int)+1) (by lia) (by lia);have J:=lZ c1 i s
   have w:f.vs.getD i v0=f.vs[i]:=by simp[cz,s]
   have hg:=Wq s;obtain⟨⟨t1,t2⟩,a1,y⟩:=wR J;simp only[go_sem,ab,ak,ao,reduceCtorEq,r,j,b2,m,al,R,hg,bn,aw]
   generalize K:f.vs.getD i v0=v at*
   refine gf l.length (λk s'=>s'.base=0/\s'.tmp 1= .d (.gd 2 (l.map mg))/\s'.tmp 2= .gz 2 (s'.ba 2) 0/\s'.di 2=aa (.loc [.d (.int aj f.k),.d (.gd 3 (f.vs.map B4)),.d (.gd 1 (f.ls.map λl=>[uu l]))])/\s'.tmp 7= .d (.int aj i)/\
    u0 s' 67 1 (((f.vs.take i).map λv=>(ra v l).1).map Eo) (s'.tmp 6)/\s'.tmp 8= .gz 8 (s'.ba 8) 0/\s'.di 8=aa (.loc [.d (.str v.n),.d (.int aj v.t),.d (.int aj v.a)])/\s'.tmp 11= .d (.int aj k)/\
    s'.tmp 9= .d (.int aj (ra v (l.take k)).1)/\s'.tmp 10= .d (.bool (ra v (l.take k)).2)) ?_ ?_
   ·simp only[go_sem,ab,o,j,b2,m];refine⟨acc.mono (by simp[ar]) (by simp[ar]),by simp[ra],by simp[ra,isE]⟩
   clear o j b2 m r acc;rintro k s2 hk ⟨r,o,j,b2,m,acc,F,C,h,z,c⟩;by_cases L:(k:Int)<l.length
   ·have u:k<l.length:=by lia
    have S:=dr ((k:Int)+1) (by lia) (by lia);have hp:=tZ (I k u);have m1:=a3w ⟨t1,t2⟩ hp;have w1:=dr (v.t*l[k].v) (by lia) (by lia);have w2:=dr (v.t*l[k].v+v.a) (by lia) (by lia);have T:=yN (v:=v) u;simp only[go_sem,ab,ak,ao,reduceCtorEq,r,o,F,C,h,al,L,aT u,bn,aw];cases c3:(l[k].n.toList==v.n.toList)
    ·have e:Qj v (ra v (l.take k)) l[k]=ra v (l.take k):=by unfold Qj i6;rw[c3];rfl
     simp only[go_sem,ab,reduceCtorEq,o,j,b2,m,F,C,z,c,h,S,u,T,e];refine⟨acc.mono rfl rfl,by simp⟩
    have e:Qj v (ra v (l.take k)) l[k]=(v.t*l[k].v+v.a,ah):=by unfold Qj i6;rw[c3];rfl
    simp only[go_sem,ab,ak,ao,reduceCtorEq,o,j,b2,m,F,C,z,c,h,S,u,T,e,aT u,bn,aw,w1,w2];refine⟨acc.mono rfl rfl,by simp⟩
   have:k=l.length:=by lia
   subst this;rw[fm]at z c;simp only[go_sem,ab,reduceCtorEq,r,o,j,b2,m,c,h,al,L];cases M:(ra v l).2
   ·have b:f.vs.all (λv=>(ra v l).2)=false:=by
     rw[iJ];exact⟨f.vs[i],dj s,by rw[<-w,M];simp⟩
    simp only[go_sem,ab,b]
   simp only[go_sem,ab,cw,z];refine r4 (dv:=((f.vs.take i).map λv=>(ra v l).1).map Eo) (ys:=[Eo (ra v l).1]) (osz:=aa 1) ?_ ?_ rfl (by simp[Eo,D.one]) ?_ (by simp) ?_
   ·simp only[go_sem,ab];exact acc.mono (by simp[ar]) (by simp[ar])
   ·simp only[go_sem,ab,pj];rfl
   ·simp only[al,cq,ew,ey];lia
   intro s3 g;have B:=g.acc (by simp);rw[g.tmp,de]at B;simp only[gj]at B;have W:=g.ba 2 (by simp)
   have V:s3.di 2=s2.di 2:=by rw[g.di];simp[ar]
   simp only[go_sem,ab,reduceCtorEq,g.tmp,o,j,m,wi,g.base,V,W,b2,s];refine⟨by simp,?_,rz N (by rw[K];exact M)⟩
   have U:(((f.vs.take (i+1)).map λv=>(ra v l).1).map Eo)=((f.vs.take i).map λv=>(ra v l).1).map Eo++[Eo (ra v l).1]:=by
    rw[j3,fj,fj];simp[s,<-w]
   rw[U];exact B.mono rfl rfl
  have:i=f.vs.length:=by lia
  subst this;rw[fm]at acc
  have b:f.vs.all (λv=>(ra v l).2)=true:=by
   rw[dg];intro v q;obtain⟨i,H,rfl⟩:=j0.1 q;have:=N i H;simpa[cz,H]using this
  rw[b];simp only[go_sem,ab,ak,ao,reduceCtorEq,r,j,b2,m,al,R];rcases acc with ⟨a1,y⟩|⟨a1,y,a3⟩
  ·simp only[go_sem,a1,y]
  rw[aq a1,y];simp only[go_sem,a3,al]
 generalize xh oe f l=x at p|-;refine p.Nl λG v q=>?_;split at q
 ·rename_i Z;unfold rO;rw[Z];exact wT G v q
 exact q
end
theorem u0.a86{P:Program}{s:PS}{K:PS->Prop}{r:List RI}{d:Option Nat}{id sz f:Nat}{dv:List (List D)}{v:V}{y x:D}(acc:u0 s id sz dv v)(a:iv P f [.gd sz dv,y] x)(hx:x.flat=ah)(b:mc P r (s.put d (.d x)) K):
  Gt P f [v,.d y] [] ag d s (Bo P r K):=by
 rcases acc with ⟨rfl,rfl⟩|⟨g,rfl,c⟩
 ·exact⟨[.cj,y],x,rfl,a.w0.toC,.inl hx,b⟩
 have e:PS.dv s id (s.ba id)=aa (sz,dv):=by unfold PS.dv;rw[bc rfl,c]
 exact⟨[.gd sz dv,y],x,by simp[Ln,snap,e],a.toC,.inl hx,b⟩
theorem u0.a84{P:Program}{s:PS}{K:PS->Prop}{r:List RI}{d:Option Nat}{id sz f:Nat}{dv:List (List D)}{v:V}{y x:D}(acc:u0 s id sz dv v)(a:iv P f [y,.gd sz dv] x)(hx:x.flat=ah)(b:mc P r (s.put d (.d x)) K):
  Gt P f [.d y,v] [] ag d s (Bo P r K):=by
 rcases acc with ⟨rfl,rfl⟩|⟨g,rfl,c⟩
 ·exact⟨[y,.cj],x,rfl,a.w1.toC,.inl hx,b⟩
 have e:PS.dv s id (s.ba id)=aa (sz,dv):=by unfold PS.dv;rw[bc rfl,c]
 exact⟨[y,.gd sz dv],x,by simp[Ln,snap,e],a.toC,.inl hx,b⟩
theorem u0.put{s:PS}{id sz:Nat}{dv:List (List D)}{v w:V}{d:Option Nat}(h:u0 s id sz dv v):u0 (s.put d w) id sz dv v:=h.mono (by cases d<;>rfl) (by cases d<;>rfl)
def Lz(n:Nd)(a:List ByteArray):Bool:=(fc n.ins.length).all λi=>hasB a (n.ins.getD i ⟨#[]⟩)
def n0:Nd:=⟨⟨#[]⟩,⟨0,[],[]⟩,[]⟩
def qg(a:List ByteArray)(b:ByteArray)(n:Nd):ByteArray:=if !hasB a n.n&&(Lz n a&&(isE b||strLt n.n b))then n.n else b
def Q4(ns:List Nd)(a:List ByteArray):ByteArray:=ns.foldl (qg a) ⟨#[]⟩
def Y7(ns:List Nd):Nat->List ByteArray->List ByteArray
 |0,out=>out
 |k+1,out=>if isE (Q4 ns out)then out else Y7 ns k (out++[Q4 ns out])
def J4(ns:List Nd):List ByteArray:=Y7 ns (ns.length+1) []
def U7(ns:List Nd)(a:List ByteArray):Nat:=(ns.filter λn=> !hasB a n.n).length
theorem J0{l:List ByteArray}{k:Nat}(h:k<l.length):(l.map qt)[k]? =aa [.str (l.getD k ⟨#[]⟩)]:=by simp[h,qt,cz]
theorem J6{l:List Nd}{k:Nat}(h:k<l.length):(l.map pa)[k]? =aa [.str (l.getD k n0).n,.int aj (l.getD k n0).f.k,qx (l.getD k n0).f.vs,kh (l.getD k n0).f.ls,kn (l.getD k n0).ins]:=by
 simp[h,pa,cz]
theorem MN{l:List ByteArray}{s:ByteArray}{k:Nat}(h:k<l.length):hasB (l.take (k+1)) s=(hasB (l.take k) s||i6 (l.getD k ⟨#[]⟩) s):=by
 unfold hasB;rw[j3,List.any_append];simp[h,cz]
theorem Dy(s:ByteArray):i6 s s=true:=by simp[i6]
theorem Ql(l:List ByteArray)(a s:ByteArray):hasB (l++[a]) s=(hasB l s||i6 a s):=by simp[hasB]
theorem UW(ns:List Nd)(a:List ByteArray):∀b,ns.foldl (qg a) b=b\/∃n∈ns,ns.foldl (qg a) b=n.n/\hasB a n.n=false:=by
 induction ns with
 |nil=>intro b;exact .inl rfl
 |cons n r i=>
  intro b;simp only[yb];rcases i (qg a b n)with h|⟨m,g,d,f⟩
  ·by_cases c:(!hasB a n.n&&(Lz n a&&(isE b||strLt n.n b)))=ah
   ·have e:qg a b n=n.n:=by unfold qg;rw[bc c]
    refine .inr ⟨n,by simp,by rw[h,e],?_⟩;simp only[dc]at c;simpa using c.1
   have e:qg a b n=b:=by unfold qg;rw[aq c]
   exact .inl (by rw[h,e])
  exact .inr ⟨m,by simp[g],d,f⟩
theorem IK{α:Type}{p q:α->Bool}(h:∀m,p m=ah->q m=ah):∀l:List α,(l.filter p).length<=(l.filter q).length:=by
 intro l
 induction l with
 |nil=>simp
 |cons m r c=>
  simp only[Bl];cases a:p m
  ·cases b:q m<;>simp<;>lia
  rw[h m a];simp;lia
theorem iV{α:Type}{p q:α->Bool}(h:∀m,p m=ah->q m=ah){n:α}(c:p n=ag)(d:q n=ah):∀l:List α,n∈l->(l.filter p).length<(l.filter q).length:=by
 intro l a
 induction l with
 |nil=>simp at a
 |cons m r f=>
  rcases fa.1 a with rfl|a
  ·have:=IK h r;simp only[Bl,c,d];simp;lia
  have:=f a;simp only[Bl];cases b:p m
  ·cases e:q m<;>simp<;>lia
  rw[h m b];simp;lia
theorem XW{ns:List Nd}{a:List ByteArray}(h:isE (Q4 ns a)=ag):U7 ns (a++[Q4 ns a])<U7 ns a:=by
 rcases UW ns a ⟨#[]⟩with c|⟨n,f,d,e⟩
 ·have:Q4 ns a=⟨#[]⟩:=c;rw[this]at h;simp[isE]at h
 have hb:Q4 ns a=n.n:=d;rw[hb];unfold U7;refine iV (n:=n) (λm b=>?_) ?_ ?_ ns f
 ·rw[Ql]at b;cases hx:hasB a m.n
  ·rfl
  rw[hx]at b;simp at b
 ·rw[Ql,Dy];simp
 rw[e];rfl
section
variable{P:Program}(A:Pr P)
theorem a0y(l:List ByteArray)(s:ByteArray)(n:l.length<=2^40):iv P A.C8 [kn l,.str s] (.bool (hasB l s)):=by
 refine ez A.mo A.zW (by simp) ?_;show l7 P V9 (ly _ _) _;simp only[V9,kn,go_sem];refine gf l.length (λk s'=>s'.tmp 0= .d (.gd 1 (l.map qt))/\s'.tmp 1= .d (.str s)/\s'.tmp 5= .d (.int aj k)/\hasB (l.take k) s=ag) ?_ ?_
 ·simp only[go_sem,ab,reduceCtorEq];simp[hasB]
 rintro k s' m ⟨b,h,f,g⟩;by_cases i:(k:Int)<l.length
 ·have a:k<l.length:=by lia
  have j:=dr ((k:Int)+1) (by lia) (by lia);simp only[go_sem,ab,reduceCtorEq,b,h,f,al,i,J0 a,bn,aw];cases c:((l.getD k ⟨#[]⟩).toList==s.toList)
  ·simp only[go_sem,ab,reduceCtorEq,b,h,f,j,a];refine⟨by simp,?_⟩;rw[MN a,g];exact c
  have:hasB l s=true:=by
   unfold hasB;rw[Bm];refine⟨l[k],dj a,?_⟩
   have e:l.getD k ⟨#[]⟩=l[k]:=by simp[cz,a]
   rw[e]at c;exact c
  simp only[go_sem,ab,this]
 have:k=l.length:=by lia
 subst this;rw[fm]at g;simp only[go_sem,ab,reduceCtorEq,b,f,al,i,g]
theorem WO(n:Nd)(a:List ByteArray)(t:n.ins.length<=2^40)(p:a.length<=2^40):iv P A.Gb [.agg (pa n),kn a] (.bool (Lz n a)):=by
 refine ez A.mo A.oJ (by simp) ?_;show l7 P (R6 A.C8) (ly _ _) _;have m:=λs=>a0y A a s p;simp only[kn]at m;simp only[R6,pa,kn,qx,kh,go_sem,ak]
 refine gf n.ins.length (λk s'=>s'.tmp 1= .d (.gd 1 (a.map qt))/\s'.tmp 2= .gz 2 (s'.ba 2) 0/\s'.di 2=aa (.loc [.d (.str n.n),.d (.int aj n.f.k),.d (.gd 3 (n.f.vs.map B4)),.d (.gd 1 (n.f.ls.map λl=>[uu l])),.d (.gd 1 (n.ins.map qt))])/\s'.tmp 5= .d (.int aj k)/\
  ∀i,i<k->hasB a (n.ins.getD i ⟨#[]⟩)=ah) ?_ ?_
 ·simp only[go_sem,ab];simp
 rintro k s' r ⟨h,e,b2,g,j⟩;by_cases o:(k:Int)<n.ins.length
 ·have b:k<n.ins.length:=by lia
  have q:=dr ((k:Int)+1) (by lia) (by lia);simp only[go_sem,ab,ak,reduceCtorEq,h,e,b2,g,al,o,J0 b,bn,aw];refine ir (m _) ?_;cases c:hasB a (n.ins.getD k ⟨#[]⟩)
  ·have:Lz n a=false:=all_false b c;simp only[go_sem,ab,this]
  simp only[go_sem,ab,reduceCtorEq,h,e,b2,g,q,b];exact⟨by simp,rz j c⟩
 have:k=n.ins.length:=by lia
 subst this;have:Lz n a=true:=all_true j;simp only[go_sem,ab,ak,reduceCtorEq,e,b2,g,al,o,this]
theorem XA(t:Tr)(hn:t.ns.length<=1000)(U:∀n∈t.ns,n.ins.length<=2^40):iv P A.Ea [.agg (vt t)] (kn (J4 t.ns)):=by
 have u:iv P A.Ea [.agg (vt t)] (if(J4 t.ns).map qt=[]then .cj else .gd 1 ((J4 t.ns).map qt)):=by
  refine ez A.mo A.oL (by simp) ?_;show l7 P (R8 A.C8 A.Gb) (ly _ _) _;simp only[R8,vt,ki,lr,go_sem,ak]
  have S:U7 t.ns []<=t.ns.length:=by unfold U7;exact tu _ _
  refine gf t.ns.length (λi s'=>∃a:List ByteArray,s'.base=0/\s'.tmp 1= .gz 1 (s'.ba 1) 0/\s'.di 1=aa (.loc [.d (.gd 2 (t.ps.map mg)),.d (.gd 5 (t.ns.map pa))])/\u0 s' 47 1 (a.map qt) (s'.tmp 3)/\
   U7 t.ns a+i<=t.ns.length/\a.length=i/\Y7 t.ns (t.ns.length+1-i) a=J4 t.ns) ?_ ?_
  ·simp only[go_sem,ab];refine⟨[],u0.nil,S,rfl,rfl⟩
  rintro i s' Y ⟨a,s,l,f,acc,ho,K,b⟩;simp only[go_sem]
  refine gf t.ns.length (λk s'=>s'.base=0/\s'.tmp 1= .gz 1 (s'.ba 1) 0/\s'.di 1=aa (.loc [.d (.gd 2 (t.ps.map mg)),.d (.gd 5 (t.ns.map pa))])/\u0 s' 47 1 (a.map qt) (s'.tmp 3)/\
   s'.tmp 5= .d (.int aj k)/\s'.tmp 4= .d (.str ((t.ns.take k).foldl (qg a) ⟨#[]⟩))) ?_ ?_
  ·simp only[go_sem,ab,s,l,f];exact⟨acc.mono rfl rfl,by simp⟩
  clear s l f acc;rintro k W Z ⟨s,l,f,acc,q,p⟩;by_cases O:(k:Int)<t.ns.length
  ·have o:k<t.ns.length:=by lia
   have w:=dr ((k:Int)+1) (by lia) (by lia);have H:=J6 o
   have I:t.ns.getD k n0=t.ns[k]:=by simp[cz,o]
   have J:=U _ (dj o)
   have x:(t.ns.take (k+1)).foldl (qg a) ⟨#[]⟩=qg a ((t.ns.take k).foldl (qg a) ⟨#[]⟩) t.ns[k]:=by
    rw[j3,qu];simp[o]
   rw[I]at H;have M:=a0y A a t.ns[k].n (by lia);have N:=WO A t.ns[k] a J (by lia)
   generalize(t.ns.take k).foldl (qg a) ⟨#[]⟩=m at*
   generalize t.ns[k]=n at*
   simp only[kn,pa,qx,kh]at M N H;simp only[go_sem,ab,ak,ao,reduceCtorEq,s,l,f,q,al,O,H,bn,aw];refine(acc.mono (by simp[ar]) (by simp[ar])).a86 M rfl ?_;cases c1:hasB a n.n
   ·simp only[go_sem,ab,ak];refine(acc.mono (by simp[ar]) (by simp[ar])).a84 N rfl ?_;cases y:Lz n a
    ·have e:qg a m n=m:=by unfold qg;rw[c1,y];rfl
     simp only[go_sem,ab,reduceCtorEq,l,f,p,q,w,o,x,e];exact⟨acc.mono (by simp[ar]) (by simp[ar]),by simp⟩
    cases c3:isE m
    ·have c:=c3;unfold isE at c;cases z:strLt n.n m
     ·have h:=z;unfold strLt at h
      have e:qg a m n=m:=by unfold qg;rw[c1,y,c3,z];rfl
      simp only[go_sem,ab,ak,ao,reduceCtorEq,l,f,p,q,c,h,w,o,x,e];exact⟨acc.mono (by simp[ar]) (by simp[ar]),by simp⟩
     have h:=z;unfold strLt at h
     have e:qg a m n=n.n:=by unfold qg;rw[c1,y,c3,z];rfl
     simp only[go_sem,ab,ak,ao,reduceCtorEq,l,f,p,q,c,h,w,o,x,e];exact⟨acc.mono (by simp[ar]) (by simp[ar]),by simp⟩
    have c:=c3;unfold isE at c
    have e:qg a m n=n.n:=by unfold qg;rw[c1,y,c3];rfl
    simp only[go_sem,ab,ak,ao,reduceCtorEq,l,f,p,q,c,w,o,x,e];exact⟨acc.mono (by simp[ar]) (by simp[ar]),by simp⟩
   have e:qg a m n=m:=by unfold qg;rw[c1];rfl
   simp only[go_sem,ab,reduceCtorEq,l,f,p,q,w,o,x,e];exact⟨acc.mono (by simp[ar]) (by simp[ar]),by simp⟩
  have:k=t.ns.length:=by lia
  subst this;rw[fm]at p
  have F:t.ns.length+1-i=(t.ns.length-i)+1:=by lia
  rw[F]at b;have E:t.ns.foldl (qg a) ⟨#[]⟩=Q4 t.ns a:=rfl;rw[E]at p;simp only[go_sem,ab,ak,reduceCtorEq,s,l,f,p,q,al,O];cases r:isE (Q4 t.ns a)
  ·have j:=r;unfold isE at j;have V:=XW r;rw[Y7,r]at b;simp only[go_sem,ab,cw,p,j];refine r4 (dv:=a.map qt) (ys:=[qt (Q4 t.ns a)]) (osz:=aa 1) ?_ ?_ rfl (by simp[qt,D.one]) ?_ (by simp) ?_
   ·simp only[go_sem,ab];exact acc.mono (by simp[ar]) (by simp[ar])
   ·simp only[go_sem,ab,pj];rfl
   ·simp only[al,cq,ew];lia
   intro X g;have B:=g.acc (by simp);rw[g.tmp,de]at B;simp only[gj]at B;have R:=g.ba 1 (by simp)
   have Q:X.di 1=W.di 1:=by rw[g.di];simp[ar]
   simp only[go_sem,ab,g.tmp,l,g.base,Q,R,f];refine⟨by lia,a++[Q4 t.ns a],?_,by lia,by simp[K],?_⟩
   ·rw[fj];exact B.mono rfl rfl
   have e2:t.ns.length+1-(i+1)=t.ns.length-i:=by lia
   rw[e2];exact b
  have j:=r;unfold isE at j;rw[Y7,r]at b;have b:a=J4 t.ns:=b;subst b;simp only[go_sem,ab,j];rcases acc with ⟨a1,C⟩|⟨a1,C,a3⟩
  ·simp only[go_sem,a1,C]
  rw[aq a1,C];simp only[go_sem,a3,al]
 refine u.Nl λG v L=>?_;split at L
 ·rename_i T;unfold kn;rw[T];exact Mc G v L
 exact L
end
def Ts(ns:List Nd)(s:ByteArray):Bool:=ns.any λn=>i6 n.n s
def Ku:List Nd->ByteArray->Int->Int
 |[],_,_=> -1
 |n::r,s,i=>if i6 n.n s then i else Ku r s (i+1)
theorem zJ(ns:List Nd)(s:ByteArray):∀i:Int,0<=i->(Ku ns s i<0<->Ts ns s=ag):=by
 induction ns with
 |nil=>intro i _;simp[Ku,Ts]
 |cons n r a=>
  intro i b;unfold Ku Ts;cases h:i6 n.n s
  ·simp only[gp,bp,a8q,h,C0];exact a (i+1) (by lia)
  simp[h];lia
theorem MM{ns:List Nd}{s:ByteArray}{k:Nat}(h:k<ns.length):Ku (ns.drop k) s k=if i6 ns[k].n s then(k:Int)else Ku (ns.drop (k+1)) s ((k+1:Nat):Int):=by
 rw[jx h];rfl
def Bu(pr:List (List Sp)->Bool)(t:Tr)(i:Nat):Bool:=
 zb (t.ns.getD i n0).n&&(xt (t.ns.map Nd.n) i&&(yc pr (t.ns.getD i n0).f&&(((t.ns.getD i n0).ins.length:Int)==kIn (t.ns.getD i n0).f.k.toNat&&
  (((fc (t.ns.getD i n0).ins.length).all λk=>Ts t.ns ((t.ns.getD i n0).ins.getD k ⟨#[]⟩))&&(xh pr (t.ns.getD i n0).f t.ps).2==0))))
def yj(pr:List (List Sp)->Bool)(t:Tr):Bool:=
 Av t.ps&&(decide (t.ns.length<=20)&&((fc t.ns.length).all (Bu pr t)&&((J4 t.ns).length:Int)==t.ns.length))
def Om(t:Tr):Prop:=t.ns.length<=1000/\∀n∈t.ns,n.ins.length<=2^30/\n.f.vs.length<=2^30/\n.f.ls.length<=2^30/\∀l∈n.f.ls,l.length<=2^30
section
variable{P:Program}(A:Pr P)
theorem tI(t:Tr)(s:ByteArray)(o:t.ns.length<=2^40):iv P A.je [.agg (vt t),.str s] (.int aj (Ku t.ns s 0)):=by
 refine ez A.mo A.oM (by simp) ?_;show l7 P R9 (ly _ _) _;simp only[R9,vt,ki,lr,go_sem,cu,ak];refine gf t.ns.length (λk s'=>s'.tmp 1= .d (.str s)/\s'.tmp 2= .gz 2 (s'.ba 2) 0/\s'.di 2=aa (.loc [.d (.gd 2 (t.ps.map mg)),.d (.gd 5 (t.ns.map pa))])/\s'.tmp 5= .d (.int aj k)/\Ku (t.ns.drop k) s k=Ku t.ns s 0) ?_ ?_
 ·simp only[go_sem,ab,afk,fZ]
 rintro k s' m ⟨h,f,b2,e,a⟩;by_cases j:(k:Int)<t.ns.length
 ·have b:k<t.ns.length:=by lia
  have l:=dr ((k:Int)+1) (by lia) (by lia);have i:=J6 b
  have g:t.ns.getD k n0=t.ns[k]:=by simp[cz,b]
  rw[g]at i;rw[MM b]at a;simp only[go_sem,ab,cu,ak,ao,reduceCtorEq,h,f,b2,e,al,j,i,bn,aw];cases c:(t.ns[k].n.toList==s.toList)
  ·unfold i6 at a;rw[c]at a;simp only[go_sem,ab,cu,reduceCtorEq,h,f,b2,e,l,b];refine⟨by simp,?_⟩;simpa using a
  unfold i6 at a;rw[c]at a;simp only[da]at a;simp only[go_sem,ab,cu,e,a]
 have:k=t.ns.length:=by lia
 subst this;rw[Qa]at a;simp only[Ku]at a;simp only[go_sem,ab,cu,ak,reduceCtorEq,f,b2,e,al,j,<-a]
theorem qJ(t:Tr)(hs:Om t):iv P A.om [.agg (vt t)] (.bool (yj oe t)):=by
 refine ez A.mo A.oK (by simp) ?_;show l7 P (R7 A.qy A.um A.yv A.F8 A.je A.Bg A.Ea) (ly _ _) _;obtain⟨a1,G⟩:=hs;have F:=Xd A t.ps;simp only[ki]at F;unfold yj;simp only[R7,vt,ki,lr,go_sem,ab,ak,ao];refine gq F ?_;cases c1:Av t.ps
 ·simp only[go_sem,ab,fh]
 by_cases V:(20:Int)<t.ns.length
 ·have r:¬t.ns.length<=20:=by lia
  simp only[go_sem,ab,ak,reduceCtorEq,al,V,r,fh]
 have r:t.ns.length<=20:=by lia
 simp only[go_sem,ab,ak,reduceCtorEq,al,V,r];refine gf t.ns.length (λi s'=>s'.base=0/\s'.tmp 1= .gz 1 (s'.ba 1) 0/\s'.di 1=aa (.loc [.d (.gd 2 (t.ps.map mg)),.d (.gd 5 (t.ns.map pa))])/\s'.tmp 3= .d (.int aj i)/\∀i',i'<i->Bu oe t i'=ah) ?_ ?_
 ·simp only[go_sem,ab];simp
 rintro i s' hi ⟨m,b,a,c,X⟩;by_cases ju:(i:Int)<t.ns.length
 ·have w:i<t.ns.length:=by lia
  have wi:=dr ((i:Int)+1) (by lia) (by lia);have O:=J6 w
  have C:t.ns.getD i n0=t.ns[i]:=by simp[cz,w]
  obtain⟨q1,q2,q3,q4⟩:=G _ (dj w);rw[C]at O
  have p:Bu oe t i=(zb t.ns[i].n&&(xt (t.ns.map Nd.n) i&&(yc oe t.ns[i].f&&((t.ns[i].ins.length:Int)==kIn t.ns[i].f.k.toNat&&(((fc t.ns[i].ins.length).all λk=>Ts t.ns (t.ns[i].ins.getD k ⟨#[]⟩))&&(xh oe t.ns[i].f t.ps).2==0))))):=by
   unfold Bu;rw[C]
  have no:Bu oe t i=ag->((fc t.ns.length).all (Bu oe t)&&((J4 t.ns).length:Int)==t.ns.length)=false:=λh=>by rw[all_false w h,fh]
  have q:=qK A t.ns[i].f q2 q3 q4;have S:=xL A t.ns[i].f t.ps q2 q3 q4;have Zx:=CR A t.ns[i].n
  have IE:∀h:0<i,xt (t.ns.map Nd.n) i=strLt t.ns[i-1].n t.ns[i].n:=λh=>by
   unfold xt
   have:i-1<t.ns.length:=by lia
   have h0:i≠0:=by lia
   simp[h0,this,w]
  have u:∀h:0<i,(t.ns.map pa)[i-1]? =aa [.str t.ns[i-1].n,.int aj t.ns[i-1].f.k,qx t.ns[i-1].f.vs,kh t.ns[i-1].f.ls,kn t.ns[i-1].ins]:=λh=>by
   have:i-1<t.ns.length:=by lia
   simp[this,pa]
  generalize a0:t.ns[i]=n at*
  simp only[qx,kh,kn]at O u;simp only[cFt,qx,kh]at q S;simp only[ki,rO]at S;simp only[go_sem,ab,ak,ao,reduceCtorEq,m,b,a,c,al,ju,O,bn,aw];refine gq Zx ?_
  refine Zd (λs'=>s'.base=0/\s'.tmp 1= .gz 1 (s'.ba 1) 0/\s'.di 1=aa (.loc [.d (.gd 2 (t.ps.map mg)),.d (.gd 5 (t.ns.map pa))])/\s'.tmp 3= .d (.int aj i)/\s'.tmp 4= .gz 4 (s'.ba 4) 0/\
   s'.di 4=aa (.loc [.d (.str n.n),.d (.int aj n.f.k),.d (.gd 3 (n.f.vs.map B4)),.d (.gd 1 (n.f.ls.map λl=>[uu l])),.d (.gd 1 (n.ins.map qt))])/\
   s'.tmp 65= .d (.bool !(zb n.n&&(xt (t.ns.map Nd.n) i&&(yc oe n.f&&(n.ins.length:Int)==kIn n.f.k.toNat))))) ?_ ?_
  ·cases d1:zb n.n
   ·simp only[go_sem,ab,b,a,c,fh]
   by_cases d2:0<i
   ·have e:(0:Int)<i:=by lia
    have w1:=dr ((i:Int)-1) (by lia) (by lia)
    have z:(0:Int)<=(i:Int)-1:=by lia
    rw[IE d2];cases W:strLt t.ns[i-1].n n.n
    ·have g:=W;unfold strLt at g;simp only[go_sem,ab,ak,ao,reduceCtorEq,b,a,c,e,w1,Jv e,u d2,z,g,fh,sf]
    have g:=W;unfold strLt at g;simp only[go_sem,ab,ak,ao,reduceCtorEq,b,a,c,e,w1,Jv e,u d2,z,g];refine gq q ?_;cases I:yc oe n.f
    ·simp only[go_sem,ab,b,a,c,fh]
    have Z:0<=n.f.k/\n.f.k<14:=by
     have:=I;unfold yc at this;simp only[dc,decide_eq_true_eq]at this;exact this.1
    have v:((n.f.k.toNat:Nat):Int)=n.f.k:=by lia
    have j:=xM A (k:=n.f.k.toNat) (by lia);rw[v]at j;simp only[go_sem,ab,ak,ao,al];refine gq j ?_;simp only[go_sem,ab,reduceCtorEq,b,a,c,bne]
   have e:¬(0:Int)<i:=by lia
   have Q:xt (t.ns.map Nd.n) i=true:=by unfold xt;simp;lia
   rw[Q];simp only[go_sem,ab,ak,ao,reduceCtorEq,c,e];refine gq q ?_;cases I:yc oe n.f
   ·simp only[go_sem,ab,b,a,c,fh]
   have Z:0<=n.f.k/\n.f.k<14:=by
    have:=I;unfold yc at this;simp only[dc,decide_eq_true_eq]at this;exact this.1
   have v:((n.f.k.toNat:Nat):Int)=n.f.k:=by lia
   have j:=xM A (k:=n.f.k.toNat) (by lia);rw[v]at j;simp only[go_sem,ab,ak,ao,al];refine gq j ?_;simp only[go_sem,ab,reduceCtorEq,b,a,c,bne]
  clear m b a c;rintro s3 ⟨m,b,a,c,x,b4,o⟩;cases B:(zb n.n&&(xt (t.ns.map Nd.n) i&&(yc oe n.f&&(n.ins.length:Int)==kIn n.f.k.toNat)))
  ·rw[B]at o
   have:Bu oe t i=false:=by
    rw[p];revert B;cases zb n.n<;>cases xt (t.ns.map Nd.n) i<;>cases yc oe n.f<;>cases((n.ins.length:Int)==kIn n.f.k.toNat)<;>simp
   simp only[go_sem,o,no this]
  rw[B]at o;simp only[dc]at B;obtain⟨J,K,L,M⟩:=B;rw[J,K,L,M]at p;simp only[rv]at p;simp only[go_sem,m,o]
  refine gf n.ins.length (λk s'=>s'.base=0/\s'.tmp 1= .gz 1 (s'.ba 1) 0/\s'.di 1=aa (.loc [.d (.gd 2 (t.ps.map mg)),.d (.gd 5 (t.ns.map pa))])/\s'.tmp 3= .d (.int aj i)/\s'.tmp 4= .gz 4 (s'.ba 4) 0/\
   s'.di 4=aa (.loc [.d (.str n.n),.d (.int aj n.f.k),.d (.gd 3 (n.f.vs.map B4)),.d (.gd 1 (n.f.ls.map λl=>[uu l])),.d (.gd 1 (n.ins.map qt))])/\s'.tmp 5= .d (.int aj k)/\∀k',k'<k->Ts t.ns (n.ins.getD k' ⟨#[]⟩)=ah) ?_ ?_
  ·simp only[go_sem,ab,b,a,c,x,b4];simp
  clear m b a c x b4;rintro k s4 Z ⟨m,b,a,c,x,b4,N,Y⟩;by_cases T:(k:Int)<n.ins.length
  ·have R:k<n.ins.length:=by lia
   have wk:=dr ((k:Int)+1) (by lia) (by lia);have D:=tI A t (n.ins.getD k ⟨#[]⟩) (by lia);have U:=zJ t.ns (n.ins.getD k ⟨#[]⟩) 0 (by lia);simp only[vt,ki,lr]at D;simp only[go_sem,ab,ak,reduceCtorEq,m,b,a,x,b4,N,al,T,J0 R,bn,aw];refine ir D ?_;cases y:Ts t.ns (n.ins.getD k ⟨#[]⟩)
   ·have E:=U.2 y
    have:Bu oe t i=false:=by rw[p,all_false R y,fh]
    simp only[go_sem,ab,reduceCtorEq,E,no this]
   have E:¬Ku t.ns (n.ins.getD k ⟨#[]⟩) 0<0:=λh=>by rw[U.1 h]at y;cases y
   simp only[go_sem,ab,reduceCtorEq,b,a,c,x,b4,N,E,wk,R];exact⟨by simp,rz Y y⟩
  have:k=n.ins.length:=by lia
  subst this;rw[all_true Y,rv]at p;simp only[go_sem,ab,ak,ao,reduceCtorEq,m,b,a,c,x,b4,N,al,T];refine ir S ?_;cases H:((xh oe n.f t.ps).2==0)
  ·have s:((xh oe n.f t.ps).2 !=0)=true:=by unfold bne;rw[H];rfl
   have:Bu oe t i=false:=by rw[p,H]
   simp only[go_sem,ab,reduceCtorEq,s,no this]
  have s:((xh oe n.f t.ps).2 !=0)=false:=by unfold bne;rw[H];rfl
  simp only[go_sem,ab,reduceCtorEq,b,a,c,s,wi,w];exact⟨by simp,rz X (by rw[p,H])⟩
 have:i=t.ns.length:=by lia
 subst this;rw[all_true X]
 have ho:=XA A t (by lia) (λn E=>by have:=(G n E).1;lia)
 simp only[vt,ki,lr,kn]at ho;simp only[go_sem,ab,ak,reduceCtorEq,m,b,a,c,al,ju];refine gq ho ?_;simp only[go_sem,ab,ak,reduceCtorEq,b,a,al]
end
def Wk(x y:D):Prop:=∀G v,iz G x v->iz G y v
theorem Wk.refl(x:D):Wk x x:=λ_ _ h=>h
theorem Wk.trans{x y z:D}(h:Wk x y)(k:Wk y z):Wk x z:=λG v a=>k G v (h G v a)
theorem Wk.cj{sz:Nat}:Wk .cj (.gd sz []):=Mc
theorem Wk.agg{xs ys:List D}(e:xs.length=ys.length)(h:∀(i:Nat) (x y:D),xs[i]? =aa x->ys[i]? =aa y->Wk x y):Wk (.agg xs) (.agg ys):=by
 intro G v c
 cases c with
 | @agg _ vs f d=>
  refine .agg (by lia) λi y u hy b=>?_
  have a:i<xs.length:=by have:=(bd.1 hy).1;lia
  exact h i xs[i] y (bh a) hy G u (d i _ u (bh a) b)
theorem Wk.gd{sz:Nat}{xs ys:List (List D)}(k:xs.length=ys.length)(h:∀(i:Nat) (a b:List D),xs[i]? =aa a->ys[i]? =aa b->a.length=b.length/\∀(j:Nat) (x y:D),a[j]? =aa x->b[j]? =aa y->Wk x y):Wk (.gd sz xs) (.gd sz ys):=by
 intro G v s
 cases s with
 |Y3=>
  have:ys=[]:=jf (by simpa using k.symm);subst this;exact .Y3
 |bN=>
  have:ys=[]:=jf (by simpa using k.symm);subst this;exact .bN
 | @gd _ _ b o c m hs l q=>
  rw[k]at m l|-
  have get:∀(i:Nat) (e:List D),ys[i]? =aa e->∃a:List D,xs[i]? =aa a/\a.length=e.length:=λi e d=>by
   have n:i<xs.length:=by have:=(bd.1 d).1;lia
   exact⟨xs[i],bh n,(h i _ e (bh n) d).1⟩
  refine .gd m (λi e d=>?_) l (λi e j x u d hx r=>?_)
  ·obtain⟨a,g,f⟩:=get i e d;rw[<-f];exact hs i a g
  obtain⟨a,g,f⟩:=get i e d
  have p:j<a.length:=by have:=(bd.1 hx).1;lia
  exact(h i a e g d).2 j a[j] x (bh p) hx G u (q i a j _ u g (bh p) r)
def p9(sz:Nat)(dv:List (List D)):D:=if dv=[]then .cj else .gd sz dv
theorem By{sz:Nat}{dv:List (List D)}:Wk (p9 sz dv) (.gd sz dv):=by
 unfold p9;split
 ·rename_i h;rw[h];exact Wk.cj
 exact Wk.refl _
theorem u0.Zg{s:PS}{id sz:Nat}{dv:List (List D)}{v:V}(h:u0 s id sz dv v):Zg s v=aa (p9 sz dv):=by
 rcases h with ⟨rfl,rfl⟩|⟨a,rfl,b⟩
 ·rfl
 unfold p9;rw[aq a];simp only[PI.Zg,Rs,PS.dv,b,da,afd]
theorem u0.cells{s:PS}{id sz:Nat}{dv:List (List D)}{v:V}(h:u0 s id sz dv v):∃c,v.cells s=aa [c]/\c.toV=v/\c.one s=ah/\Rs s c=aa (p9 sz dv,if dv=[]then[]else[id]):=by
 rcases h with ⟨rfl,rfl⟩|⟨e,rfl,f⟩
 ·exact⟨.d .cj,rfl,rfl,rfl,by simp[Rs,p9]⟩
 have a:PS.dv s id (s.ba id)=aa (sz,dv):=by unfold PS.dv;rw[bc rfl,f]
 have b:=FA a;refine⟨.ref id (s.ba id) dv.length,by simp[V.cells,b],rfl,by simp[C.one,V.live,b],by simp[Rs,a,p9,e]⟩
section
variable{P:Program}(A:Pr P)
theorem PU(l:List Pm)(o:l.length*24<=2^47):iv P A.Cs [ki l] (ki l):=by
 have a:iv P A.Cs [ki l] (p9 2 (l.map mg)):=by
  refine ez A.mo A.lO (by simp) ?_;show l7 P Pl (ly _ _) _;simp only[Pl,ki,go_sem];refine gf l.length (λi s'=>s'.base=0/\s'.tmp 0= .d (.gd 2 (l.map mg))/\s'.tmp 4= .d (.int aj i)/\u0 s' 24 2 ((l.take i).map mg) (s'.tmp 3)) ?_ ?_
  ·simp only[go_sem,ab,reduceCtorEq];exact u0.nil
  rintro i s' n ⟨j,f,h,acc⟩;by_cases k:(i:Int)<l.length
  ·have e:i<l.length:=by lia
   have wi:=dr ((i:Int)+1) (by lia) (by lia);simp only[go_sem,ab,ak,ao,reduceCtorEq,cw,j,f,h,al,k,aT e,bn,aw];refine r4 (dv:=(l.take i).map mg) (ys:=[mg l[i]]) (osz:=aa 2) ?_ ?_ rfl (by simp[mg,D.one]) ?_ (by simp) ?_
   ·simp only[go_sem,ab];exact acc.mono (by simp[ar]) (by simp[ar])
   ·simp only[go_sem,ab,pj];rfl
   ·simp only[al,cq,ew,ey];lia
   intro p g;have b:=g.acc (by simp);rw[g.tmp,de]at b;simp only[gj]at b;simp only[go_sem,ab,reduceCtorEq,g.tmp,f,h,wi,g.base,e];refine⟨by simp,?_⟩
   have m:(l.take (i+1)).map mg=(l.take i).map mg++[mg l[i]]:=by
    rw[j3,fj];simp[e]
   rw[m];exact b.mono rfl rfl
  have:i=l.length:=by lia
  subst this;rw[fm]at acc;simp only[go_sem,ab,reduceCtorEq,j,f,h,al,k];have:=acc.Zg;rcases acc with ⟨a1,c⟩|⟨a1,c,a3⟩
  ·simp only[a1,c,p9,da]
  simp only[p9,aq a1,c,a3,da]
 exact a.Nl By
def cLp(l:List Sp):List D:=[p9 2 (l.map Ci)]
theorem OF(ls:List (List Sp)):Wk (p9 1 (ls.map cLp)) (kh ls):=by
 refine By.trans (Wk.gd (by simp) λi a b d hb=>?_);simp only[dn,ax]at d hb;obtain⟨l,e,rfl⟩:=d;obtain⟨f,c,rfl⟩:=hb;rw[e]at c
 injection c with c
 subst c;refine⟨rfl,λj x y hx hy=>?_⟩
 match j with
 |0=>simp only[cLp,iw,av]at hx hy;subst hx hy;exact By
 |j+1=>simp[cLp]at hx
theorem KN(ls:List (List Sp))(F:ls.length<=2^30)(B:∀l∈ls,l.length<=2^30):iv P A.Eg [.agg [kh ls]] (kh ls):=by
 have r:iv P A.Eg [.agg [kh ls]] (p9 1 (ls.map cLp)):=by
  refine ez A.mo A.pH (by simp) ?_;show l7 P Ro (ly _ _) _;simp only[Ro,kh,go_sem];refine gf ls.length (λi s'=>s'.base=0/\s'.tmp 1= .gz 1 (s'.ba 1) 0/\s'.di 1=aa (.loc [.d (.gd 1 (ls.map λl=>[uu l]))])/\s'.tmp 4= .d (.int aj i)/\u0 s' 38 1 ((ls.take i).map cLp) (s'.tmp 3)) ?_ ?_
  ·simp only[go_sem,ab];exact u0.nil
  rintro i s' G ⟨h,c,b,e,acc⟩;by_cases z:(i:Int)<ls.length
  ·have n:i<ls.length:=by lia
   have wi:=dr ((i:Int)+1) (by lia) (by lia);have j:=Fo n;have C:=B _ (dj n);simp only[go_sem,ab,reduceCtorEq,h,c,b,e,al,z]
   refine gf ls[i].length (λk s'=>s'.base=0/\s'.tmp 1= .gz 1 (s'.ba 1) 0/\s'.di 1=aa (.loc [.d (.gd 1 (ls.map λl=>[uu l]))])/\s'.tmp 4= .d (.int aj i)/\u0 s' 38 1 ((ls.take i).map cLp) (s'.tmp 3)/\
    s'.tmp 6= .d (.int aj k)/\u0 s' 34 2 ((ls[i].take k).map Ci) (s'.tmp 5)) ?_ ?_
   ·simp only[go_sem,ab,c,b,e];exact⟨acc.mono rfl rfl,u0.nil⟩
   clear h c b e acc;rintro k t H ⟨h,c,b,e,acc,f6,y⟩;by_cases u:(k:Int)<ls[i].length
   ·have x:k<ls[i].length:=by lia
    have E:=dr ((k:Int)+1) (by lia) (by lia);simp only[go_sem,ab,ak,reduceCtorEq,cw,h,c,b,e,f6,al,u,j,Es x,bn,aw];refine r4 (dv:=(ls[i].take k).map Ci) (ys:=[Ci (ls[i].getD k (0,0))]) (osz:=aa 2) ?_ ?_ rfl (by simp[Ci,D.one]) ?_ (by simp) ?_
    ·simp only[go_sem,ab];exact y.mono (by simp[ar]) (by simp[ar])
    ·simp only[go_sem,ab,pj];rfl
    ·simp only[al,cq,ew,ey];lia
    intro m g;have a:=g.acc (by simp);rw[g.tmp,de]at a;simp only[gj]at a;have p:=g.ba 1 (by simp)
    have o:m.di 1=t.di 1:=by rw[g.di];simp[ar]
    have w:=g.ba 38 (by simp)
    have v:m.di 38=t.di 38:=by rw[g.di];simp[ar]
    simp only[go_sem,ab,reduceCtorEq,g.tmp,c,e,f6,E,g.base,x,p,o,b];refine⟨acc.mono (by simp[w,ar]) v,by simp,?_⟩
    have s:(ls[i].take (k+1)).map Ci=(ls[i].take k).map Ci++[Ci (ls[i].getD k (0,0))]:=by
     rw[j3,fj];simp[x,cz]
    rw[s];exact a.mono rfl rfl
   have:k=ls[i].length:=by lia
   subst this;rw[fm]at y
   have s:(ls.take (i+1)).map cLp=(ls.take i).map cLp++[cLp ls[i]]:=by
    rw[j3,fj];simp[n]
   rcases y with ⟨a1,f⟩|⟨a1,f,a3⟩
   ·have q:cLp ls[i]=[.cj]:=by unfold cLp p9;rw[bc a1]
    simp only[go_sem,ab,reduceCtorEq,cw,h,c,b,e,f6,al,u,j,bn,aw,f];refine r4 (dv:=(ls.take i).map cLp) (ys:=[cLp ls[i]]) (osz:=aa 1) ?_ ?_ rfl (by rw[q];rfl) ?_ (by simp) ?_
    ·simp only[go_sem,ab];exact acc.mono (by simp[ar]) (by simp[ar])
    ·simp only[go_sem,ab,pj,q]
    ·simp only[al,cq,ew,ey];lia
    intro m g;have a:=g.acc (by simp);rw[g.tmp,de]at a;simp only[gj]at a;have p:=g.ba 1 (by simp)
    have o:m.di 1=t.di 1:=by rw[g.di];simp[ar]
    simp only[go_sem,ab,reduceCtorEq,g.tmp,c,e,wi,g.base,n,p,o,b,s];exact⟨by simp,a.mono rfl rfl⟩
   have q:cLp ls[i]=[.gd 2 (ls[i].map Ci)]:=by unfold cLp p9;rw[aq a1]
   simp only[go_sem,ab,reduceCtorEq,cw,h,c,b,e,f6,al,u,j,bn,aw,f,a3];refine r4 (dv:=(ls.take i).map cLp) (ys:=[cLp ls[i]]) (osz:=aa 1) ?_ ?_ rfl (by rw[q];rfl) ?_ (by simp) ?_
   ·simp only[go_sem,ab];exact acc.mono (by simp[ar]) (by simp[ar])
   ·simp only[go_sem,ab,pj,q]
   ·simp only[al,cq,ew,ey];lia
   intro m g;have a:=g.acc (by simp);rw[g.tmp,de]at a;simp only[gj]at a;have p:=g.ba 1 (by simp)
   have o:m.di 1=t.di 1:=by rw[g.di];simp[ar]
   simp only[go_sem,ab,reduceCtorEq,g.tmp,c,e,wi,g.base,n,p,o,b,s];exact⟨by simp,a.mono rfl rfl⟩
  have:i=ls.length:=by lia
  subst this;rw[fm]at acc;simp only[go_sem,ab,reduceCtorEq,h,c,b,e,al,z];rcases acc with ⟨a1,f⟩|⟨a1,f,a3⟩
  ·simp only[a1,f,p9,da]
  simp only[p9,aq a1,f,a3,da]
 exact r.Nl (OF ls)
end
def eG(s:PS)(id sz:Nat)(dv:List (List D))(c:C):Prop:=
 (dv=[]/\c= .d .cj)\/(dv≠[]/\c= .ref id (s.ba id) dv.length/\s.di id=aa (.arr sz dv))
theorem eG.acc{s:PS}{id sz:Nat}{dv:List (List D)}{c:C}(h:eG s id sz dv c):u0 s id sz dv c.toV:=by
 rcases h with ⟨a,rfl⟩|⟨a,rfl,b⟩
 ·exact .inl ⟨a,rfl⟩
 exact .inr ⟨a,rfl,b⟩
theorem eG.mono{s s':PS}{id sz:Nat}{dv:List (List D)}{c:C}(h:eG s id sz dv c)(e:s'.ba id=s.ba id)(hb:s'.di id=s.di id):eG s' id sz dv c:=by
 rcases h with ⟨a,b⟩|⟨a,b,d⟩
 ·exact .inl ⟨a,b⟩
 exact .inr ⟨a,by rw[e];exact b,by rw[hb];exact d⟩
theorem eG.nil{s:PS}{id sz:Nat}:eG s id sz [] (.d .cj):= .inl ⟨rfl,rfl⟩
def wFt(f:Ft):D:= .agg [.int aj f.k,p9 3 (f.vs.map B4),kh f.ls]
section
variable{P:Program}(A:Pr P)
theorem KM(f:Ft)(I:f.vs.length<=2^30)(F:f.ls.length<=2^30)(G:∀l∈f.ls,l.length<=2^30):iv P A.Ef [.agg (cFt f)] (.agg (cFt f)):=by
 have j:iv P A.Ef [.agg (cFt f)] (wFt f):=by
  refine ez A.mo A.pF (by simp) ?_;show l7 P (Rm A.Eg) (ly _ _) _;have C:=KN A f.ls F G;simp only[kh]at C;simp only[Rm,cFt,qx,kh,go_sem,ab,ak,ao];refine gq C ?_;simp only[go_sem,ab,ak,ao]
  refine gf f.vs.length (λi s'=>s'.base=0/\s'.tmp 1= .gz 1 (s'.ba 1) 0/\s'.di 1=aa (.loc [.d (.int aj f.k),.d (.gd 3 (f.vs.map B4)),.d (.gd 1 (f.ls.map λl=>[uu l]))])/\s'.tmp 4= .d (.int aj i)/\
   s'.tmp 2= .gz 2 (s'.ba 2) 0/\s'.di 2=aa (.loc [.d (.int aj 0),.d .cj,.d .cj])/\s'.tmp 3= .gz 3 (s'.ba 3) 0/\
   ∃c,s'.di 3=aa (.loc [.d (.int aj f.k),c,.d (.gd 1 (f.ls.map λl=>[uu l]))])/\eG s' 36 3 ((f.vs.take i).map B4) c) ?_ ?_
  ·simp only[go_sem,ab];exact⟨_,rfl,eG.nil⟩
  rintro i s' H ⟨r,n,m,p,t,b2,o,c,b3,acc⟩;by_cases z:(i:Int)<f.vs.length
  ·have s:i<f.vs.length:=by lia
   have wi:=dr ((i:Int)+1) (by lia) (by lia)
   have E:(f.vs.take (i+1)).map B4=(f.vs.take i).map B4++[B4 (f.vs.getD i v0)]:=by
    rw[j3,fj];simp[s,cz]
   simp only[go_sem,ab,ak,ao,reduceCtorEq,cw,r,n,m,o,b3,p,al,z,Wq s,bn,aw];refine r4 (dv:=(f.vs.take i).map B4) (ys:=[B4 (f.vs.getD i v0)]) (osz:=aa 3) ?_ ?_ rfl (by simp[B4,D.one]) ?_ (by simp) ?_
   ·simp only[go_sem,ab];have:=acc.acc;cases c<;>exact this.mono (by simp[ar]) (by simp[ar])
   ·simp only[go_sem,ab,pj,B4]
   ·simp only[al,cq,ew,ey];lia
   intro q g;have b:=g.ba 1 (by simp);have e:=g.ba 2 (by simp);have h:=g.ba 3 (by simp)
   have u:q.di 1=s'.di 1:=by rw[g.di];simp[ar]
   have v:q.di 2=s'.di 2:=by rw[g.di];simp[ar]
   have w:q.di 3=s'.di 3:=by rw[g.di];simp[ar]
   have a:q.di 36=aa (.arr 3 ((f.vs.take i).map B4++[B4 (f.vs.getD i v0)])):=by rw[g.di];simp[ar]
   have B:=g.tmp;simp only[gj]at B;simp only[ar,ab,reduceIte]at b e h;simp only[go_sem,ab,ak,ao,reduceCtorEq,B,n,t,o,p,wi,g.base,s,b,e,h,u,v,w,a,m,b2,b3,ff,E];exact⟨by simp,_,rfl,.inr ⟨by simp,rfl,by simp[ar,a]⟩⟩
  have:i=f.vs.length:=by lia
  subst this;rw[fm]at acc;rcases acc with ⟨a1,rfl⟩|⟨a1,rfl,a3⟩
  ·simp only[go_sem,ab,ak,ao,reduceCtorEq,r,n,m,t,b2,o,b3,p,al,z,wFt,kh];rw[p9,bc a1]
  simp only[go_sem,ab,ak,ao,reduceCtorEq,r,n,m,t,b2,o,b3,p,al,z,wFt,kh,a3,ff];rw[p9,aq a1]
 refine j.Nl (Wk.agg (by simp[cFt]) λi x y hx hy=>?_)
 match i with
 |0=>simp only[cFt,iw,av]at hx hy;subst hx hy;exact Wk.refl _
 |1=>simp only[cFt,mq,iw,av]at hx hy;subst hx hy;exact By
 |2=>simp only[cFt,mq,iw,av]at hx hy;subst hx hy;exact Wk.refl _
 |i+3=>simp at hx
theorem CQ(n:Nd)(d:n.f.vs.length<=2^30)(b:n.f.ls.length<=2^30)(c:∀l∈n.f.ls,l.length<=2^30):iv P A.uo [.agg (pa n)] (.agg (pa n)):=by
 refine ez A.mo A.uY (by simp) ?_;show l7 P (Ti A.Ef) (ly _ _) _;have a:=KM A n.f d b c;simp only[cFt,qx,kh]at a;simp only[Ti,pa,qx,kh,kn,go_sem,ab,ak,ao];refine gq a ?_;simp only[go_sem,ab,ak,ao]
theorem KL(t:Tr)(I:t.ps.length*24<=2^47)(hs:Om t):iv P A.Ca [.agg (vt t)] (.agg (vt t)):=by
 have j:iv P A.Ca [.agg (vt t)] (.agg [ki t.ps,p9 5 (t.ns.map pa)]):=by
  refine ez A.mo A.pC (by simp) ?_;show l7 P (Rk A.Cs A.uo) (ly _ _) _;have G:=PU A t.ps I;obtain⟨J,z⟩:=hs;simp only[ki]at G;simp only[Rk,vt,ki,lr,go_sem,ab,ak,ao];refine gq G ?_;simp only[go_sem,ab,ak,ao]
  refine gf t.ns.length (λi s'=>s'.base=0/\s'.tmp 1= .gz 1 (s'.ba 1) 0/\s'.di 1=aa (.loc [.d (.gd 2 (t.ps.map mg)),.d (.gd 5 (t.ns.map pa))])/\s'.tmp 4= .d (.int aj i)/\
   s'.tmp 2= .gz 2 (s'.ba 2) 0/\s'.di 2=aa (.loc [.d .cj,.d .cj])/\s'.tmp 3= .gz 3 (s'.ba 3) 0/\
   ∃c,s'.di 3=aa (.loc [.d (.gd 2 (t.ps.map mg)),c])/\eG s' 27 5 ((t.ns.take i).map pa) c) ?_ ?_
  ·simp only[go_sem,ab];exact⟨_,rfl,eG.nil⟩
  rintro i s' K ⟨q,l,k,o,r,b2,m,c,b3,acc⟩;by_cases B:(i:Int)<t.ns.length
  ·have b:i<t.ns.length:=by lia
   have wi:=dr ((i:Int)+1) (by lia) (by lia)
   have w:t.ns.getD i n0=t.ns[i]:=by simp[cz,b]
   have H:(t.ns.take (i+1)).map pa=(t.ns.take i).map pa++[pa (t.ns.getD i n0)]:=by
    rw[j3,fj];simp[b,cz]
   obtain⟨q1,q2,q3,q4⟩:=z _ (dj b);rw[<-w]at q1 q2 q3 q4;have F:=CQ A (t.ns.getD i n0) q2 q3 q4;have E:=J6 b
   generalize t.ns.getD i n0=n at*
   simp only[pa,qx,kh,kn]at F E;simp only[go_sem,ab,ak,reduceCtorEq,q,l,k,m,b3,o,al,B,E,bn,aw];refine gq F ?_;simp only[go_sem,ab,ak,cw];refine r4 (dv:=(t.ns.take i).map pa) (ys:=[pa n]) (osz:=aa 5) ?_ ?_ rfl (by simp[pa,D.one,qx,kh,kn]) ?_ (by simp) ?_
   ·simp only[go_sem,ab];have:=acc.acc;cases c<;>exact this.mono (by simp[ar]) (by simp[ar])
   ·simp only[go_sem,ab,pj,pa,qx,kh,kn]
   ·simp only[al,cq,ew,ey];lia
   intro p g;have e:=g.ba 1 (by simp);have f:=g.ba 2 (by simp);have h:=g.ba 3 (by simp)
   have s:p.di 1=s'.di 1:=by rw[g.di];simp[ar]
   have u:p.di 2=s'.di 2:=by rw[g.di];simp[ar]
   have v:p.di 3=s'.di 3:=by rw[g.di];simp[ar]
   have a:p.di 27=aa (.arr 5 ((t.ns.take i).map pa++[pa n])):=by rw[g.di];simp[ar]
   have C:=g.tmp;simp only[gj]at C;simp only[ar,ab,reduceIte]at e f h;simp only[go_sem,ab,ak,reduceCtorEq,C,l,r,m,o,wi,g.base,b,e,f,h,s,u,v,a,k,b2,b3,ff,H];exact⟨by simp,_,rfl,.inr ⟨by simp,rfl,by simp[ar,a]⟩⟩
  have:i=t.ns.length:=by lia
  subst this;rw[fm]at acc;rcases acc with ⟨a1,rfl⟩|⟨a1,rfl,a3⟩
  ·simp only[go_sem,ab,ak,reduceCtorEq,q,l,k,r,b2,m,b3,o,al,B];rw[p9,bc a1]
  simp only[go_sem,ab,ak,reduceCtorEq,q,l,k,r,b2,m,b3,o,al,B,a3,ff];rw[p9,aq a1]
 refine j.Nl (Wk.agg (by simp[vt]) λi x y hx hy=>?_)
 match i with
 |0=>simp only[vt,iw,av]at hx hy;subst hx hy;exact Wk.refl _
 |1=>simp only[vt,mq,iw,av]at hx hy;subst hx hy;exact By
 |i+2=>simp at hx
end
def mS(ls:List (List Sp)):Nat->Int
 |0=>ls.length
 |k+1=>Qy aj (mS ls k+(ls.getD k []).length)
def sS(ls:List (List Sp)):Bool:=decide (mS ls ls.length<=100)
def Gw(s:ByteArray):Bool:=decide (s.size<=100)
def Z5(f:Ft)(ps:List Pm):Bool:=
 ((fc (min ps.length 40)).all λi=>Gw ((ps.map Pm.n).getD i ⟨#[]⟩))&&(((fc (min f.vs.length 40)).all λi=>Gw (f.vs.getD i v0).n)&&
  (decide (ps.length<=40)&&(decide (f.vs.length<=40)&&sS f.ls)))
def R1(t:Tr)(i:Nat):Bool:=
 Z5 (t.ns.getD i n0).f t.ps&&(Gw (t.ns.getD i n0).n&&(decide ((t.ns.getD i n0).ins.length<=10)&&(fc (t.ns.getD i n0).ins.length).all λk=>Gw ((t.ns.getD i n0).ins.getD k ⟨#[]⟩)))
def bO(t:Tr):Bool:=decide (t.ns.length<=25)&&(fc t.ns.length).all (R1 t)
section
variable{P:Program}(A:Pr P)
theorem KQ(ls:List (List Sp))(h:ls.length<=2^50):iv P A.Gh [.agg [kh ls]] (.bool (sS ls)):=by
 refine ez A.mo A.pI (by simp) ?_;show l7 P Rp (ly _ _) _;simp only[Rp,kh,go_sem,ab,al];refine gf ls.length (λi s'=>s'.tmp 1= .gz 1 (s'.ba 1) 0/\s'.di 1=aa (.loc [.d (.gd 1 (ls.map λl=>[uu l]))])/\s'.tmp 4= .d (.int aj i)/\s'.tmp 3= .d (.int aj (mS ls i))) ?_ ?_
 ·simp only[go_sem,ab,mS,fZ]
 rintro i s' m ⟨e,c,g,f⟩;by_cases j:(i:Int)<ls.length
 ·have a:i<ls.length:=by lia
  have wi:=dr ((i:Int)+1) (by lia) (by lia)
  have b:ls.getD i []=ls[i]:=by simp[cz,a]
  have k:mS ls (i+1)=Qy aj (mS ls i+ls[i].length):=by rw[mS,b]
  simp only[go_sem,ab,reduceCtorEq,e,c,f,g,al,j,Fo a,bn,aw,wi,a,k];simp
 have:i=ls.length:=by lia
 subst this;simp only[go_sem,ab,reduceCtorEq,e,c,f,g,al,j,sS]
theorem KP(f:Ft)(ps:List Pm)(h:f.ls.length<=2^50)(y:f.vs.length<=2^50)(z:ps.length<=2^50):iv P A.Gg [.agg (cFt f),ki ps] (.bool (Z5 f ps)):=by
 refine ez A.mo A.pG (by simp) ?_;show l7 P (Rn A.Gh) (ly _ _) _;have hs:=KQ A f.ls h;simp only[kh]at hs;unfold Z5;simp only[Rn,cFt,qx,kh,ki,go_sem,ak];refine wv (λs'=>s'.tmp 1= .d (.gd 2 (ps.map mg))/\s'.tmp 2= .gz 2 (s'.ba 2) 0/\s'.di 2=aa (.loc [.d (.int aj f.k),.d (.gd 3 (f.vs.map B4)),.d (.gd 1 (f.ls.map λl=>[uu l]))])/\((fc (min ps.length 40)).all λi=>Gw ((ps.map Pm.n).getD i ⟨#[]⟩))=ah) ?_ ?_
 ·refine gf 40 (λi s'=>s'.tmp 1= .d (.gd 2 (ps.map mg))/\s'.tmp 2= .gz 2 (s'.ba 2) 0/\s'.di 2=aa (.loc [.d (.int aj f.k),.d (.gd 3 (f.vs.map B4)),.d (.gd 1 (f.ls.map λl=>[uu l]))])/\s'.tmp 5= .d (.int aj i)/\i<=ps.length/\
   ∀c,c<i->Gw ((ps.map Pm.n).getD c ⟨#[]⟩)=ah) ?_ ?_
  ·simp only[go_sem,ab];simp
  rintro i s' x ⟨a,b,b2,r,u,m⟩;by_cases o:(i:Int)<ps.length
  ·have q:i<ps.length:=by lia
   have wi:=dr ((i:Int)+1) (by lia) (by lia);have t:=aT q
   have p:(ps.map Pm.n).getD i ⟨#[]⟩=ps[i].n:=by simp[cz,q]
   by_cases e:(i:Int)<40
   ·simp only[go_sem,ab,ak,ao,reduceCtorEq,a,r,al,o,e,t,bn,aw];by_cases c1:(100:Int)<ps[i].n.size
    ·have:((fc (min ps.length 40)).all λi=>Gw ((ps.map Pm.n).getD i ⟨#[]⟩))=false:=all_false (k:=i) (by lia) (by rw[p];unfold Gw;simp;lia);simp only[go_sem,ab,c1,this,fh]
    simp only[go_sem,ab,reduceCtorEq,a,b,b2,r,c1,wi];exact⟨by lia,by simp,by lia,rz m (by rw[p];unfold Gw;simp;lia)⟩
   simp only[go_sem,ab,reduceCtorEq,a,b,b2,r,al,o,e];exact all_true λc s=>m c (by lia)
  simp only[go_sem,ab,reduceCtorEq,a,b,b2,r,al,o];exact all_true λc s=>m c (by lia)
 rintro s' ⟨a,b,b2,w⟩;rw[w,rv];simp only[go_sem];refine wv (λs'=>s'.tmp 1= .d (.gd 2 (ps.map mg))/\s'.tmp 2= .gz 2 (s'.ba 2) 0/\s'.di 2=aa (.loc [.d (.int aj f.k),.d (.gd 3 (f.vs.map B4)),.d (.gd 1 (f.ls.map λl=>[uu l]))])/\((fc (min f.vs.length 40)).all λi=>Gw (f.vs.getD i v0).n)=ah) ?_ ?_
 ·refine gf 40 (λi s'=>s'.tmp 1= .d (.gd 2 (ps.map mg))/\s'.tmp 2= .gz 2 (s'.ba 2) 0/\s'.di 2=aa (.loc [.d (.int aj f.k),.d (.gd 3 (f.vs.map B4)),.d (.gd 1 (f.ls.map λl=>[uu l]))])/\s'.tmp 6= .d (.int aj i)/\i<=f.vs.length/\
   ∀c,c<i->Gw (f.vs.getD c v0).n=ah) ?_ ?_
  ·simp only[go_sem,ab,a,b,b2];simp
  clear a b b2;rintro i s' x ⟨a,b,b2,f6,u,m⟩;by_cases o:(i:Int)<f.vs.length
  ·have q:i<f.vs.length:=by lia
   have wi:=dr ((i:Int)+1) (by lia) (by lia);have t:=Wq q;by_cases e:(i:Int)<40
   ·simp only[go_sem,ab,ak,ao,reduceCtorEq,b,b2,f6,al,o,e,t,bn,aw];by_cases c1:(100:Int)<(f.vs.getD i v0).n.size
    ·have:((fc (min f.vs.length 40)).all λi=>Gw (f.vs.getD i v0).n)=false:=all_false (k:=i) (by lia) (by unfold Gw;simp only[decide_eq_false_iff_not];lia);simp only[go_sem,ab,c1,this,fh]
    simp only[go_sem,ab,reduceCtorEq,a,b,b2,f6,c1,wi];exact⟨by lia,by simp,by lia,rz m (by unfold Gw;simp only[decide_eq_true_eq];lia)⟩
   simp only[go_sem,ab,ak,ao,reduceCtorEq,a,b,b2,f6,al,o,e];exact all_true λc s=>m c (by lia)
  simp only[go_sem,ab,ak,ao,reduceCtorEq,a,b,b2,f6,al,o];exact all_true λc s=>m c (by lia)
 clear a b b2;rintro s' ⟨a,b,b2,hb⟩;rw[hb,rv];by_cases c1:(ps.length:Int)<=40
 ·have g:ps.length<=40:=by lia
  by_cases v:(f.vs.length:Int)<=40
  ·have j:f.vs.length<=40:=by lia
   simp only[go_sem,ab,ak,ao,reduceCtorEq,a,b,b2,al,c1,g,v,j];refine gq hs ?_;simp only[go_sem,ab]
  have j:¬f.vs.length<=40:=by lia
  simp only[go_sem,ab,ak,ao,reduceCtorEq,a,b,b2,al,c1,g,v,j,fh]
 have g:¬ps.length<=40:=by lia
 simp only[go_sem,ab,reduceCtorEq,a,al,c1,g,fh]
def a8i(t:Tr):Prop:=t.ps.length<=2^50/\∀n∈t.ns,n.f.ls.length<=2^50/\n.f.vs.length<=2^50
theorem qI(t:Tr)(hb:a8i t):iv P A.vp [.agg (vt t)] (.bool (bO t)):=by
 refine ez A.mo A.pD (by simp) ?_;show l7 P (Mp A.Gg) (ly _ _) _;unfold bO;by_cases c0:(25:Int)<t.ns.length
 ·have b:¬t.ns.length<=25:=by lia
  simp only[Mp,vt,ki,lr,go_sem,ab,ak,reduceCtorEq,al,c0,b,fh]
 have b:t.ns.length<=25:=by lia
 simp only[Mp,vt,ki,lr,go_sem,ab,ak,reduceCtorEq,al,c0,b];refine gf t.ns.length (λi s'=>s'.base=0/\s'.tmp 1= .gz 1 (s'.ba 1) 0/\s'.di 1=aa (.loc [.d (.gd 2 (t.ps.map mg)),.d (.gd 5 (t.ns.map pa))])/\s'.tmp 3= .d (.int aj i)/\∀C,C<i->R1 t C=ah) ?_ ?_
 ·simp only[go_sem,ab];simp
 rintro i s' G ⟨g,c,a,e,y⟩;by_cases D:(i:Int)<t.ns.length
 ·have m:i<t.ns.length:=by lia
  have wi:=dr ((i:Int)+1) (by lia) (by lia);have B:=J6 m
  have u:t.ns.getD i n0=t.ns[i]:=by simp[cz,m]
  obtain⟨q1,q2⟩:=hb.2 _ (dj m);rw[<-u]at q1 q2;have p:R1 t i=(Z5 (t.ns.getD i n0).f t.ps&&(Gw (t.ns.getD i n0).n&&(decide ((t.ns.getD i n0).ins.length<=10)&&(fc (t.ns.getD i n0).ins.length).all λk=>Gw ((t.ns.getD i n0).ins.getD k ⟨#[]⟩)))):=rfl;have no:R1 t i=ag->(fc t.ns.length).all (R1 t)=false:=λh=>all_false m h;have o:=KP A (t.ns.getD i n0).f t.ps q1 q2 hb.1
  generalize t.ns.getD i n0=n at*
  simp only[cFt,qx,kh,ki]at o;simp only[qx,kh,kn]at B;simp only[go_sem,ab,ak,ao,reduceCtorEq,g,c,a,e,al,D,B,bn,aw];refine ir o ?_;cases c1:Z5 n.f t.ps
  ·have:R1 t i=false:=by rw[p,c1];rfl
   simp only[go_sem,ab,no this]
  by_cases q:(100:Int)<n.n.size
  ·have:R1 t i=false:=by rw[p,show Gw n.n=ag by unfold Gw;simp;lia];simp
   simp only[go_sem,ab,ak,ao,reduceCtorEq,q,no this]
  by_cases c3:(10:Int)<n.ins.length
  ·have:R1 t i=false:=by rw[p,decide_eq_false (show¬n.ins.length<=10 by lia)];simp
   simp only[go_sem,ab,ak,ao,reduceCtorEq,q,c3,al,no this]
  have j:R1 t i=(fc n.ins.length).all λk=>Gw (n.ins.getD k ⟨#[]⟩):=by
   rw[p,c1,show Gw n.n=ah by unfold Gw;simp;lia,decide_eq_true (show n.ins.length<=10 by lia)];rfl
  simp only[go_sem,ab,ak,ao,reduceCtorEq,q,c3,al];refine gf n.ins.length (λk s'=>s'.base=0/\s'.tmp 1= .gz 1 (s'.ba 1) 0/\s'.di 1=aa (.loc [.d (.gd 2 (t.ps.map mg)),.d (.gd 5 (t.ns.map pa))])/\s'.tmp 3= .d (.int aj i)/\s'.tmp 4= .gz 4 (s'.ba 4) 0/\s'.di 4=aa (.loc [.d (.str n.n),.d (.int aj n.f.k),.d (.gd 3 (n.f.vs.map B4)),.d (.gd 1 (n.f.ls.map λl=>[uu l])),.d (.gd 1 (n.ins.map qt))])/\s'.tmp 5= .d (.int aj k)/\∀E,E<k->Gw (n.ins.getD E ⟨#[]⟩)=ah) ?_ ?_
  ·simp only[go_sem,ab,c,a,e];simp
  clear g c a e;rintro k I H ⟨g,c,a,e,r,b4,s,z⟩;by_cases w:(k:Int)<n.ins.length
  ·have v:k<n.ins.length:=by lia
   have F:=dr ((k:Int)+1) (by lia) (by lia);simp only[go_sem,ab,ak,reduceCtorEq,g,r,b4,s,al,w,J0 v,bn,aw];by_cases x:(100:Int)<(n.ins.getD k ⟨#[]⟩).size
   ·have:R1 t i=false:=by rw[j];exact all_false v (by unfold Gw;simp only[decide_eq_false_iff_not];lia)
    simp only[go_sem,ab,x,no this]
   simp only[go_sem,ab,reduceCtorEq,c,a,e,r,b4,s,x,F,v];exact⟨by simp,rz z (by unfold Gw;simp only[decide_eq_true_eq];lia)⟩
  have:k=n.ins.length:=by lia
  subst this;simp only[go_sem,ab,ak,reduceCtorEq,g,c,a,e,r,b4,s,al,w,wi,m];exact⟨by simp,rz y (by rw[j];exact all_true z)⟩
 have:i=t.ns.length:=by lia
 subst this;rw[all_true y];simp only[go_sem,ab,ak,reduceCtorEq,g,c,a,e,al,D]
end
theorem iv.args{P:Program}{f:Nat}{xs ys:List D}{r:D}(h:iv P f xs r)(j:ys.length=xs.length)(g:∀(i:Nat) (x y:D),xs[i]? =aa x->ys[i]? =aa y->Wk y x):iv P f ys r:=
 ⟨h.1,λG w vs b c d=>h.2 G w vs b (by lia) λi x v hx e=>by
  have a:i<ys.length:=by have:=(bd.1 hx).1;lia
  exact g i x _ hx (bh a) G v (d i _ v (bh a) e)⟩
theorem iv.ac1{P:Program}{f:Nat}{x y:D}{r:D}(h:iv P f [x] r)(d:Wk y x):iv P f [y] r:=
 h.args rfl λi a b c hb=>by
  match i with
  |0=>simp at c hb;subst c hb;exact d
  |i+1=>simp at c
def GY(a b:List ByteArray):Bool:=decide (a.length=b.length)&&(fc a.length).all λi=>i6 (a.getD i ⟨#[]⟩) (b.getD i ⟨#[]⟩)
theorem CH(a:List ByteArray):GY a a=true:=by
 unfold GY;rw[decide_eq_true rfl,rv];exact all_true λi _=>Dy _
theorem a0j(a:ByteArray):(a==a)=true:=by
 have:(a==a)=(a.data==a.data):=rfl;rw[this];exact ff _
section
variable{P:Program}(A:Pr P)
theorem a2r(a b:List ByteArray)(h:a.length<=2^50):iv P A.I9 [kn a,kn b] (.bool (GY a b)):=by
 refine ez A.mo A.uZ (by simp) ?_;show l7 P Oz (ly _ _) _;unfold GY;by_cases c0:a.length=b.length
 ·have e:((a.length:Int) !=b.length)=false:=by simp[c0]
  simp only[Oz,kn,go_sem,ab,reduceCtorEq,al,e];refine gf a.length (λi s'=>s'.tmp 0= .d (.gd 1 (a.map qt))/\s'.tmp 1= .d (.gd 1 (b.map qt))/\s'.tmp 5= .d (.int aj i)/\∀l,l<i->i6 (a.getD l ⟨#[]⟩) (b.getD l ⟨#[]⟩)=ah) ?_ ?_
  ·simp only[go_sem,ab,reduceCtorEq]
   try simp
  rintro i s' p ⟨j,n,k,o⟩;by_cases m:(i:Int)<a.length
  ·have g:i<a.length:=by lia
   have f:i<b.length:=by lia
   have wi:=dr ((i:Int)+1) (by lia) (by lia);cases c1:i6 (a.getD i ⟨#[]⟩) (b.getD i ⟨#[]⟩)
   ·have c:=c1;unfold i6 at c;simp only[go_sem,ab,reduceCtorEq,j,n,k,al,m,J0 g,J0 f,bn,aw,c];rw[all_false g c1,sf]
   have c:=c1;unfold i6 at c;simp only[go_sem,ab,reduceCtorEq,j,n,k,al,m,J0 g,J0 f,bn,aw,c,wi,g];exact⟨by simp,rz o c1⟩
  have:i=a.length:=by lia
  subst this;simp only[go_sem,ab,reduceCtorEq,j,k,al,m];rw[all_true o,decide_eq_true c0,Iq]
 have e:((a.length:Int) !=b.length)=true:=by simp;lia
 simp only[Oz,kn,go_sem,ab,reduceCtorEq,al,e];rw[decide_eq_false c0,fh]
theorem Zb(t:Tr)(T:t.ps.length<=2^50)(hs:Om t):iv P A.Ee [.agg (vt t),.agg (vt t)] (.bool ah):=by
 refine ez A.mo A.pE (by simp) ?_;show l7 P (Rl A.uo A.I9) (ly _ _) _;obtain⟨Q,G⟩:=hs;simp only[Rl,vt,ki,lr,go_sem,ab,ak,ao,reduceCtorEq,al,bne_self_eq_false];refine wv (λs'=>s'.base=0/\s'.tmp 2= .gz 2 (s'.ba 2) 0/\s'.di 2=aa (.loc [.d (.gd 2 (t.ps.map mg)),.d (.gd 5 (t.ns.map pa))])/\s'.tmp 3= .gz 3 (s'.ba 3) 0/\s'.di 3=aa (.loc [.d (.gd 2 (t.ps.map mg)),.d (.gd 5 (t.ns.map pa))])) ?_ ?_
 ·refine gf t.ps.length (λi s'=>s'.base=0/\s'.tmp 2= .gz 2 (s'.ba 2) 0/\s'.di 2=aa (.loc [.d (.gd 2 (t.ps.map mg)),.d (.gd 5 (t.ns.map pa))])/\s'.tmp 3= .gz 3 (s'.ba 3) 0/\s'.di 3=aa (.loc [.d (.gd 2 (t.ps.map mg)),.d (.gd 5 (t.ns.map pa))])/\s'.tmp 5= .d (.int aj i)) ?_ ?_
  ·simp only[go_sem,ab]
   try simp
  rintro i s' N ⟨b,a,b2,c,b3,K⟩;by_cases z:(i:Int)<t.ps.length
  ·have p:i<t.ps.length:=by lia
   have wi:=dr ((i:Int)+1) (by lia) (by lia)
   have w:(t.ps.map mg)[i]? =aa [.str t.ps[i].n,.int aj t.ps[i].v]:=by simp[p,mg]
   simp only[go_sem,ab,ak,ao,reduceCtorEq,b,a,b2,c,b3,K,al,z,w,bn,aw,ff,bne_self_eq_false,wi,p]
   try simp
  simp only[go_sem,ab,ak,ao,reduceCtorEq,b,a,b2,c,b3,K,al,z]
 rintro s' ⟨b,a,b2,c,b3⟩;simp only[go_sem];refine gf t.ns.length (λi s'=>s'.base=0/\s'.tmp 2= .gz 2 (s'.ba 2) 0/\s'.di 2=aa (.loc [.d (.gd 2 (t.ps.map mg)),.d (.gd 5 (t.ns.map pa))])/\s'.tmp 3= .gz 3 (s'.ba 3) 0/\s'.di 3=aa (.loc [.d (.gd 2 (t.ps.map mg)),.d (.gd 5 (t.ns.map pa))])/\s'.tmp 6= .d (.int aj i)) ?_ ?_
 ·simp only[go_sem,ab,b,a,b2,c,b3]
  try simp
 clear b a b2 c b3;rintro i s' N ⟨b,a,b2,c,b3,f6⟩;by_cases z:(i:Int)<t.ns.length
 ·have p:i<t.ns.length:=by lia
  have wi:=dr ((i:Int)+1) (by lia) (by lia);have w:=J6 p
  have E:t.ns.getD i n0=t.ns[i]:=by simp[cz,p]
  obtain⟨q1,q2,q3,q4⟩:=G _ (dj p);rw[<-E]at q1 q2 q3 q4;have M:=CQ A (t.ns.getD i n0) q2 q3 q4;have B:=a2r A (t.ns.getD i n0).ins (t.ns.getD i n0).ins (by lia);rw[CH]at B
  generalize t.ns.getD i n0=n at*
  simp only[qx,kh,kn]at w;simp only[pa,qx,kh,kn]at M;simp only[kn]at B;simp only[go_sem,ab,ak,reduceCtorEq,b,a,b2,f6,al,z,w,bn,aw];refine gq M ?_;simp only[go_sem,ab,ak,ao,c,b3,f6,w,bn,aw,ff];refine ir B ?_;simp only[go_sem,ab,ak,ao,reduceCtorEq,al,bne_self_eq_false]
  refine wv (λs'=>s'.base=0/\s'.tmp 2= .gz 2 (s'.ba 2) 0/\s'.di 2=aa (.loc [.d (.gd 2 (t.ps.map mg)),.d (.gd 5 (t.ns.map pa))])/\s'.tmp 3= .gz 3 (s'.ba 3) 0/\s'.di 3=aa (.loc [.d (.gd 2 (t.ps.map mg)),.d (.gd 5 (t.ns.map pa))])/\s'.tmp 6= .d (.int aj i)/\
   s'.tmp 7= .gz 7 (s'.ba 7) 0/\s'.di 7=aa (.loc [.d (.str n.n),.d (.int aj n.f.k),.d (.gd 3 (n.f.vs.map B4)),.d (.gd 1 (n.f.ls.map λl=>[uu l])),.d (.gd 1 (n.ins.map qt))])/\s'.tmp 8= .gz 8 (s'.ba 8) 0/\s'.di 8=aa (.loc [.d (.str n.n),.d (.int aj n.f.k),.d (.gd 3 (n.f.vs.map B4)),.d (.gd 1 (n.f.ls.map λl=>[uu l])),.d (.gd 1 (n.ins.map qt))])) ?_ ?_
  ·refine gf n.f.vs.length (λk s'=>s'.base=0/\s'.tmp 2= .gz 2 (s'.ba 2) 0/\s'.di 2=aa (.loc [.d (.gd 2 (t.ps.map mg)),.d (.gd 5 (t.ns.map pa))])/\s'.tmp 3= .gz 3 (s'.ba 3) 0/\s'.di 3=aa (.loc [.d (.gd 2 (t.ps.map mg)),.d (.gd 5 (t.ns.map pa))])/\s'.tmp 6= .d (.int aj i)/\
    s'.tmp 7= .gz 7 (s'.ba 7) 0/\s'.di 7=aa (.loc [.d (.str n.n),.d (.int aj n.f.k),.d (.gd 3 (n.f.vs.map B4)),.d (.gd 1 (n.f.ls.map λl=>[uu l])),.d (.gd 1 (n.ins.map qt))])/\s'.tmp 8= .gz 8 (s'.ba 8) 0/\s'.di 8=aa (.loc [.d (.str n.n),.d (.int aj n.f.k),.d (.gd 3 (n.f.vs.map B4)),.d (.gd 1 (n.f.ls.map λl=>[uu l])),.d (.gd 1 (n.ins.map qt))])/\s'.tmp 9= .d (.int aj k)) ?_ ?_
   ·simp only[go_sem,ab,a,b2,c,b3,f6]
    try simp
   clear b a b2 c b3 f6;rintro k s' O ⟨b,a,b2,c,b3,f6,h,g,o,m,L⟩;by_cases r:(k:Int)<n.f.vs.length
   ·have q:k<n.f.vs.length:=by lia
    have H:=dr ((k:Int)+1) (by lia) (by lia);simp only[go_sem,ab,ak,ao,reduceCtorEq,b,a,b2,c,b3,f6,h,g,o,m,L,al,r,Wq q,bn,aw,ff,a0j,H,q]
    try simp
   simp only[go_sem,ab,ak,ao,reduceCtorEq,b,a,b2,c,b3,f6,h,g,o,m,L,al,r]
  clear b a b2 c b3 f6;rintro s' ⟨b,a,b2,c,b3,f6,h,g,o,m⟩;simp only[go_sem]
  refine gf n.f.ls.length (λk s'=>s'.base=0/\s'.tmp 2= .gz 2 (s'.ba 2) 0/\s'.di 2=aa (.loc [.d (.gd 2 (t.ps.map mg)),.d (.gd 5 (t.ns.map pa))])/\s'.tmp 3= .gz 3 (s'.ba 3) 0/\s'.di 3=aa (.loc [.d (.gd 2 (t.ps.map mg)),.d (.gd 5 (t.ns.map pa))])/\s'.tmp 6= .d (.int aj i)/\
   s'.tmp 7= .gz 7 (s'.ba 7) 0/\s'.di 7=aa (.loc [.d (.str n.n),.d (.int aj n.f.k),.d (.gd 3 (n.f.vs.map B4)),.d (.gd 1 (n.f.ls.map λl=>[uu l])),.d (.gd 1 (n.ins.map qt))])/\s'.tmp 8= .gz 8 (s'.ba 8) 0/\s'.di 8=aa (.loc [.d (.str n.n),.d (.int aj n.f.k),.d (.gd 3 (n.f.vs.map B4)),.d (.gd 1 (n.f.ls.map λl=>[uu l])),.d (.gd 1 (n.ins.map qt))])/\s'.tmp 10= .d (.int aj k)) ?_ ?_
  ·simp only[go_sem,ab,b,a,b2,c,b3,f6,h,g,o,m]
   try simp
  clear b a b2 c b3 f6 h g o m;rintro k s' O ⟨b,a,b2,c,b3,f6,h,g,o,m,e⟩;by_cases r:(k:Int)<n.f.ls.length
  ·have q:k<n.f.ls.length:=by lia
   have H:=dr ((k:Int)+1) (by lia) (by lia)
   have y:n.f.ls.getD k []=n.f.ls[k]:=by simp[cz,q]
   have F:=q4 _ (dj q);rw[<-y]at F;have x:=Fo q;rw[<-y]at x
   generalize n.f.ls.getD k []=l at*
   simp only[go_sem,ab,ak,ao,reduceCtorEq,b,h,g,o,m,e,al,r,x,bn,aw,bne_self_eq_false]
   refine gf l.length (λj s'=>s'.base=0/\s'.tmp 2= .gz 2 (s'.ba 2) 0/\s'.di 2=aa (.loc [.d (.gd 2 (t.ps.map mg)),.d (.gd 5 (t.ns.map pa))])/\s'.tmp 3= .gz 3 (s'.ba 3) 0/\s'.di 3=aa (.loc [.d (.gd 2 (t.ps.map mg)),.d (.gd 5 (t.ns.map pa))])/\s'.tmp 6= .d (.int aj i)/\
    s'.tmp 7= .gz 7 (s'.ba 7) 0/\s'.di 7=aa (.loc [.d (.str n.n),.d (.int aj n.f.k),.d (.gd 3 (n.f.vs.map B4)),.d (.gd 1 (n.f.ls.map λl=>[uu l])),.d (.gd 1 (n.ins.map qt))])/\s'.tmp 8= .gz 8 (s'.ba 8) 0/\s'.di 8=aa (.loc [.d (.str n.n),.d (.int aj n.f.k),.d (.gd 3 (n.f.vs.map B4)),.d (.gd 1 (n.f.ls.map λl=>[uu l])),.d (.gd 1 (n.ins.map qt))])/\s'.tmp 10= .d (.int aj k)/\
    s'.tmp 11= .d (.gd 2 (l.map Ci))/\s'.tmp 12= .d (.gd 2 (l.map Ci))/\s'.tmp 13= .d (.int aj j)) ?_ ?_
   ·simp only[go_sem,ab,a,b2,c,b3,f6,h,g,o,m,e]
    try simp
   clear b a b2 c b3 f6 h g o m e;rintro j s' S ⟨b,a,b2,c,b3,f6,h,g,o,m,e,s,C,u⟩;by_cases I:(j:Int)<l.length
   ·have J:j<l.length:=by lia
    have R:=dr ((j:Int)+1) (by lia) (by lia)
    have D:(l.map Ci)[j]? =aa [.int aj l[j].1,.int aj l[j].2]:=by simp[J,Ci]
    simp only[go_sem,ab,ak,reduceCtorEq,b,a,b2,c,b3,f6,h,g,o,m,e,s,C,u,al,I,D,bn,aw,ff,R,J]
    try simp
   simp only[go_sem,ab,reduceCtorEq,b,a,b2,c,b3,f6,h,g,o,m,e,s,u,al,I,H,q]
   try simp
  simp only[go_sem,ab,ak,ao,reduceCtorEq,b,a,b2,c,b3,f6,h,g,e,al,r,wi,p]
  try simp
 simp only[go_sem,ab,ak,reduceCtorEq,b,a,b2,f6,al,z]
end
def Am(p:Nat->Bool)(n:Nat):Int:=match(fc n).find? p with|some i=>i|none=> -1
theorem Qp{p:Nat->Bool}{n:Nat}(h:∀i,i<n->p i=ag):Am p n= -1:=by
 have:(fc n).find? p=none:=Yw.2 λi a=>by simp[h i (er.1 a)]
 unfold Am;rw[this]
theorem EV{p:Nat->Bool}:∀{n k:Nat},k<n->p k=ah->(∀i,i<k->p i=ag)->(fc n).find? p=aa k:=by
 intro n
 induction n with
 |zero=>intro k c;lia
 |succ n d=>
  intro k c a hb;rw[adb,List.find?_append];by_cases e:k=n
  ·subst e;rw[Yw.2 λi b=>by simp[hb i (er.1 b)]];simp[a]
  rw[d (by lia) a hb];rfl
theorem Nb{p:Nat->Bool}{n k:Nat}(a:k<n)(b:p k=ah)(hb:∀i,i<k->p i=ag):Am p n=k:=by
 unfold Am;rw[EV a b hb]
theorem T1{p:Nat->Bool}{n:Nat}:decide (Am p n>=0)=(fc n).any p:=by
 unfold Am
 cases h:(fc n).find? p with
 |none=>
  rw[Yw]at h
  have:(fc n).any p=false:=by
   rw[wL]
   exact λi c=>by simpa using h i c
  rw[this];rfl
 |some k=>
  have a:=List.find?_some h;have b:=W7 h;have:(fc n).any p=true:=Bm.2 ⟨k,b,a⟩;rw[this]
  try simp
theorem Ju(p:Nat->Bool)(n:Nat):(Am p n= -1/\∀i,i<n->p i=ag)\/∃k,k<n/\p k=ah/\Am p n=k/\∀i,i<k->p i=false:=by
 cases h:(fc n).find? p with
 |none=>
  rw[Yw]at h
  exact .inl (by
   have c:∀i,i<n->p i=false:=λi f=>by simpa using h i (er.2 f)
   exact⟨Qp c,c⟩)
 |some k=>
  obtain⟨j,a,q,d,l⟩:=bI.1 h;have m:=er.1 (W7 h);refine .inr ⟨k,m,j,by unfold Am;rw[h],λi f=>?_⟩
  have g:a.length=k:=by
   have b:(fc n)[a.length]? =aa k:=by rw[d];simp
   have o:a.length<n:=by
    have:=(bd.1 b).1;simpa using this
   rw[Nk o]at b;exact a8l b
  have:a[i]? =aa i:=by
   have e:(fc n)[i]? =aa i:=Nk (by lia);rw[d,kq (by lia)]at e;exact e
  simpa using l i (pw this)
def a6m(n:Nat)(agg:Bool):eh:=
 (.seq (
 .region [⟨aa 4,.kf (.c (.int aj 0)),ae,[]⟩] ag []) (
 (.seq (
  (.seq (
  .region [⟨aa 6,.kf (.t 0),ae,[]⟩,
   ⟨aa 7,.len .gd (.t 6),ae,[]⟩,
   ⟨aa 8,.kf (.c (.int aj 0)),ae,[]⟩] ag []) (
  (.block 0 (
   (.loop (
   (.seq (
    .region [⟨aa 9,.bin .lss (.t 8) (.t 7),ae,[]⟩] ag []) (
    (.seq (
    (.cond (.t 9) (
     .skip) (
     .exit 0))) (
    (.seq (
     (.block 1 (
     (.seq (
      .region [⟨aa 10,.kf (.t 8),ae,[]⟩,
       ⟨aa 5,.kf (.t 10),ae,[]⟩] ag []) (
      (.seq (
      .region [⟨aa 11,.kf (.t 1),ae,[]⟩,
       ⟨aa 12,.kf (.t 0),ae,[]⟩,
       ⟨aa 13,.kf (.t 5),ae,[]⟩,
       ⟨aa 14,.xn n (.t 12) (.t 13),ae,[]⟩,
       ⟨aa 15,.load n agg (.t 14),ae,[]⟩,
       ⟨aa 16,.zq (.t 11) [(.t 15)],ae,[]⟩] ag []) (
      (.cond (.t 16) (
       (.seq (
       .region [⟨aa 17,.kf (.t 5),ae,[]⟩,
        ⟨aa 4,.kf (.t 17),ae,[]⟩] ag []) (
       .ret))) (
       .skip))))))))) (
     .region [⟨aa 18,.bin .add (.t 8) (.c (.int aj 1)),ae,[]⟩,
      ⟨aa 8,.kf (.t 18),ae,[]⟩] ag []))))))))))))) (
  (.seq (
  .region [⟨aa 4,.kf (.c (.int aj (-1))),ae,[]⟩] ag []) (
  .ret))))))
def a81(f:Nat):eh:=
 (.seq (
 .region [⟨aa 4,.kf (.c (.bool ag)),ae,[]⟩] ag []) (
 (.seq (
  .region [⟨aa 5,.kf (.t 0),ae,[]⟩,
   ⟨aa 6,.kf (.t 1),ae,[]⟩,
   ⟨aa 7,.call f [(.t 5),(.t 6)],ae,[]⟩,
   ⟨aa 8,.bin .geq (.t 7) (.c (.int aj 0)),ae,[]⟩,
   ⟨aa 4,.kf (.t 8),ae,[]⟩] ag []) (
  .ret))))
theorem RM{n:Nat}{agg:Bool}{e:List D}(h:e.length=n):mkd agg (afl n e)=mkd agg e:=by rw[<-h,fm]
section
variable{P:Program}(A:Pr P)
theorem jU{n:Nat}{agg:Bool}{dv:List (List D)}{xs:Nat->D}{g:Nat}{j9:List D}{p:Nat->Bool}(hx:∀(i:Nat) (e:List D),dv[i]? =aa e->e.length=n/\mkd agg e= .d (xs i))
  (t:∀i,i<dv.length->iv P g (xs i::j9) (.bool (p i)))(v:dv.length<=2^50):l7 P (a6m n agg) (ly [.tmp 4] (.int aj (Am p dv.length))) (start [.gd n dv,.qb g j9]):=by
 simp only[a6m,go_sem,ab,cu,reduceCtorEq];refine gf dv.length (λi s'=>s'.tmp 0= .d (.gd n dv)/\s'.tmp 1= .d (.qb g j9)/\s'.tmp 7= .d (.int aj dv.length)/\s'.tmp 8= .d (.int aj i)/\∀o,o<i->p o=ag) ?_ ?_
 ·simp only[go_sem,ab,reduceCtorEq]
  try simp
 rintro i s' u ⟨k,l,b,c,h⟩;by_cases q:(i:Int)<dv.length
 ·have a:i<dv.length:=by lia
  have wi:=dr ((i:Int)+1) (by lia) (by lia);obtain⟨e,m⟩:∃e,dv[i]? =aa e:=⟨_,bh a⟩;obtain⟨r,s⟩:=hx i e m;have f:=s;rw[<-RM r]at f;simp only[mkd]at f
  have j:n<=e.length:=by lia
  simp only[go_sem,ab,cu,reduceCtorEq,k,l,b,c,q,m,bn,aw,j,f];refine mX (t i a) ?_;cases c1:p i
  ·simp only[go_sem,ab,cu,reduceCtorEq,k,l,b,c,wi,a];exact⟨by simp,rz h c1⟩
  simp only[go_sem,ab,cu];rw[Nb a c1 h]
 have:i=dv.length:=by lia
 subst this;simp only[go_sem,ab,cu,reduceCtorEq,b,c,q];rw[Qp h]
theorem tU{f:Nat}{x y:D}{k:Int}(h:iv P f [x,y] (.int aj k)):l7 P (a81 f) (ly [.tmp 4] (.bool (decide (k>=0)))) (start [x,y]):=by
 simp only[a81,go_sem,ab,reduceCtorEq];refine ir h ?_;simp only[go_sem,ab,reduceCtorEq]
theorem PV{l:List Vl}{g:Nat}{j9:List D}{p:Nat->Bool}(f:∀i (h:i<l.length),iv P g (.agg (B4 l[i])::j9) (.bool (p i)))(d:l.length<=2^50):
  iv P A.re [qx l,.qb g j9] (.int aj (Am p l.length)):=by
 have:=jU (P:=P) (n:=3) (agg:=ah) (dv:=l.map B4) (xs:=λi=> .agg (B4 (l.getD i v0))) (g:=g) (j9:=j9) (p:=p) (λi e b=>by
  simp only[dn,ax]at b;obtain⟨v,j,rfl⟩:=b
  simp[B4,mkd,cz,j]) (λi c=>by
   have a:i<l.length:=by simpa using c
   have e:l.getD i v0=l[i]:=by simp[cz,a]
   rw[e];exact f i a) (by simpa using d)
 rw[al]at this;exact ez A.mo A.Kw (by simp) this
theorem QB{l:List Vl}{g:Nat}{j9:List D}{p:Nat->Bool}(b:∀i (h:i<l.length),iv P g (.agg (B4 l[i])::j9) (.bool (p i)))(a:l.length<=2^50):
  iv P A.o7 [qx l,.qb g j9] (.bool ((fc l.length).any p)):=by
 rw[<-T1];exact ez A.mo A.Ix (by simp) (tU (PV A b a))
theorem xP{l:List Nd}{g:Nat}{j9:List D}{p:Nat->Bool}(f:∀i (h:i<l.length),iv P g (.agg (pa l[i])::j9) (.bool (p i)))(d:l.length<=2^50):
  iv P A.jo [lr l,.qb g j9] (.int aj (Am p l.length)):=by
 have:=jU (P:=P) (n:=5) (agg:=ah) (dv:=l.map pa) (xs:=λi=> .agg (pa (l.getD i n0))) (g:=g) (j9:=j9) (p:=p) (λi e b=>by
  simp only[dn,ax]at b;obtain⟨v,j,rfl⟩:=b
  simp[pa,mkd,cz,j]) (λi c=>by
   have a:i<l.length:=by simpa using c
   have e:l.getD i n0=l[i]:=by simp[cz,a]
   rw[e];exact f i a) (by simpa using d)
 rw[al]at this;exact ez A.mo A.Lk (by simp) this
theorem PW{l:List Pm}{g:Nat}{j9:List D}{p:Nat->Bool}(f:∀i (h:i<l.length),iv P g (.agg (mg l[i])::j9) (.bool (p i)))(d:l.length<=2^50):
  iv P A.ph [ki l,.qb g j9] (.int aj (Am p l.length)):=by
 have:=jU (P:=P) (n:=2) (agg:=ah) (dv:=l.map mg) (xs:=λi=> .agg (mg (l.getD i ⟨⟨#[]⟩,0⟩))) (g:=g) (j9:=j9) (p:=p) (λi e b=>by
  simp only[dn,ax]at b;obtain⟨v,j,rfl⟩:=b
  simp[mg,mkd,cz,j]) (λi c=>by
   have a:i<l.length:=by simpa using c
   have e:l.getD i ⟨⟨#[]⟩,0⟩=l[i]:=by simp[cz,a]
   rw[e];exact f i a) (by simpa using d)
 rw[al]at this;exact ez A.mo A.Kx (by simp) this
theorem xO{l:List Sp}{g:Nat}{j9:List D}{p:Nat->Bool}(f:∀i (h:i<l.length),iv P g (.agg (Ci l[i])::j9) (.bool (p i)))(d:l.length<=2^50):
  iv P A.lh [uu l,.qb g j9] (.int aj (Am p l.length)):=by
 have:=jU (P:=P) (n:=2) (agg:=ah) (dv:=l.map Ci) (xs:=λi=> .agg (Ci (l.getD i (0,0)))) (g:=g) (j9:=j9) (p:=p) (λi e b=>by
  simp only[dn,ax]at b;obtain⟨v,j,rfl⟩:=b
  simp[Ci,mkd,cz,j]) (λi c=>by
   have a:i<l.length:=by simpa using c
   have e:l.getD i (0,0)=l[i]:=by simp[cz,a]
   rw[e];exact f i a) (by simpa using d)
 rw[al]at this;exact ez A.mo A.Ll (by simp) this
theorem QC{l:List Sp}{g:Nat}{j9:List D}{p:Nat->Bool}(b:∀i (h:i<l.length),iv P g (.agg (Ci l[i])::j9) (.bool (p i)))(a:l.length<=2^50):
  iv P A.og [uu l,.qb g j9] (.bool ((fc l.length).any p)):=by
 rw[<-T1];exact ez A.mo A.Jl (by simp) (tU (xO A b a))
theorem KT{l:List ByteArray}{g:Nat}{j9:List D}{p:Nat->Bool}(f:∀i (h:i<l.length),iv P g (.str l[i]::j9) (.bool (p i)))(d:l.length<=2^50):
  iv P A.xc [kn l,.qb g j9] (.int aj (Am p l.length)):=by
 have:=jU (P:=P) (n:=1) (agg:=ag) (dv:=l.map qt) (xs:=λi=> .str (l.getD i ⟨#[]⟩)) (g:=g) (j9:=j9) (p:=p) (λi e b=>by
  simp only[dn,ax]at b;obtain⟨v,j,rfl⟩:=b
  simp[qt,mkd,cz,j]) (λi c=>by
   have a:i<l.length:=by simpa using c
   have e:l.getD i ⟨#[]⟩=l[i]:=by simp[cz,a]
   rw[e];exact f i a) (by simpa using d)
 rw[al]at this;exact ez A.mo A.Qd (by simp) this
theorem qL{l:List ByteArray}{g:Nat}{j9:List D}{p:Nat->Bool}(b:∀i (h:i<l.length),iv P g (.str l[i]::j9) (.bool (p i)))(a:l.length<=2^50):
  iv P A.lj [kn l,.qb g j9] (.bool ((fc l.length).any p)):=by
 rw[<-T1];exact ez A.mo A.Ob (by simp) (tU (KT A b a))
theorem xN(l:List ByteArray)(x:ByteArray)(n:l.length<=2^50):iv P A.Ah [kn l,.str x] (.int aj (Am (λi=>i6 x (l.getD i ⟨#[]⟩)) l.length)):=by
 refine ez A.mo A.Ul (by simp) ?_;show l7 P Gm (ly _ _) _;simp only[Gm,kn,go_sem,ab,cu,reduceCtorEq];refine gf l.length (λi s'=>s'.tmp 0= .d (.gd 1 (l.map qt))/\s'.tmp 1= .d (.str x)/\s'.tmp 7= .d (.int aj l.length)/\s'.tmp 8= .d (.int aj i)/\∀k,k<i->i6 x (l.getD k ⟨#[]⟩)=ag) ?_ ?_
 ·simp only[go_sem,ab,reduceCtorEq,al]
  try simp
 rintro i s' m ⟨h,j,c,e,f⟩;by_cases g:(i:Int)<l.length
 ·have b:i<l.length:=by lia
  have wi:=dr ((i:Int)+1) (by lia) (by lia);cases c1:i6 x (l.getD i ⟨#[]⟩)
  ·have a:=c1;unfold i6 at a;simp only[go_sem,ab,cu,reduceCtorEq,h,j,c,e,g,J0 b,bn,aw,a,wi,b];exact⟨by simp,rz f c1⟩
  have a:=c1;unfold i6 at a;simp only[go_sem,ab,cu,reduceCtorEq,h,j,c,e,g,J0 b,bn,aw,a];rw[Nb (p:=λi=>i6 x (l.getD i ⟨#[]⟩)) b c1 f]
 have:i=l.length:=by lia
 subst this;simp only[go_sem,ab,cu,reduceCtorEq,c,e,g];rw[Qp (p:=λi=>i6 x (l.getD i ⟨#[]⟩)) f]
theorem EM(l:List ByteArray)(x:ByteArray):(fc l.length).any (λi=>i6 x (l.getD i ⟨#[]⟩))=hasB l x:=by
 unfold hasB;rw[Uh,Bm,Bm];constructor
 ·rintro⟨i,a,h⟩;have a:=er.1 a;refine⟨l[i],dj a,?_⟩;simp only[cz,bh a,jj]at h;unfold i6 at h|-;rw[beq_iff_eq]at h|-;exact h.symm
 rintro⟨y,hy,h⟩;obtain⟨i,a,rfl⟩:=x8 hy;refine⟨i,er.2 a,?_⟩;simp only[cz,bh a,jj];unfold i6 at h|-;rw[beq_iff_eq]at h|-;exact h.symm
theorem V3(l:List ByteArray)(x:ByteArray)(a:l.length<=2^50):iv P A.ni [kn l,.str x] (.bool (hasB l x)):=by
 rw[<-EM,<-T1];exact ez A.mo A.Rx (by simp) (tU (xN A l x a))
end
theorem toList_eq(s:ByteArray):s.toList=s.data.toList:=ByteArray.toList_eq s
theorem IV(a b:ByteArray):(a==b)=i6 a b:=by
 unfold i6;rw[toList_eq,toList_eq];have:(a==b)=(a.data==b.data):=rfl;rw[this,Uh,beq_iff_eq,beq_iff_eq]
 exact⟨λh=>by rw[h],λh=>by
  have:=congrArg List.toArray h
  simpa using this⟩
theorem Z7{a b:ByteArray}(h:i6 a b=ah):a=b:=by
 unfold i6 at h;rw[beq_iff_eq,toList_eq,toList_eq]at h;have c:=congrArg List.toArray h;simp only[Array.toArray_toList]at c;cases a;cases b
 simp_all
def uJ{P:Program}(A:Pr P):List D:=[.str ⟨#[98,111,120]⟩,.int aj 0,.int aj 6,.qb A.Dv [],
 .str ⟨#[112,114,105,115,109]⟩,.int aj 0,.int aj 2,.qb A.Du [],.str ⟨#[115,108,97,110,116]⟩,.int aj 0,.int aj 4,.qb A.Dt [],
 .str ⟨#[112,121,114,97,109,105,100]⟩,.int aj 0,.int aj 4,.qb A.Ds [],.str ⟨#[117,110,105,111,110]⟩,.int aj 2,.int aj 0,.qb A.Dr [],
 .str ⟨#[105,110,116,101,114,115,101,99,116]⟩,.int aj 2,.int aj 0,.qb A.Dq [],.str ⟨#[115,117,98,116,114,97,99,116]⟩,.int aj 2,.int aj 0,.qb A.Dp [],
 .str ⟨#[99,108,105,112]⟩,.int aj 1,.int aj 4,.qb A.Hp [],.str ⟨#[115,104,105,102,116]⟩,.int aj 1,.int aj 3,.qb A.Dn [],
 .str ⟨#[115,121,109,109,101,116,114,121]⟩,.int aj 1,.int aj 1,.qb A.Dm [],.str ⟨#[115,99,97,108,101]⟩,.int aj 1,.int aj 2,.qb A.Cv [],
 .str ⟨#[115,117,109]⟩,.int aj 1,.int aj 6,.qb A.Cu [],.str ⟨#[99,111,114,101]⟩,.int aj 1,.int aj 6,.qb A.Ct [],
 .str ⟨#[114,101,112,101,97,116]⟩,.int aj 1,.int aj 4,.qb A.Fc []]
theorem rB{P:Program}(A:Pr P){k:Nat}(h:k<14):∃n c,((uJ A).drop (k*4)).take 4=[.str n,.int aj (kIn k),.int aj (Ji k),c]:=by
 match k,h with
 |0,_|1,_|2,_|3,_|4,_|5,_|6,_|7,_|8,_|9,_|10,_|11,_|12,_|13,_=>exact⟨_,_,rfl⟩
 |n+14,h=>lia
theorem cT{P:Program}(A:Pr P):(uJ A).length=56:=rfl
def Mk{P:Program}(A:Pr P)(pr:List (List Sp)->Bool):Prop:=
 ∀ls:List (List Sp),ls.length<=2^30->(∀l∈ls,l.length<=2^30)->iv P A.Da [.agg [kh ls]] (.int aj (if pr ls then 0 else 170))
section
variable{P:Program}(A:Pr P)
theorem Xf(l:List Pm):iv P A.po [ki l] (.int aj (if Av l then 0 else 1)):=by
 refine ez A.mo A.Up (by simp) ?_;show l7 P (Cz A.lb A.ss) (ly _ _) _;unfold Av;by_cases p:(20:Int)<l.length
 ·have e:¬l.length<=20:=by lia
  simp only[Cz,ki,go_sem,ab,reduceCtorEq,al,p,e,fh]
 have e:l.length<=20:=by lia
 simp only[Cz,ki,go_sem,ab,reduceCtorEq,al,p,e];refine gf l.length (λk s'=>s'.base=0/\s'.tmp 0= .d (.gd 2 (l.map mg))/\s'.tmp 8= .d (.gd 2 (l.map mg))/\s'.tmp 9= .d (.int aj l.length)/\s'.tmp 10= .d (.int aj k)/\∀i,i<k->oA l i=ah) ?_ ?_
 ·simp only[go_sem,ab,reduceCtorEq]
  try simp
 rintro k s' x ⟨o,e0,j,h,b,m⟩;by_cases r:(k:Int)<l.length
 ·have c:k<l.length:=by lia
  have u:(l.map mg)[k]? =aa [.str l[k].n,.int aj l[k].v]:=by simp[c,mg]
  have s:=dr ((k:Int)+1) (by lia) (by lia)
  have g:oA l k=(zb l[k].n&&(Rv l[k].v&&xt (l.map Pm.n) k)):=by unfold oA;simp[c]
  simp only[go_sem,ab,ak,ao,reduceCtorEq,o,j,h,b,r,bn,u,aw];refine gq (Za A _) ?_;cases q1:zb l[k].n
  ·simp only[go_sem,ab];rw[all_false c (by rw[g,q1];rfl)];rfl
  simp only[go_sem,ab,ak];refine gq (jI A _) ?_;cases q2:Rv l[k].v
  ·simp only[go_sem,ab];rw[all_false c (by rw[g,q1,q2];rfl)];rfl
  by_cases q3:(0:Int)<k
  ·have f:(l.map mg)[k-1]? =aa [.str l[k-1].n,.int aj l[k-1].v]:=by
    have:k-1<l.length:=by lia
    simp[this,mg]
   have w1:=dr ((k:Int)-1) (by lia) (by lia)
   have z:(0:Int)<=(k:Int)-1:=by lia
   have q:xt (l.map Pm.n) k=strLt l[k-1].n l[k].n:=by
    unfold xt
    have t:k≠0:=by lia
    have:k-1<l.length:=by lia
    simp[t,this,c]
   cases q4:strLt l[k-1].n l[k].n
   ·have a:=q4;unfold strLt at a;simp only[go_sem,ab,ak,ao,reduceCtorEq,e0,q3,w1,Jv q3,f,z,a];rw[all_false c (by rw[g,q1,q2,q,q4];rfl)];rfl
   have a:=q4;unfold strLt at a;simp only[go_sem,ab,ak,ao,reduceCtorEq,e0,j,h,b,q3,w1,Jv q3,f,z,a,s];exact⟨c,by simp,rz m (by rw[g,q1,q2,q,q4];rfl)⟩
  simp only[go_sem,ab,reduceCtorEq,e0,j,h,b,q3,s];exact⟨c,by simp,rz m (by rw[g,q1,q2];unfold xt;simp;lia)⟩
 simp only[go_sem,ab,reduceCtorEq,o,h,b,r];rw[all_true λi w=>m i (by lia)];rfl
theorem nV(v:Vl):iv P A.xr [.agg (B4 v)] (.bool (Lx v)):=by
 refine ez A.mo A.Uo (by simp) ?_;show l7 P (Gq A.ss A.lb) (ly _ _) _;unfold Lx;simp only[Gq,B4,go_sem,ab,ak,ao];refine gq (jI A _) ?_;cases c:Rv v.t
 ·simp only[go_sem,ab,fh]
 simp only[go_sem,ab,ak];refine gq (jI A _) ?_;cases d:Rv v.a
 ·simp only[go_sem,ab,fh]
 simp only[go_sem,ab,ak,ao];refine gq (Za A _) ?_;cases e:zb v.n
 ·cases b:isE v.n
  ·simp only[isE]at b;simp only[go_sem,ab,ak,ao,b,fh,R0]
  simp only[isE]at b;simp only[go_sem,ab,ak,ao,reduceCtorEq,b,C0]
 simp only[go_sem,ab,D1]
theorem KX(v:Vl):iv P A.zi [.agg (B4 v)] (.bool !(Lx v)):=by
 refine ez A.mo A.aG (by simp) ?_;show l7 P (Km A.xr) (ly _ _) _;have h:=nV A v;simp only[B4]at h;simp only[Km,B4,go_sem,ab,ak];refine gq h ?_;simp only[go_sem,ab]
theorem tF:iv P A.qm [] (.agg (uJ A)):=by
 refine ez A.mo A.iC (by simp) ?_;show l7 P (O7 A.Dv A.Du A.Dt A.Ds A.Dr A.Dq A.Dp A.Hp A.Dn A.Dm A.Cv A.Cu A.Ct A.Fc) (ly _ _) _;simp only[O7,go_sem,ab,ak,ao,reduceCtorEq,uJ]
theorem GZ(k:Int):iv P A.qf [.int aj k] (.bool (decide (0<=k/\k<14))):=by
 refine ez A.mo A.Vq (by simp) ?_;show l7 P (Dj A.qm) (ly _ _) _;by_cases a:0<=k
 ·simp only[Dj,go_sem,ab,reduceCtorEq,a];refine Ic (tF A) ?_;simp only[go_sem,ab,reduceCtorEq]
 simp only[Dj,go_sem,ab,reduceCtorEq,a,false_and]
theorem KS(k:Int):iv P A.Ch [.int aj k] (.Bb [.int aj (if 0<=k/\k<14 then kIn k.toNat else 0),.int aj (if 0<=k/\k<14 then 0 else 1)]):=by
 refine ez A.mo A.dN (by simp) ?_;show l7 P (M9 A.qf A.qm) (ly _ _) _;simp only[M9,go_sem,ab,reduceCtorEq];refine gq (GZ A k) ?_;by_cases h:0<=k/\k<14
 ·have b:k.toNat<14:=by lia
  obtain⟨n,c,e⟩:=rB A b
  have a:k.toNat*4+4<=56:=by lia
  simp only[go_sem,ab,h];refine Ic (tF A) ?_;simp only[go_sem,ab,ak,ao,reduceCtorEq,h.1,h.2,cT,a,e]
 simp only[go_sem,ab,h]
theorem QD{pr:List (List Sp)->Bool}(t:Mk A pr)(f:Ft)(D:f.vs.length<=2^30)(w:f.ls.length<=2^30)(x:∀l∈f.ls,l.length<=2^30):iv P A.Dd [.agg (cFt f)] (.int aj (if yc pr f then 0 else 220)):=by
 refine ez A.mo A.iD (by simp) ?_;show l7 P (O8 A.qf A.qm A.o7 A.zi A.Da) (ly _ _) _;have o:=t f.ls w x
 have r:=QB A (l:=f.vs) (g:=A.zi) (j9:=[]) (p:=λi=> !(Lx (f.vs.getD i v0))) (λi y=>by
  have e:f.vs.getD i v0=f.vs[i]:=by simp[cz,y]
  rw[e];exact KX A _) (by lia)
 have z:((fc f.vs.length).any λi=> !(Lx (f.vs.getD i v0)))= !(pT f.vs):=by
  unfold pT;rw[BT]
  try simp
 rw[z]at r;simp only[qx]at r;simp only[kh]at o;unfold yc;simp only[O8,cFt,qx,kh,go_sem,ab,ak,ao];refine gq (GZ A f.k) ?_;by_cases j:0<=f.k/\f.k<14
 ·have s:f.k.toNat<14:=by lia
  obtain⟨n,c,e⟩:=rB A s
  have v:f.k.toNat*4+4<=56:=by lia
  simp only[go_sem,ab,ak,ao,j,al];refine Ic (tF A) ?_;by_cases c1:(f.vs.length:Int)=Ji f.k.toNat
  ·have d:((f.vs.length:Int) !=Ji f.k.toNat)=false:=by simp[c1]
   have a:((f.vs.length:Int)==Ji f.k.toNat)=true:=by simp[c1]
   simp only[go_sem,ab,ak,ao,reduceCtorEq,j.1,j.2,cT,v,e,d,a];refine ir r ?_;cases B:pT f.vs
   ·simp only[go_sem,ab,fh]
   have C:∀b:Bool,(f.k==1)=b->(f.k=1<->b=ah):=λb hb=>by rw[<-hb];simp
   unfold kP;cases m:f.k==1
   ·cases q:f.k==2
    ·cases u:f.k==3
     ·by_cases c3:(0:Int)<f.ls.length
      ·have h:((f.ls.length:Int)==0)=false:=beq_eq_false_iff_ne.2 (by lia);simp only[go_sem,ab,ak,ao,reduceCtorEq,m,q,u,al,c3,h,R0]
      have h:((f.ls.length:Int)==0)=true:=beq_iff_eq.2 (by lia);simp only[go_sem,ab,ak,ao,reduceCtorEq,m,q,u,al,c3,h,R0]
     simp only[go_sem,ab,ak,ao,reduceCtorEq,m,q,u,adn];refine gq o ?_;cases c3:pr f.ls<;>simp only[go_sem,ab,mj,reduceCtorEq]
    simp only[go_sem,ab,ak,ao,reduceCtorEq,m,q,adn,D1];refine gq o ?_;cases c3:pr f.ls<;>simp only[go_sem,ab,mj,reduceCtorEq]
   simp only[go_sem,ab,ak,ao,reduceCtorEq,m,D1];refine gq o ?_;cases c3:pr f.ls<;>simp only[go_sem,ab,mj,reduceCtorEq]
  have d:((f.vs.length:Int) !=Ji f.k.toNat)=true:=by simp[c1]
  have a:((f.vs.length:Int)==Ji f.k.toNat)=false:=by simp[c1]
  simp only[go_sem,ab,ak,ao,reduceCtorEq,j.1,j.2,cT,v,e,d,a,fh]
 simp only[go_sem,ab,j,fh]
theorem WH{pr:List (List Sp)->Bool}(a:Mk A pr)(f:Ft)(l:List Pm)(g:f.vs.length<=2^30)(d:f.ls.length<=2^30)(e:∀l∈f.ls,l.length<=2^30):
  iv P A.Dc [.agg (cFt f),ki l] (.int aj (if yc pr f then(if Av l then 0 else 1)else 220)):=by
 refine ez A.mo A.iB (by simp) ?_;show l7 P (O6 A.Dd A.po) (ly _ _) _;have b:=QD A a f g d e;have c:=Xf A l;simp only[cFt,qx,kh]at b;simp only[ki]at c;simp only[O6,cFt,qx,kh,ki,go_sem,ab,ak];refine gq b ?_;cases c1:yc pr f
 ·simp only[go_sem,ab,mj,reduceCtorEq]
 simp only[go_sem,ab,mj,reduceCtorEq];refine gq c ?_;simp only[go_sem,ab]
end
def Y5(n:ByteArray)(v:Int):List (ByteArray×Int)->List (ByteArray×Int)
 |[]=>[(n,v)]
 |(a,b)::r=>if i6 n a then(n,v)::r else(a,b)::Y5 n v r
def Py(n:ByteArray):List (ByteArray×Int)->Option Int
 |[]=>ae
 |(a,b)::r=>if i6 n a then aa b else Py n r
def cE(e:ByteArray×Int):D×C:=(.str e.1,.d (.int aj e.2))
def Rw(l:List Pm):List (ByteArray×Int):=l.foldl (λes p=>Y5 p.n p.v es) []
theorem Te(a b:ByteArray):i6 a b=i6 b a:=by
 unfold i6;rw[Uh,beq_iff_eq,beq_iff_eq];exact⟨Eq.symm,Eq.symm⟩
theorem eM{a b:ByteArray}(c:ByteArray)(h:i6 a b=ah):i6 a c=i6 b c:=by rw[Z7 h]
theorem a3b(n:ByteArray)(v:Int)(es:List (ByteArray×Int)):O9 (.one .str) (.str n) (C.d (.int aj v)) (es.map cE)=aa ((Y5 n v es).map cE):=by
 induction es with
 |nil=>rfl
 |cons e r c=>
  obtain⟨a,b⟩:=e;simp only[du,Y5]
  show(match G3 (.one .str) (.str n) (.str a)with|some ah=>_|some ag=>_|none=>_)=_
  have:G3 (.one .str) (.str n) (.str a)=aa (i6 n a):=by show aa (n==a)=_;rw[IV]
  rw[this];cases i6 n a
  ·simp only[c,jc,gp,bp,du];rfl
  simp only[da,du];rfl
theorem YT(n:ByteArray)(es:List (ByteArray×Int)):Iv (.one .str) (.str n) (es.map cE)=aa ((Py n es).map λx=>C.d (.int aj x)):=by
 induction es with
 |nil=>rfl
 |cons e r c=>
  obtain⟨a,b⟩:=e;simp only[du,Py]
  show(match G3 (.one .str) (.str n) (.str a)with|some ah=>_|some ag=>_|none=>_)=_
  have:G3 (.one .str) (.str n) (.str a)=aa (i6 n a):=by show aa (n==a)=_;rw[IV]
  rw[this];cases i6 n a
  ·simp only[c,gp,bp]
  simp only[da];rfl
theorem ZX(n m:ByteArray)(v:Int)(es:List (ByteArray×Int)):Py n (Y5 m v es)=if i6 n m then aa v else Py n es:=by
 induction es with
 |nil=>simp[Y5,Py]
 |cons e r d=>
  obtain⟨a,b⟩:=e;simp only[Y5];cases h:i6 m a
  ·simp only[gp,bp,Py,d];cases c:i6 n a
   ·simp
   have:i6 n m=false:=by rw[eM m c,Te,h]
   simp[this]
  simp only[da,Py];cases c:i6 n m
  ·have:i6 n a=false:=by rw[Te,<-eM n h,Te,c]
   simp[this]
  simp
theorem DM(v:Vl)(l:List Pm):ra v l=match Py v.n (Rw l)with|some x=>(v.t*x+v.a,ah)|none=>(v.a,isE v.n):=by
 have:∀r:List Pm,ra v r.reverse=match Py v.n (Rw r.reverse)with|some x=>(v.t*x+v.a,ah)|none=>(v.a,isE v.n):=by
  intro r
  induction r with
  |nil=>rfl
  |cons p r c=>
   have b:ra v (r.reverse++[p])=Qj v (ra v r.reverse) p:=by unfold ra;rw[qu];rfl
   have e2:Rw (r.reverse++[p])=Y5 p.n p.v (Rw r.reverse):=by unfold Rw;rw[qu];rfl
   rw[oq,b,e2,ZX,c];unfold Qj;rw[Te p.n v.n];cases i6 v.n p.n
   ·simp
   simp
 have h:=this l.reverse
 rwa[ue]at h
theorem LZ{l:List Pm}{k:Nat}(h:k<l.length):Rw (l.take (k+1))=Y5 l[k].n l[k].v (Rw (l.take k)):=by
 unfold Rw;rw[j3,qu];simp[h]
theorem zY{n:ByteArray}:∀{es:List (ByteArray×Int)} {x:Int},Py n es=aa x->∃a,(a,x)∈es/\i6 n a=true:=by
 intro es
 induction es with
 |nil=>intro x h;cases h
 |cons e r f=>
  intro x h;obtain⟨a,b⟩:=e;simp only[Py]at h;split at h
  ·rename_i hs;cases h;exact⟨a,by simp,hs⟩
  obtain⟨a',c,d⟩:=f h;exact⟨a',by simp[c],d⟩
theorem QO{n:ByteArray}{v:Int}:∀{es:List (ByteArray×Int)} {e:ByteArray×Int},e∈Y5 n v es->e=(n,v)\/e∈es:=by
 intro es
 induction es with
 |nil=>intro e h;simp[Y5]at h;exact .inl h
 |cons x r c=>
  intro e h;obtain⟨a,b⟩:=x;simp only[Y5]at h;split at h
  ·rcases fa.1 h with h|h
   ·exact .inl h
   exact .inr (by simp[h])
  rcases fa.1 h with h|h
  ·exact .inr (by simp[h])
  rcases c h with h|h
  ·exact .inl h
  exact .inr (by simp[h])
theorem yU(l:List Pm):∀e∈Rw l,∃p∈l,e=(p.n,p.v):=by
 have:∀r:List Pm,∀e∈Rw r.reverse,∃p∈r,e=(p.n,p.v):=by
  intro r
  induction r with
  |nil=>intro e h;simp[Rw]at h
  |cons p r f=>
   intro e h
   have e2:Rw (r.reverse++[p])=Y5 p.n p.v (Rw r.reverse):=by unfold Rw;rw[qu];rfl
   rw[oq,e2]at h;rcases QO h with h|h
   ·exact⟨p,by simp,h⟩
   obtain⟨q,d,a⟩:=f e h;exact⟨q,by simp[d],a⟩
 intro e a;have h:=this l.reverse e (by rw[ue];exact a);obtain⟨p,c,b⟩:=h;exact⟨p,by simpa using c,b⟩
theorem Xh{l:List Pm}(h:Av l=ah):∀p∈l,zb p.n=ah/\Rv p.v=true:=by
 unfold Av at h;simp only[dc,decide_eq_true_eq]at h;intro p b;obtain⟨i,a,rfl⟩:=j0.1 b;have:=dg.1 h.2 i (er.2 a);unfold oA at this;simp only[bh a,dc]at this;exact⟨this.1,this.2.1⟩
theorem yT{n:ByteArray}(h:zb n=ah):isE n=false:=by
 cases b:isE n
 ·rfl
 have:i6 n ⟨#[]⟩=true:=b;have:=Z7 this;subst this
 have a:zb ⟨#[]⟩=false:=by decide+kernel
 rw[a]at h;cases h
theorem MS{l:List Pm}(h:Av l=ah){n:ByteArray}(b:isE n=ah):Py n (Rw l)=none:=by
 cases g:Py n (Rw l)with
 |none=>rfl
 |some x=>
  obtain⟨a,c,d⟩:=zY g;obtain⟨p,i,e⟩:=yU l _ c;have f:=yT (Xh h p i).1;cases e
  have:isE n=isE p.n:=by rw[Z7 d]
  rw[this,f]at b;cases b
section
variable{P:Program}(A:Pr P)
theorem CM{pr:List (List Sp)->Bool}(f:Ft)(l:List Pm)(c1:yc pr f=ah)(L:Av l=ah):iv P A.B9 [.agg (cFt f),ki l] (.Bb [if(xh pr f l).1.map Eo=[]then .cj else .gd 1 ((xh pr f l).1.map Eo),.int aj (xh pr f l).2]):=by
 refine ez A.mo A.aE (by simp) ?_;show l7 P Kk (ly _ _) _
 have hN:xh pr f l=if f.vs.all (λv=>(ra v l).2)then(f.vs.map λv=>(ra v l).1,0)else([],4):=by
  unfold xh;rw[aq (by rw[c1];simp),aq (by rw[L];simp)]
 rw[hN];have a0:=rK c1;obtain⟨a4,a5⟩:=Zh L;simp only[Kk,cFt,qx,kh,ki,go_sem,ab,ak];refine wv (λs'=>s'.base=0/\s'.tmp 2= .gz 2 (s'.ba 2) 0/\s'.di 2=aa (.loc [.d (.int aj f.k),.d (.gd 3 (f.vs.map B4)),.d (.gd 1 (f.ls.map λl=>[uu l]))])/\s'.tmp 6= .o8 14 (s'.ba 14)/\s'.mp 14=aa ((Rw l).map cE)) ?_ ?_
 ·refine gf l.length (λk s'=>s'.base=0/\s'.tmp 2= .gz 2 (s'.ba 2) 0/\s'.di 2=aa (.loc [.d (.int aj f.k),.d (.gd 3 (f.vs.map B4)),.d (.gd 1 (f.ls.map λl=>[uu l]))])/\s'.tmp 6= .o8 14 (s'.ba 14)/\s'.mp 14=aa ((Rw (l.take k)).map cE)/\
   s'.tmp 15= .d (.gd 2 (l.map mg))/\s'.tmp 16= .d (.int aj l.length)/\s'.tmp 17= .d (.int aj k)) ?_ ?_
  ·simp only[go_sem,ab,al];rfl
  rintro k s' hk ⟨r,o,b2,f6,m,f15,C,E⟩;by_cases I:(k:Int)<l.length
  ·have c:k<l.length:=by lia
   have wk:=dr ((k:Int)+1) (by lia) (by lia);have hm:=LZ c;simp only[go_sem,ab,ak,ao,reduceCtorEq,r,o,b2,f6,m,f15,C,E,I,aT c,bn,aw,PS.ents,a3b,wk,c,hm]
   try simp
  have:k=l.length:=by lia
  subst this;rw[fm]at m;simp only[go_sem,ab,reduceCtorEq,r,o,b2,f6,m,C,E,I]
 rintro s' ⟨r,o,b2,f6,m⟩;simp only[go_sem,ab,ak,ao,r,o,b2]
 refine gf f.vs.length (λi s'=>s'.base=0/\s'.tmp 2= .gz 2 (s'.ba 2) 0/\s'.di 2=aa (.loc [.d (.int aj f.k),.d (.gd 3 (f.vs.map B4)),.d (.gd 1 (f.ls.map λl=>[uu l]))])/\s'.tmp 6= .o8 14 (s'.ba 14)/\s'.mp 14=aa ((Rw l).map cE)/\
  s'.tmp 28= .d (.gd 3 (f.vs.map B4))/\s'.tmp 29= .d (.int aj f.vs.length)/\s'.tmp 30= .d (.int aj i)/\
  u0 s' 60 1 (((f.vs.take i).map λv=>(ra v l).1).map Eo) (s'.tmp 9)/\∀X,X<i->(ra (f.vs.getD X v0) l).2=ah) ?_ ?_
 ·simp only[go_sem,ab,o,b2,f6,m,al];exact⟨u0.nil,by simp⟩
 clear r o b2 f6 m;rintro i s' U ⟨r,o,b2,f6,m,f28,f29,q,acc,S⟩;by_cases I:(i:Int)<f.vs.length
 ·have c:i<f.vs.length:=by lia
  have wi:=dr ((i:Int)+1) (by lia) (by lia);have V:=lZ c1 i c
  have u:f.vs.getD i v0=f.vs[i]:=by simp[cz,c]
  have hg:=Wq c;obtain⟨⟨t1,t2⟩,a1,K⟩:=wR V;have b:=DM (f.vs.getD i v0) l;have T:=λh=>MS L (n:=(f.vs.getD i v0).n) h
  have N:∀x,Py (f.vs.getD i v0).n (Rw l)=aa x->-1000000<=x/\x<=1000000:=λx hx=>by
   obtain⟨a,Z,_⟩:=zY hx;obtain⟨p,hp,e⟩:=yU l _ Z;cases e;exact tZ (Xh L p hp).2
  have Y:(ra (f.vs.getD i v0) l).2=ag->f.vs.all (λv=>(ra v l).2)=false:=λh=>by
   rw[iJ];exact⟨f.vs[i],dj c,by rw[<-u,h];simp⟩
  generalize H:f.vs.getD i v0=v at*
  simp only[go_sem,ab,ak,ao,reduceCtorEq,r,f6,m,f28,f29,q,I,hg,bn,aw,Lc,PS.ents,YT]
  cases B:Py v.n (Rw l)with
  |some x=>
   rw[B]at b
   have l8:isE v.n=false:=by
    cases h:isE v.n
    ·rfl
    rw[T h]at B;cases B
   have W:=l8;unfold isE at W;have m1:=a3w ⟨t1,t2⟩ (x:=v.t) (y:=x) (N x B);have w1:=dr (v.t*x) (by lia) (by lia);have w2:=dr (v.t*x+v.a) (by lia) (by lia)
   have O:(((f.vs.take (i+1)).map λv=>(ra v l).1).map Eo)=((f.vs.take i).map λv=>(ra v l).1).map Eo++[Eo (v.t*x+v.a)]:=by
    rw[j3,fj,fj];simp[c,<-u,b]
   simp only[go_sem,ab,ak,ao,reduceCtorEq,cw,W,cy,w1,w2];refine r4 (dv:=((f.vs.take i).map λv=>(ra v l).1).map Eo) (ys:=[Eo (v.t*x+v.a)]) (osz:=aa 1) ?_ ?_ rfl (by simp[Eo,D.one]) ?_ (by simp) ?_
   ·simp only[go_sem,ab];exact acc.mono (by simp[ar]) (by simp[ar])
   ·simp only[go_sem,ab,pj];rfl
   ·simp only[al,cq,ew,ey];lia
   intro J g;have s:=g.acc (by simp);rw[g.tmp,de]at s;simp only[gj]at s;have F:=g.ba 2 (by simp);have w:=g.ba 14 (by simp)
   have Q:J.di 2=s'.di 2:=by rw[g.di];simp[ar]
   have R:J.mp 14=s'.mp 14:=by rw[g.mp]
   simp only[ar,ab,reduceIte]at F w;simp only[go_sem,ab,reduceCtorEq,g.tmp,o,f6,f28,f29,q,R,m,g.base,Q,F,w,b2,O,wi,c];exact⟨by simp,s.mono rfl rfl,rz S (by rw[H,b])⟩
  |none=>
   rw[B]at b;cases M:isE v.n
   ·have j:=M;unfold isE at j;simp only[M]at b;simp only[go_sem,ab,ak,ao,j,cy,Y (by rw[b])]
   have j:=M;unfold isE at j;simp only[M]at b
   have z:ra v l=(v.t*0+v.a,ah):=by rw[b];simp
   have m1:=a3w ⟨t1,t2⟩ (x:=v.t) (y:=0) (by lia);have w1:=dr (v.t*0) (by lia) (by lia);have w2:=dr (v.t*0+v.a) (by lia) (by lia)
   have O:(((f.vs.take (i+1)).map λv=>(ra v l).1).map Eo)=((f.vs.take i).map λv=>(ra v l).1).map Eo++[Eo (v.t*0+v.a)]:=by
    rw[j3,fj,fj];simp[c,<-u,z]
   simp only[go_sem,ab,ak,ao,reduceCtorEq,cw,j,cy,w1,w2];refine r4 (dv:=((f.vs.take i).map λv=>(ra v l).1).map Eo) (ys:=[Eo (v.t*0+v.a)]) (osz:=aa 1) ?_ ?_ rfl (by simp[Eo,D.one]) ?_ (by simp) ?_
   ·simp only[go_sem,ab];exact acc.mono (by simp[ar]) (by simp[ar])
   ·simp only[go_sem,ab,pj];rfl
   ·simp only[al,cq,ew,ey];lia
   intro J g;have s:=g.acc (by simp);rw[g.tmp,de]at s;simp only[gj]at s;have F:=g.ba 2 (by simp);have w:=g.ba 14 (by simp)
   have Q:J.di 2=s'.di 2:=by rw[g.di];simp[ar]
   have R:J.mp 14=s'.mp 14:=by rw[g.mp]
   simp only[ar,ab,reduceIte]at F w;simp only[go_sem,ab,reduceCtorEq,g.tmp,o,f6,f28,f29,q,R,m,g.base,Q,F,w,b2,O,wi,c];exact⟨by simp,s.mono rfl rfl,rz S (by rw[H,z])⟩
 have:i=f.vs.length:=by lia
 subst this;rw[fm]at acc
 have G:f.vs.all (λv=>(ra v l).2)=true:=by
  rw[dg];intro v hv;obtain⟨i,U,rfl⟩:=j0.1 hv;have:=S i U;simpa[cz,U]using this
 rw[G];simp only[go_sem,ab,reduceCtorEq,r,f29,q,I];rcases acc with ⟨a1,K⟩|⟨a1,K,a3⟩
 ·simp only[go_sem,a1,K]
 rw[aq a1,K];simp only[go_sem,a3,al]
theorem CP{pr:List (List Sp)->Bool}(d:Mk A pr)(f:Ft)(l:List Pm)(b:f.vs.length<=2^30)(h:f.ls.length<=2^30)(i:∀l∈f.ls,l.length<=2^30):iv P A.zh [.agg (cFt f),ki l] (rO (xh pr f l)):=by
 have a:iv P A.zh [.agg (cFt f),ki l] (.Bb [if(xh pr f l).1.map Eo=[]then .cj else .gd 1 ((xh pr f l).1.map Eo),.int aj (xh pr f l).2]):=by
  refine ez A.mo A.aF (by simp) ?_;show l7 P (Kl A.Dc A.B9) (ly _ _) _;have g:=WH A d f l b h i;have e:=λc1 c=>CM A f l (pr:=pr) c1 c;simp only[cFt,qx,kh,ki]at g e;simp only[Kl,cFt,qx,kh,ki,go_sem,ab,ak];refine ir g ?_;cases c1:yc pr f
  ·have:xh pr f l=([],220):=by unfold xh;rw[bc c1]
   rw[this];simp only[go_sem,ab,mj,reduceCtorEq]
  cases c:Av l
  ·have:xh pr f l=([],1):=by unfold xh;rw[aq (by rw[c1];simp),bc c]
   rw[this];simp only[go_sem,ab,mj,reduceCtorEq]
  simp only[go_sem,ab,mj,ak,reduceCtorEq];refine ir (e c1 c) ?_;simp only[go_sem,ab]
 generalize xh pr f l=x at a|-;refine a.Nl λG v b=>?_;split at b
 ·rename_i j;unfold rO;rw[j];exact wT G v b
 exact b
end
theorem Wk.ym{xs ys:List D}{o:Nat}(g:xs.length=ys.length)(h:∀(i:Nat) (x y:D),xs[i]? =aa x->ys[i]? =aa y->Wk x y):Wk (.ym xs o) (.ym ys o):=by
 intro G v d
 cases d with
 | @ym _ b p _ e f=>
  refine .ym (λj a=>e j (by lia)) λj y u hy c=>?_
  have a:j<xs.length:=by have:=(bd.1 hy).1;lia
  exact h j _ y (bh a) hy G u (f j _ u (bh a) c)
theorem Wk.qb{f:Nat}{xs ys:List D}(e:xs.length=ys.length)(h:∀(i:Nat) (x y:D),xs[i]? =aa x->ys[i]? =aa y->Wk x y):Wk (.qb f xs) (.qb f ys):=by
 intro G v c
 cases c with
 | @qb _ _ vs g d=>
  refine .qb (by lia) λj y u hy b=>?_
  have a:j<xs.length:=by have:=(bd.1 hy).1;lia
  exact h j _ y (bh a) hy G u (d j _ u (bh a) b)
theorem Wk.one{x y:D}(h:Wk x y):∀(i:Nat) (a b:D),[x][i]? =aa a->[y][i]? =aa b->Wk a b:=by
 intro i a b c hb
 match i with
 |0=>simp at c hb;subst c hb;exact h
 |i+1=>simp at c
def Vb(ns:List Nd)(s:ByteArray):Int:=Am (λi=>i6 (ns.getD i n0).n s) ns.length
def HP(ns:List Nd)(s:ByteArray):D:=if 0<=Vb ns s then .ym (pa (ns.getD (Vb ns s).toNat n0)) 0 else .Y9
theorem EL(ns:List Nd)(s:ByteArray):Ts ns s=decide (0<=Vb ns s):=by
 have:decide (0<=Vb ns s)=decide (Vb ns s>=0):=rfl;unfold Vb at this|-;rw[this,T1];unfold Ts;rw[Uh,Bm,Bm];constructor
 ·rintro⟨n,b,h⟩;obtain⟨i,a,rfl⟩:=x8 b;exact⟨i,er.2 a,by simpa[cz,a]using h⟩
 rintro⟨i,a,h⟩;have a:=er.1 a;exact⟨ns[i],dj a,by simpa[cz,a]using h⟩
def iF(ns:List Nd)(a:List ByteArray)(i:Nat):Bool:= !hasB a (ns.getD i n0).n&&Lz (ns.getD i n0) a
def Lp(ns:List Nd)(a:List ByteArray):Int:=Am (iF ns a) ns.length
def Mr(ns:List Nd):Nat->List ByteArray->List ByteArray
 |0,out=>out
 |k+1,out=>if Lp ns out<0 then out else Mr ns k (out++[(ns.getD (Lp ns out).toNat n0).n])
def Mb(ns:List Nd):List ByteArray:=Mr ns (ns.length+1) []
theorem LU{ns:List Nd}{a:List ByteArray}(h:¬Lp ns a<0):U7 ns (a++[(ns.getD (Lp ns a).toNat n0).n])<U7 ns a:=by
 rcases Ju (iF ns a) ns.length with ⟨f,_⟩|⟨k,d,c,g,_⟩
 ·unfold Lp at h;rw[f]at h;lia
 have e:Lp ns a=k:=g;rw[e,bn]
 have i:ns.getD k n0=ns[k]:=by simp[cz,d]
 unfold iF at c;rw[i]at c|-;simp only[dc,ot]at c;unfold U7;refine iV (n:=ns[k]) (λm b=>?_) ?_ ?_ ns (dj d)
 ·simp only[ot]at b|-;rw[Ql]at b;simp only[K4]at b;exact b.1
 ·rw[Ql,Dy];simp
 simp[c.1]
section
variable{P:Program}(A:Pr2 P)
theorem a2l(t:Tr)(s:ByteArray)(r:t.ns.length<=2^50):iv P A.zu [.agg (vt t),.str s] (HP t.ns s):=by
 refine ez A.mo A.X1 (by simp) ?_;show l7 P Ii (ly _ _) _;simp only[Ii,vt,ki,lr,go_sem,ab,ak]
 refine gf t.ns.length (λi s'=>s'.base=0/\s'.tmp 2= .gz 2 (s'.ba 2) 0/\s'.di 2=aa (.loc [.d (.gd 2 (t.ps.map mg)),.d (.gd 5 (t.ns.map pa))])/\s'.tmp 1= .d (.str s)/\s'.tmp 8= .d (.int aj t.ns.length)/\s'.tmp 9= .d (.int aj i)/\
  ∀o,o<i->i6 (t.ns.getD o n0).n s=ag) ?_ ?_
 ·simp only[go_sem,ab,al]
  try simp
 rintro i s' q ⟨b,l,b2,k,f,g,h⟩;by_cases j:(i:Int)<t.ns.length
 ·have c:i<t.ns.length:=by lia
  have wi:=dr ((i:Int)+1) (by lia) (by lia);have m:=J6 c;cases c1:i6 (t.ns.getD i n0).n s
  ·have a:=c1;unfold i6 at a;simp only[go_sem,ab,ak,ao,reduceCtorEq,b,l,b2,k,f,g,j,m,bn,aw,a,wi,c];exact⟨by simp,rz h c1⟩
  have a:=c1;unfold i6 at a;have e:Vb t.ns s=i:=Nb (p:=λi=>i6 (t.ns.getD i n0).n s) c c1 h;simp only[go_sem,ab,ak,ao,reduceCtorEq,b,l,b2,k,f,g,j,m,bn,aw,a];unfold HP;rw[e,bc (aw i),bn];rfl
 have:i=t.ns.length:=by lia
 subst this;have e:Vb t.ns s= -1:=Qp (p:=λi=>i6 (t.ns.getD i n0).n s) h;simp only[go_sem,ab,reduceCtorEq,b,f,g,j];unfold HP;rw[e];rfl
theorem QE(t:Tr)(s:ByteArray)(a:t.ns.length<=2^50):iv P A.xi [.str s,.ym (vt t) 0] (.bool !(Ts t.ns s)):=by
 refine ez A.mo A.aA (by simp) ?_;show l7 P (Kg A.zu) (ly _ _) _;have h:=a2l A t s a;simp only[vt,ki,lr]at h;simp only[Kg,vt,ki,lr,go_sem,ab,ak,reduceCtorEq];refine ir h ?_;rw[EL];unfold HP;by_cases c:0<=Vb t.ns s
 ·simp only[go_sem,ab,c]
 simp only[go_sem,ab,c]
theorem KD(s:ByteArray)(a:List ByteArray)(b:a.length<=2^50):iv P A.s7 [.str s,.ym [kn a] 0] (.bool !(hasB a s)):=by
 refine ez A.mo A.Ry (by simp) ?_;show l7 P (Dz A.ni) (ly _ _) _;have h:=V3 A.toPr a s b;simp only[kn]at h;simp only[Dz,kn,go_sem,ab,reduceCtorEq];refine ir h ?_;simp only[go_sem,ab]
theorem PN(n:Nd)(a:List ByteArray)(d:a.length<=2^50)(c:n.ins.length<=2^40):iv P A.qe [.agg (pa n),.ym [kn a] 0] (.bool (!hasB a n.n&&Lz n a)):=by
 refine ez A.mo A.Tv (by simp) ?_;show l7 P (Fj A.ni A.s7 A.lj) (ly _ _) _;have h:=V3 A.toPr a n.n d
 have b:=qL A.toPr (l:=n.ins) (g:=A.s7) (j9:=[.ym [kn a] 0]) (p:=λi=> !(hasB a (n.ins.getD i ⟨#[]⟩))) (λi c=>by
  have e:n.ins.getD i ⟨#[]⟩=n.ins[i]:=by simp[cz,c]
  rw[e];exact KD A _ _ d) (by lia)
 have f:((fc n.ins.length).any λi=> !(hasB a (n.ins.getD i ⟨#[]⟩)))= !(Lz n a):=by
  unfold Lz;rw[BT];simp
 rw[f]at b;simp only[kn]at h b;simp only[Fj,pa,qx,kh,kn,go_sem,ab,ak,ao];refine ir h ?_;cases c1:hasB a n.n
 ·simp only[go_sem,ab,ak];refine ir b ?_;simp only[go_sem,ab,Bool.not_not]
 simp only[go_sem,ab,fh]
theorem PM(t:Tr)(hn:t.ns.length<=1000)(hi:∀n∈t.ns,n.ins.length<=2^40):iv P A.va [.agg (vt t)] (kn (Mb t.ns)):=by
 have w:iv P A.va [.agg (vt t)] (p9 1 ((Mb t.ns).map qt)):=by
  refine ez A.mo A.Vk (by simp) ?_;show l7 P (Hd A.qe A.jo) (ly _ _) _
  have V:U7 t.ns []<=t.ns.length:=by unfold U7;exact tu _ _
  simp only[Hd,vt,ki,lr,go_sem,ab,ak]
  refine gf t.ns.length (λi s'=>∃(b:List ByteArray) (c:C),s'.base=0/\s'.tmp 1= .gz 1 (s'.ba 1) 0/\s'.di 1=aa (.loc [.d (.gd 2 (t.ps.map mg)),.d (.gd 5 (t.ns.map pa))])/\s'.tmp 3= .gz 3 (s'.ba 3) 0/\s'.di 3=aa (.loc [c])/\eG s' 20 1 (b.map qt) c/\
   U7 t.ns b+i<=t.ns.length/\b.length=i/\Mr t.ns (t.ns.length+1-i) b=Mb t.ns) ?_ ?_
  ·simp only[go_sem,ab];exact⟨[],.d .cj,rfl,eG.nil,V,rfl,rfl⟩
  rintro i s' F7 ⟨b,c,N,B,z,q,b3,acc,ho,I,v⟩
  have R:=xP A.toPr (l:=t.ns) (g:=A.qe) (j9:=[.ym [p9 1 (b.map qt)] 0]) (p:=iF t.ns b) (λj Q=>by
   have e:t.ns.getD j n0=t.ns[j]:=by simp[cz,Q]
   unfold iF;rw[e];refine(PN A t.ns[j] b (by lia) (hi _ (dj Q))).args rfl λa x y hx hy=>?_
   match a with
   |0=>simp at hx hy;subst hx hy;exact Wk.refl _
   |1=>simp at hx hy;subst hx hy;exact Wk.ym rfl (Wk.one By)
   |a+2=>simp at hx) (by lia)
  simp only[lr]at R
  have M:∀(K:PS->Prop) (r:List RI) (m:PS),m.cs 3 (s'.ba 3)=aa [c]->m.dv 20 (s'.ba 20)=s'.dv 20 (s'.ba 20)->m.ba 20=s'.ba 20->mc P r (m.put (aa 8) (.d (.int aj (Lp t.ns b)))) K->
    Gt P A.jo [.d (.gd 5 (t.ns.map pa)),.qb A.qe [(3,s'.ba 3)]] [] ag (aa 8) m (Bo P r K):=by
   intro K r m G W h3 X;refine⟨[.gd 5 (t.ns.map pa),.qb A.qe [.ym [p9 1 (b.map qt)] 0]],_,?_,R.toC,.inl rfl,X⟩;simp only[Ln,snap,G,k9];rcases acc with ⟨a1,rfl⟩|⟨a1,rfl,a3⟩
   ·simp only[ow,p9,a1,da,jc]
   have U:s'.dv 20 (s'.ba 20)=aa (1,b.map qt):=by unfold PS.dv;rw[bc rfl,a3]
   simp only[ow,W,U,p9,a1,bp,da,jc]
  by_cases h:Lp t.ns b<0
  ·have T:Mb t.ns=b:=by
    rw[<-v,show t.ns.length+1-i=(t.ns.length-i)+1 by lia,Mr,bc h]
   simp only[go_sem,ab,ak,N,B,z,q];refine M _ _ _ (by simp[PS.cs,b3]) rfl rfl ?_;simp only[go_sem,ab,reduceCtorEq,q,b3,h,T];rcases acc with ⟨a1,rfl⟩|⟨a1,rfl,a3⟩
   ·simp only[go_sem,p9,a1]
   simp only[go_sem,p9,a1,a3]
  have J:=LU h
  obtain⟨k,H,f⟩:∃k,k<t.ns.length/\Lp t.ns b=k:=by
   rcases Ju (iF t.ns b) t.ns.length with ⟨G,_⟩|⟨k,H,hp,Y,_⟩
   ·unfold Lp at h;rw[G]at h;lia
   exact⟨k,H,Y⟩
  have Z:=J6 H
  have S:Mr t.ns (t.ns.length+1-(i+1)) (b++[(t.ns.getD k n0).n])=Mb t.ns:=by
   rw[<-v,show t.ns.length+1-i=(t.ns.length+1-(i+1))+1 by lia]
   conv=>rhs;rw[Mr,aq h,f,bn]
  rw[f,bn]at J;rw[f]at h;simp only[go_sem,ab,ak,N,B,z,q];refine M _ _ _ (by simp[PS.cs,b3]) rfl rfl ?_;rw[f];simp only[go_sem,ab,ak,ao,reduceCtorEq,cw,B,z,q,b3,h,Z,bn,aw];refine r4 (dv:=b.map qt) (ys:=[qt (t.ns.getD k n0).n]) (osz:=aa 1) ?_ ?_ rfl (by simp[qt,D.one]) ?_ (by simp) ?_
  ·simp only[go_sem,ab];have:=acc.acc;cases c<;>exact this.mono (by simp[]) (by simp[])
  ·simp only[go_sem,ab,pj,qt]
  ·simp only[al,cq,ew];lia
  intro L g;have s:=g.ba 1 (by simp);have u:=g.ba 3 (by simp)
  have E:L.di 1=s'.di 1:=by rw[g.di];simp[ar]
  have F:L.di 3=s'.di 3:=by rw[g.di];simp[ar]
  have o:L.di 20=aa (.arr 1 (b.map qt++[qt (t.ns.getD k n0).n])):=by rw[g.di];simp[ar]
  have O:=g.tmp;simp only[gj]at O;simp only[]at s u;simp only[go_sem,ab,O,B,q,g.base,s,u,E,F,o,z,b3,ff];refine⟨by lia,b++[(t.ns.getD k n0).n],_,rfl,.inr ⟨by simp,?_,?_⟩,by lia,by simp[I],S⟩
  ·simp
  simp[o,ar]
 exact w.Nl By
end
theorem vT:∀(x y:List UInt8),Ws x y=decide (x<y):=by
 intro x
 induction x with
 |nil=>
  intro y
  cases y with
  |nil=>rfl
  |cons b y=>simp[Ws]
 |cons a x c=>
  intro y
  cases y with
  |nil=>simp[Ws]
  |cons b y=>
   simp only[Ws,c,List.cons_lt_cons_iff];rw[Uh];simp
theorem Sb(a b:ByteArray):strLt a b=decide (a.toList<b.toList):=vT _ _
theorem Uw{a b c:ByteArray}(h:strLt a b=ah)(k:strLt b c=ah):strLt a c=true:=by
 rw[Sb,decide_eq_true_eq]at*
 exact List.lt_trans h k
theorem Jq{a b:ByteArray}(h:strLt a b=ah):strLt b a=false:=by
 rw[Sb,decide_eq_true_eq]at h;rw[Sb,decide_eq_false_iff_not];exact List.lt_asymm h
def wG:List Nd->Prop
 |[]=>True
 |n::r=>isE n.n=ag/\(∀m∈r,strLt n.n m.n=ah)/\wG r
theorem LD{ns:List Nd}(e:∀n∈ns,isE n.n=ag)(b:∀i (_:i+1<ns.length),strLt (ns[i]'(by lia)).n (ns[i+1]).n=ah):wG ns:=by
 induction ns with
 |nil=>trivial
 |cons n r f=>
  refine⟨e n (by simp),?_,f (λm c=>e m (by simp[c])) λi g=>?_⟩
  ·have:∀k (a:k<r.length),strLt n.n (r[k]).n=true:=by
    intro k
    induction k with
    |zero=>intro a;exact b 0 (by simp;lia)
    |succ k d=>
     intro a;refine Uw (d (by lia)) ?_;have:=b (k+1) (by simp;lia);simpa using this
   intro m c;obtain⟨k,a,rfl⟩:=x8 c;exact this k a
  have:=b (i+1) (by simp;lia);simpa using this
def vR(a:List ByteArray)(n:Nd):Bool:= !hasB a n.n&&Lz n a
theorem MY{a:List ByteArray}{b:ByteArray}(hb:isE b=ag):∀{l:List Nd},(∀m∈l,strLt b m.n=ah)->l.foldl (qg a) b=b:=by
 intro l
 induction l with
 |nil=>intro _;rfl
 |cons n r d=>
  intro h
  have e:qg a b n=b:=by
   unfold qg;rw[hb,Jq (h n (by simp))];simp
  rw[yb,e];exact d λm c=>h m (by simp[c])
theorem MZ{a:List ByteArray}:∀{l:List Nd},wG l->l.foldl (qg a) ⟨#[]⟩=match l.find? (vR a)with|some n=>n.n|none=>⟨#[]⟩:=by
 intro l
 induction l with
 |nil=>intro _;rfl
 |cons n r h=>
  rintro⟨d,f,g⟩;rw[yb,List.find?_cons]
  have c:isE ⟨#[]⟩=true:=by decide+kernel
  cases b:vR a n
  ·have e:qg a ⟨#[]⟩ n=⟨#[]⟩:=by
    unfold qg;unfold vR at b;rw[c,D1,Ip,b];rfl
   rw[e];exact h g
  have e:qg a ⟨#[]⟩ n=n.n:=by
   unfold qg;unfold vR at b;rw[c,D1,Ip,b];rfl
  rw[e];exact MY d f
theorem NC(ns:List Nd)(a:List ByteArray):(Lp ns a<0/\ns.find? (vR a)=ae)\/(¬Lp ns a<0/\ns.find? (vR a)=aa (ns.getD (Lp ns a).toNat n0)):=by
 rcases Ju (iF ns a) ns.length with ⟨p,h⟩|⟨k,g,d,j,hb⟩
 ·refine .inl ⟨by unfold Lp;lia,Yw.2 λn o=>?_⟩;obtain⟨i,b,rfl⟩:=x8 o;have:=h i b;unfold iF at this
  have e:ns.getD i n0=ns[i]:=by simp[cz,b]
  rw[e]at this;unfold vR;simp[this]
 have e:Lp ns a=k:=j
 have f:ns.getD k n0=ns[k]:=by simp[cz,g]
 refine .inr ⟨by lia,?_⟩;rw[e,bn,f];refine bI.2 ⟨?_,ns.take k,ns.drop (k+1),?_,λm l=>?_⟩
 ·unfold iF at d;rw[f]at d;exact d
 ·rw[<-jx g,Ej]
 obtain⟨i,b,rfl⟩:=x8 l
 have c:i<k:=by simp at b;lia
 have:=hb i c;unfold iF at this
 have e:ns.getD i n0=ns[i]:=by
   have:i<ns.length:=by lia
   simp[cz,this]
 rw[e]at this;unfold vR;rw[a8v];simp[this]
theorem DG{ns:List Nd}(h:wG ns)(g:∀n∈ns,isE n.n=ag):∀k a,Y7 ns k a=Mr ns k a:=by
 intro k
 induction k with
 |zero=>intro a;rfl
 |succ k f=>
  intro a
  have hb:Q4 ns a=match ns.find? (vR a)with|some n=>n.n|none=>⟨#[]⟩:=MZ h
  rw[Y7,Mr];rcases NC ns a with ⟨c,b⟩|⟨c,b⟩
  ·rw[b]at hb
   have d:isE ⟨#[]⟩=true:=by decide+kernel
   rw[hb,bc d,bc c]
  rw[b]at hb;have e:ns.getD (Lp ns a).toNat n0∈ns:=W7 b;rw[hb];simp only;rw[g _ e,aq (by simp),aq c];exact f _
theorem Zp{pr:List (List Sp)->Bool}{t:Tr}{i:Nat}(h:Bu pr t i=ah):zb (t.ns.getD i n0).n=ah/\xt (t.ns.map Nd.n) i=ah/\yc pr (t.ns.getD i n0).f=true:=by
 unfold Bu at h;simp only[dc]at h;exact⟨h.1,h.2.1,h.2.2.1⟩
theorem jZ{t:Tr}(d:∀i,i<t.ns.length->zb (t.ns.getD i n0).n=ah)(f:∀i,i<t.ns.length->xt (t.ns.map Nd.n) i=ah):J4 t.ns=Mb t.ns:=by
 have b:∀n∈t.ns,isE n.n=false:=by
  intro n g;obtain⟨i,a,rfl⟩:=x8 g;have:=d i a
  have e:t.ns.getD i n0=t.ns[i]:=by simp[cz,a]
  rw[e]at this;exact yT this
 refine DG (LD b λi a=>?_) b _ _;have:=f (i+1) a;unfold xt at this
 have c:i<t.ns.length:=by lia
 simpa[a,c]using this
section
variable{P:Program}(A:Pr2 P)
theorem jN{pr:List (List Sp)->Bool}(W:Mk A.toPr pr)(t:Tr)(hs:Om t):iv P A.ll [.agg (vt t)] (.int aj (if yj pr t then 0 else 230)):=by
 refine ez A.mo A.gT (by simp) ?_;show l7 P (Nx A.po A.lb A.zh A.Ch A.xi A.lj A.va) (ly _ _) _;obtain⟨a0,O⟩:=hs;have N:=Xf A.toPr t.ps;simp only[ki]at N;unfold yj;simp only[Nx,vt,ki,lr,go_sem,ab,ak,ao];refine gq N ?_;cases c1:Av t.ps
 ·simp only[go_sem,ab,mj,reduceCtorEq,fh]
 by_cases Z:(20:Int)<t.ns.length
 ·have u:¬t.ns.length<=20:=by lia
  simp only[go_sem,ab,mj,ak,reduceCtorEq,al,Z,u,fh]
 have u:t.ns.length<=20:=by lia
 have no:∀i,i<t.ns.length->Bu pr t i=ag->((fc t.ns.length).all (Bu pr t)&&((J4 t.ns).length:Int)==t.ns.length)=false:=λi E h=>by rw[all_false E h,fh]
 simp only[go_sem,ab,mj,ak,reduceCtorEq,al,Z,u];refine wv (λs'=>s'.base=0/\s'.tmp 1= .gz 1 (s'.ba 1) 0/\s'.di 1=aa (.loc [.d (.gd 2 (t.ps.map mg)),.d (.gd 5 (t.ns.map pa))])/\∀r,r<t.ns.length->zb (t.ns.getD r n0).n=ah/\xt (t.ns.map Nd.n) r=ah) ?_ ?_
 ·refine gf t.ns.length (λi s'=>s'.base=0/\s'.tmp 1= .gz 1 (s'.ba 1) 0/\s'.di 1=aa (.loc [.d (.gd 2 (t.ps.map mg)),.d (.gd 5 (t.ns.map pa))])/\s'.tmp 22= .d (.gd 5 (t.ns.map pa))/\s'.tmp 23= .d (.int aj t.ns.length)/\s'.tmp 24= .d (.int aj i)/\
   ∀r,r<i->zb (t.ns.getD r n0).n=ah/\xt (t.ns.map Nd.n) r=ah) ?_ ?_
  ·simp only[go_sem,ab]
   try simp
  rintro i s' E ⟨o,b,a,f22,f23,f24,G⟩;by_cases Q:(i:Int)<t.ns.length
  ·have c:i<t.ns.length:=by lia
   have wi:=dr ((i:Int)+1) (by lia) (by lia);have K:=J6 c
   have L:t.ns.getD i n0=t.ns[i]:=by simp[cz,c]
   have q:Bu pr t i=(zb (t.ns.getD i n0).n&&(xt (t.ns.map Nd.n) i&&(yc pr (t.ns.getD i n0).f&&(((t.ns.getD i n0).ins.length:Int)==kIn (t.ns.getD i n0).f.k.toNat&&(((fc (t.ns.getD i n0).ins.length).all λk=>Ts t.ns ((t.ns.getD i n0).ins.getD k ⟨#[]⟩))&&(xh pr (t.ns.getD i n0).f t.ps).2==0))))):=rfl;have no:=no i c;have Zx:=Za A.toPr (t.ns.getD i n0).n
   have Y:∀h:0<i,xt (t.ns.map Nd.n) i=strLt t.ns[i-1].n (t.ns.getD i n0).n:=λh=>by
    unfold xt
    have:i-1<t.ns.length:=by lia
    have h0:i≠0:=by lia
    simp[h0,this,c]
   have D:∀h:0<i,(t.ns.map pa)[i-1]? =aa [.str t.ns[i-1].n,.int aj t.ns[i-1].f.k,qx t.ns[i-1].f.vs,kh t.ns[i-1].f.ls,kn t.ns[i-1].ins]:=λh=>by
    have:i-1<t.ns.length:=by lia
    simp[this,pa]
   generalize F:t.ns.getD i n0=n at*
   simp only[qx,kh,kn]at K D;simp only[go_sem,ab,ak,ao,reduceCtorEq,o,f22,f23,f24,Q,K,bn,aw];refine gq Zx ?_;cases d1:zb n.n
   ·have:Bu pr t i=false:=by rw[q,d1];rfl
    simp only[go_sem,ab,no this]
   by_cases d2:0<i
   ·have j:(0:Int)<i:=by lia
    have w1:=dr ((i:Int)-1) (by lia) (by lia)
    have z:(0:Int)<=(i:Int)-1:=by lia
    cases S:strLt t.ns[i-1].n n.n
    ·have m:=S;unfold strLt at m
     have:Bu pr t i=false:=by rw[q,Y d2,S,d1];rfl
     simp only[go_sem,ab,ak,ao,reduceCtorEq,b,a,j,w1,Jv j,D d2,z,m,no this]
    have m:=S;unfold strLt at m;simp only[go_sem,ab,ak,ao,reduceCtorEq,b,a,f22,f23,f24,j,w1,Jv j,D d2,z,m,wi,c];exact⟨by simp,rz G (by rw[F,Y d2];exact⟨d1,S⟩)⟩
   have j:¬(0:Int)<i:=by lia
   have X:xt (t.ns.map Nd.n) i=true:=by unfold xt;simp;lia
   simp only[go_sem,ab,reduceCtorEq,b,a,f22,f23,f24,j,wi,c];exact⟨by simp,rz G (by rw[F];exact⟨d1,X⟩)⟩
  have:i=t.ns.length:=by lia
  subst this;simp only[go_sem,ab,reduceCtorEq,o,b,a,f23,f24,Q];exact G
 rintro s' ⟨o,b,a,s⟩;simp only[go_sem,ab,ak,o,b,a,al];refine wv (λs'=>s'.base=0/\s'.tmp 1= .gz 1 (s'.ba 1) 0/\s'.di 1=aa (.loc [.d (.gd 2 (t.ps.map mg)),.d (.gd 5 (t.ns.map pa))])/\(fc t.ns.length).all (Bu pr t)=ah) ?_ ?_
 ·refine gf t.ns.length (λi s'=>s'.base=0/\s'.tmp 1= .gz 1 (s'.ba 1) 0/\s'.di 1=aa (.loc [.d (.gd 2 (t.ps.map mg)),.d (.gd 5 (t.ns.map pa))])/\s'.tmp 51= .d (.gd 5 (t.ns.map pa))/\s'.tmp 52= .d (.int aj t.ns.length)/\s'.tmp 53= .d (.int aj i)/\∀r,r<i->Bu pr t r=ah) ?_ ?_
  ·simp only[go_sem,ab,b,a]
   try simp
  clear o b a;rintro i s' E ⟨o,b,a,H,B,C,G⟩;by_cases Q:(i:Int)<t.ns.length
  ·have c:i<t.ns.length:=by lia
   have wi:=dr ((i:Int)+1) (by lia) (by lia);have K:=J6 c
   have L:t.ns.getD i n0=t.ns[i]:=by simp[cz,c]
   obtain⟨q1,q2,q3,q4⟩:=O _ (dj c);rw[<-L]at q1 q2 q3 q4;have q:Bu pr t i=(zb (t.ns.getD i n0).n&&(xt (t.ns.map Nd.n) i&&(yc pr (t.ns.getD i n0).f&&(((t.ns.getD i n0).ins.length:Int)==kIn (t.ns.getD i n0).f.k.toNat&&(((fc (t.ns.getD i n0).ins.length).all λk=>Ts t.ns ((t.ns.getD i n0).ins.getD k ⟨#[]⟩))&&(xh pr (t.ns.getD i n0).f t.ps).2==0))))):=rfl;have no:=no i c;rw[(s i c).1,(s i c).2,rv,rv]at q;have zL:=CP A.toPr W (t.ns.getD i n0).f t.ps q2 q3 q4;have M:=KS A.toPr (t.ns.getD i n0).f.k
   have U:=qL A.toPr (l:=(t.ns.getD i n0).ins) (g:=A.xi) (j9:=[.ym (vt t) 0]) (p:=λk=> !(Ts t.ns ((t.ns.getD i n0).ins.getD k ⟨#[]⟩))) (λk T=>by
    have e:(t.ns.getD i n0).ins.getD k ⟨#[]⟩=(t.ns.getD i n0).ins[k]:=by rw[Bj,bh T];rfl
    rw[e];exact QE A t _ (by lia)) (by lia)
   have oF:((fc (t.ns.getD i n0).ins.length).any λk=> !(Ts t.ns ((t.ns.getD i n0).ins.getD k ⟨#[]⟩)))= !((fc (t.ns.getD i n0).ins.length).all λk=>Ts t.ns ((t.ns.getD i n0).ins.getD k ⟨#[]⟩)):=by
    rw[BT];simp
   rw[oF]at U
   generalize F:t.ns.getD i n0=n at*
   simp only[vt,ki,lr,kn]at U;simp only[qx,kh,kn]at K;simp only[cFt,qx,kh,ki,rO]at zL;simp only[go_sem,ab,ak,ao,reduceCtorEq,o,b,a,H,B,C,Q,K,bn,aw];refine ir zL ?_;cases v:((xh pr n.f t.ps).2==0)
   ·have w:((xh pr n.f t.ps).2 !=0)=true:=by unfold bne;rw[v];rfl
    have:Bu pr t i=false:=by rw[q,v];simp
    simp only[go_sem,ab,reduceCtorEq,w,no this]
   have w:((xh pr n.f t.ps).2 !=0)=false:=by unfold bne;rw[v];rfl
   have J:yc pr n.f=true:=by
    cases h:yc pr n.f
    ·unfold xh at v;rw[bc h]at v;cases v
    rfl
   have T:0<=n.f.k/\n.f.k<14:=by
    have:=J;unfold yc at this;simp only[dc,decide_eq_true_eq]at this;exact this.1
   rw[J,v,rv,Ip]at q;rw[bc T,bc T]at M;simp only[go_sem,ab,ak,ao,reduceCtorEq,w];refine gq M ?_;cases R:((n.ins.length:Int)==kIn n.f.k.toNat)
   ·have x:(kIn n.f.k.toNat !=(n.ins.length:Int))=true:=by
     have:=beq_eq_false_iff_ne.1 R;exact bne_iff_ne.2 λh=>this h.symm
    have:Bu pr t i=false:=by rw[q,R];rfl
    simp only[go_sem,ab,ak,reduceCtorEq,al,x,no this]
   have x:(kIn n.f.k.toNat !=(n.ins.length:Int))=false:=by
    have:=beq_iff_eq.1 R;rw[this];simp
   rw[R,rv]at q;simp only[go_sem,ab,ak,reduceCtorEq,b,al,x];refine GB (ds:=[.gd 1 (n.ins.map qt),.qb A.xi [.ym [.gd 2 (t.ps.map mg),.gd 5 (t.ns.map pa)] 0]]) ?_ U (.inl rfl) ?_
   ·simp only[go_sem,ab,a,k9,ow]
   cases c8:(fc n.ins.length).all λk=>Ts t.ns (n.ins.getD k ⟨#[]⟩)
   ·have:Bu pr t i=false:=by rw[q,c8]
    simp only[go_sem,ab,no this]
   simp only[go_sem,ab,reduceCtorEq,b,a,H,B,C,wi,c];exact⟨by simp,rz G (by rw[q,c8])⟩
  have:i=t.ns.length:=by lia
  subst this;simp only[go_sem,ab,reduceCtorEq,o,b,a,B,C,Q];exact all_true G
 clear o b a;rintro s' ⟨o,b,a,I⟩
 have V:=PM A t (by lia) (λn hn=>by have:=(O n hn).1;lia)
 rw[<-jZ (λi E=>(s i E).1) (λi E=>(s i E).2)]at V;simp only[vt,ki,lr,kn]at V;rw[I,rv];simp only[go_sem,ak,o,b,a];refine gq V ?_;cases c9:(((J4 t.ns).length:Int)==t.ns.length)
 ·have y:(((J4 t.ns).length:Int) !=t.ns.length)=true:=by unfold bne;rw[c9];rfl
  simp only[go_sem,ab,ak,reduceCtorEq,b,a,al,y]
 have y:(((J4 t.ns).length:Int) !=t.ns.length)=false:=by unfold bne;rw[c9];rfl
 simp only[go_sem,ab,ak,reduceCtorEq,b,a,al,y]
end
def cn(u v:Sp):Int:=u.1*v.2-u.2*v.1
def lF(e:Ed)(p:Sp):Bool:=cn (dq e.1 p) (dq e.2 p)==0&&decide ((e.1.1-p.1)*(e.2.1-p.1)+(e.1.2-p.2)*(e.2.2-p.2)<0)
theorem rS(n:Int):(if(if n<1 then n else 1)> -1 then(if n<1 then n else 1)else-1)=sgn n:=by
 unfold sgn;by_cases a:n<1
 ·simp only[a,da];by_cases b:n<0
  ·rw[aq (by lia),bc b]
  rw[bc (by lia),aq b,aq (by lia)];lia
 simp only[a,bp];rw[bc (by decide),aq (by lia),bc (by lia)]
theorem LG(a:Sp):Gl a=(decide ((if a.2>a.1 then a.2 else a.1)<=500)&&decide ((if a.2<a.1 then a.2 else a.1)>=-500)):=by
 unfold Gl;rw[Uh];simp only[dc,decide_eq_true_eq];constructor
 ·rintro⟨b,c,d,e⟩;constructor<;>split<;>lia
 rintro⟨b,c⟩;split at b<;>split at c<;>lia
theorem a0c(a b p:Sp):cn (dq b a) (dq p a)=gu a b p:=rfl
section
variable{P:Program}(A:Pr P)
theorem PH(a:Sp):iv P A.yl [Aa a] (.bool (Gl a)):=by
 refine ez A.mo A.Vo (by simp) ?_;show l7 P Di (ly _ _) _;rw[LG];by_cases h:(if a.2>a.1 then a.2 else a.1)<=500
 ·have b:=h;simp only[gt_iff_lt]at b;simp only[Di,Aa,go_sem,ab,dw,ft,cu,fk,fp,ak,ao,reduceCtorEq,b]
 have b:=h;simp only[gt_iff_lt]at b;simp only[Di,Aa,go_sem,ab,dw,ft,cu,fk,fp,ak,ao,reduceCtorEq,b,fh]
theorem Is{a b:Sp}(c:SmP a)(hb:SmP b):iv P A.gr [Aa a,Aa b] (Aa (dq a b)):=by
 refine ez A.mo A.Vp (by simp) ?_;show l7 P Hg (ly _ _) _;obtain⟨⟨a1,d⟩,a3,a4⟩:=c;obtain⟨⟨e,b2⟩,b3,b4⟩:=hb;have w1:=dr (a.1-b.1) (by lia) (by lia);have w2:=dr (a.2-b.2) (by lia) (by lia);simp only[Hg,Aa,go_sem,ab,dw,ft,fk,fp,ak,ao,reduceCtorEq,w1,w2,dq]
theorem Sh{u v:Sp}(a:SmP u)(b:SmP v):iv P A.jy [Aa u,Aa v] (.int aj (cn u v)):=by
 refine ez A.mo A.gV (by simp) ?_;show l7 P Nz (ly _ _) _;obtain⟨w1,w2,c,_⟩:=cr2 a b;simp only[Nz,Aa,go_sem,ab,dw,ft,fk,fp,ak,ao,reduceCtorEq,w1,w2,c,cn]
theorem a2i{a b c:Sp}(g:SmL a)(hb:SmL b)(h:SmL c):iv P A.Fb [Aa a,Aa b,Aa c] (.int aj (sgn (cn (dq b a) (dq c b)))):=by
 refine ez A.mo A.lL (by simp) ?_;show l7 P (Pj A.gr A.jy) (ly _ _) _;have d:=Is A hb.p g.p;have e:=Is A h.p hb.p;have f:=Sh A (hb.sub g) (h.sub hb);simp only[Aa,dq]at d e f;simp only[Pj,Aa,go_sem,ab,cu,ak];refine ir d ?_;simp only[go_sem,ab,cu,ak];refine ir e ?_;simp only[go_sem,ab,cu];refine ir f ?_;simp only[go_sem,ab,cu,dq];rw[<-rS]
theorem a2n{e:Ed}{p:Sp}(f:SmL e.1)(g:SmL e.2)(a:SmL p):iv P A.xp [dEd e,Aa p] (.bool (lF e p)):=by
 refine ez A.mo A.Um (by simp) ?_;show l7 P (Gn A.gr A.jy) (ly _ _) _;have h:=Is A f.p a.p;have i:=Is A g.p a.p;have j:=Sh A (f.sub a) (g.sub a);have b:=f.sub a;have d:=g.sub a;simp only[Aa,dq]at h i j;simp only[Gn,dEd,Aa,go_sem,ab,dw,ak,ao];refine ir h ?_;simp only[go_sem,ab,dw,ft,fk,fp,ak];refine ir i ?_;simp only[go_sem,ab,ak];refine ir j ?_;unfold lF;simp only[dq];simp only[dq]at b d;obtain⟨⟨a1,l⟩,a3,a4⟩:=b;obtain⟨⟨m,b2⟩,b3,b4⟩:=d;have n:=oD (x:=e.1.1-p.1) (y:=e.2.1-p.1) (by simp only at*;lia) (by simp only at*;lia);have o:=oD (x:=e.1.2-p.2) (y:=e.2.2-p.2) (by simp only at*;lia) (by simp only at*;lia);have w1:=dr ((e.1.1-p.1)*(e.2.1-p.1)) (by lia) (by lia);have w2:=dr ((e.1.2-p.2)*(e.2.2-p.2)) (by lia) (by lia);have k:=dr ((e.1.1-p.1)*(e.2.1-p.1)+(e.1.2-p.2)*(e.2.2-p.2)) (by lia) (by lia);cases c:(cn (e.1.1-p.1,e.1.2-p.2) (e.2.1-p.1,e.2.2-p.2)==0)
 ·simp only[go_sem,ab,reduceCtorEq,c,fh]
 simp only[go_sem,ab,dw,ft,fk,fp,ak,ao,reduceCtorEq,c,w1,w2,k]
theorem tD{e:Ed}{p:Sp}(a:SmL e.1)(c:SmL e.2)(d:SmL p):iv P A.s9 [dEd e,Aa p] (.int aj (sgn (gu e.1 e.2 p))):=by
 refine ez A.mo A.P3 (by simp) ?_;show l7 P (Bt A.gr A.jy) (ly _ _) _;have f:=Is A c.p a.p;have g:=Is A d.p a.p;have b:=Sh A (c.sub a) (d.sub a);rw[a0c]at b;simp only[Aa,dq]at f g b;simp only[Bt,dEd,Aa,go_sem,ab,dw,ft,cu,fk,fp,ak,ao];refine ir f ?_;simp only[go_sem,ab,dw,cu,ak,ao];refine ir g ?_;simp only[go_sem,ab,cu];refine ir b ?_;simp only[go_sem,ab,cu];rw[<-rS]
theorem KI{e f:Ed}(a:SmL e.1)(b:SmL e.2)(d:SmL f.1)(g:SmL f.2):iv P A.u5 [dEd e,dEd f] (.bool (Cx e f)):=by
 refine ez A.mo A.Qe (by simp) ?_;show l7 P (D4 A.s9) (ly _ _) _;have h:=tD A a b d;have i:=tD A a b g;have j:=tD A d g a;have k:=tD A d g b;have l:=sT (gu e.1 e.2 f.1) (gu e.1 e.2 f.2);have b2:=sT (gu f.1 f.2 e.1) (gu f.1 f.2 e.2);have w1:=dr _ (by lia) (by lia:sgn (gu e.1 e.2 f.1)*sgn (gu e.1 e.2 f.2)<=9223372036854775807);have w2:=dr _ (by lia) (by lia:sgn (gu f.1 f.2 e.1)*sgn (gu f.1 f.2 e.2)<=9223372036854775807);simp only[dEd,Aa]at h i j k;unfold Cx;simp only[D4,dEd,go_sem,ab,dw,ak,ao];refine Q2 h ?_;simp only[go_sem,ab,dw,ft,fk,fp,ak];refine Q2 i ?_;by_cases c:sgn (gu e.1 e.2 f.1)*sgn (gu e.1 e.2 f.2)<0
 ·simp only[go_sem,ab,dw,ak,ao,reduceCtorEq,w1,c];refine Q2 j ?_;simp only[go_sem,ab,dw,ft,fk,fp,ak];refine Q2 k ?_;simp only[go_sem,ab,reduceCtorEq,w2]
 simp only[go_sem,ab,reduceCtorEq,w1,c,fh]
theorem WQ(a:Sp):iv P A.Ao [Aa a] (.bool !(Gl a)):=by
 refine ez A.mo A.dI (by simp) ?_;show l7 P (M6 A.yl) (ly _ _) _;have h:=PH A a;simp only[Aa]at h;simp only[M6,Aa,go_sem,ab,ak];refine gq h ?_;simp only[go_sem,ab]
theorem JP{ls:List (List Sp)}(a:∀l∈ls,l.length<=2^30):uc ls<=ls.length*2^30:=by
 unfold uc
 induction ls with
 |nil=>simp
 |cons l r c=>
  have:=c λm b=>a m (by simp[b]);have:=a l (by simp);simp only[du,a1r,cq];lia
theorem WL(ls:List (List Sp))(q:ls.length<=2^30)(k:∀l∈ls,l.length<=2^30):iv P A.uv [.agg [kh ls]] (.int aj (uc ls)):=by
 refine ez A.mo A.Sw (by simp) ?_;show l7 P Ey (ly _ _) _;simp only[Ey,kh,go_sem,ab,al];refine gf ls.length (λi s'=>s'.tmp 7= .d (.gd 1 (ls.map λl=>[uu l]))/\s'.tmp 8= .d (.int aj ls.length)/\s'.tmp 9= .d (.int aj i)/\s'.tmp 3= .d (.int aj (uc (ls.take i)))) ?_ ?_
 ·simp only[go_sem,ab];simp[uc]
 rintro i s' r ⟨p,h,j,b⟩;by_cases o:(i:Int)<ls.length
 ·have a:i<ls.length:=by lia
  have wi:=dr ((i:Int)+1) (by lia) (by lia);have n:=Qf a
  have c:ls.getD i []=ls[i]:=by simp[cz,a]
  rw[c]at n;have f:=JP (ls:=ls.take i) λl m=>k l (sC m);have m:=k _ (dj a)
  have g:(ls.take i).length<=2^30:=by simp;lia
  have hb:uc (ls.take i)<=2^60:=jg f (by have:=ae0 g (bm (2^30));lia);have w:=dr ((uc (ls.take i):Int)+ls[i].length) (by lia) (by lia)
  have e:((uc (ls.take (i+1)):Nat):Int)=(uc (ls.take i):Int)+ls[i].length:=by rw[n];lia
  simp only[go_sem,ab,reduceCtorEq,p,h,j,b,o,Fo a,bn,aw,al,w,wi,a,e]
  try simp
 have:i=ls.length:=by lia
 subst this;rw[fm]at b;simp only[go_sem,ab,reduceCtorEq,h,j,b,o]
theorem CK(ls:List (List Sp))(C:ls.length<=2^30)(E:(dm ls).length<=2^30):iv P A.qo [.agg [kh ls]] (T3 (dm ls)):=by
 have m:iv P A.qo [.agg [kh ls]] (p9 4 ((dm ls).map Ep)):=by
  refine ez A.mo A.Px (by simp) ?_;show l7 P Cn (ly _ _) _;simp only[Cn,kh,go_sem,ab,al];refine gf ls.length (λi s'=>s'.base=0/\s'.tmp 9= .d (.gd 1 (ls.map λl=>[uu l]))/\s'.tmp 10= .d (.int aj ls.length)/\s'.tmp 11= .d (.int aj i)/\u0 s' 34 4 ((dm (ls.take i)).map Ep) (s'.tmp 3)) ?_ ?_
  ·simp only[go_sem,ab];exact u0.nil
  rintro i s' G ⟨f,h,a,b,acc⟩;by_cases u:(i:Int)<ls.length
  ·have j:i<ls.length:=by lia
   have wi:=dr ((i:Int)+1) (by lia) (by lia);have q:=Fo j;simp only[go_sem,ab,reduceCtorEq,f,h,a,b,u,q,bn,aw,al]
   refine gf ls[i].length (λk s'=>s'.base=0/\s'.tmp 9= .d (.gd 1 (ls.map λl=>[uu l]))/\s'.tmp 10= .d (.int aj ls.length)/\s'.tmp 11= .d (.int aj i)/\s'.tmp 5= .d (.gd 2 (ls[i].map Ci))/\s'.tmp 15= .d (.gd 2 (ls[i].map Ci))/\s'.tmp 16= .d (.int aj ls[i].length)/\s'.tmp 17= .d (.int aj k)/\
    u0 s' 34 4 ((dm (ls.take i)++(jb ls[i]).take k).map Ep) (s'.tmp 3)) ?_ ?_
   ·simp only[go_sem,ab,h,a,b,pt];exact acc.mono rfl rfl
   clear f h a b acc;rintro k s' H ⟨f,h,a,b,t,f15,c,e,acc⟩;by_cases s:(k:Int)<ls[i].length
   ·have n:k<ls[i].length:=by lia
    have x:=Mw j (aep n)
    have w:ls[i].length<=2^30:=by
     have:=Mw j (bm ls[i].length);simp only[dz,ey,qh]at this;lia
    have v:=dr ((k:Int)+1) (by lia) (by lia);have y:(k+1)%ls[i].length<ls[i].length:=Ht _ (by lia)
    have z:(((k+1)%ls[i].length:Nat):Int)<ls[i].length:=by lia
    have B:¬((ls[i].length:Nat):Int)=0:=by lia
    simp only[go_sem,ab,ak,ao,reduceCtorEq,cw,f,t,f15,c,e,al,s,bn,aw,Es n,Es y,v,bK,B];refine r4 (dv:=(dm (ls.take i)++(jb ls[i]).take k).map Ep) (ys:=[Ep (u9 ls[i] k)]) (osz:=aa 4) ?_ ?_ rfl (by simp[Ep,D.one]) ?_ (by simp) ?_
    ·simp only[go_sem,ab];exact acc.mono (by simp[ar]) (by simp[ar])
    ·simp only[go_sem,ab,pj];rfl
    ·simp only[al,cq,ew];lia
    intro I g;simp only[go_sem,ab,reduceCtorEq,g.tmp,g.base,h,a,b,t,f15,c,e,v,n];refine⟨by simp,?_⟩;have p:=g.acc (by simp);rw[g.tmp,de]at p;rw[Pq n,<-uy];simp only[gj,fj,du,ic]at p|-;exact p.mono rfl rfl
   have r:k=ls[i].length:=by lia
   simp only[go_sem,ab,reduceCtorEq,f,h,a,b,c,e,s,wi,j];refine⟨by simp,?_⟩;rw[Yo j];rw[r,D0 (l:=jb ls[i]) (by rw[qh];exact bm _)]at acc;exact acc.mono rfl rfl
  have:i=ls.length:=by lia
  subst this;rw[fm]at acc;simp only[go_sem,ab,reduceCtorEq,f,a,b,u];rcases acc with ⟨a1,o⟩|⟨a1,o,a3⟩
  ·simp only[go_sem,a1,o,p9]
  have F:PS.dv s' 34 (s'.ba 34)=aa (4,(dm ls).map Ep):=by unfold PS.dv;rw[bc rfl,a3]
  rw[p9,aq a1,o];simp only[go_sem,a3,al]
 exact m.Nl By
end
def Md(a:List Ed)(e:Ed):Bool:=a.any λf=>X6 e f
def cM(e:Ed):D×C:=(.agg (Ep e),.d (.bool ah))
theorem TW(e f:Ed):G3 (.row [.int,.int,.int,.int]) (.agg (Ep e)) (.agg (Ep f))=aa (X6 e f):=by
 simp[G3,Ep,C3,Ps,X6]
theorem iR(e:Ed)(a:List Ed):Iv (.row [.int,.int,.int,.int]) (.agg (Ep e)) (a.map cM)=aa (if Md a e then aa (C.d (.bool ah))else ae):=by
 induction a with
 |nil=>rfl
 |cons f r b=>
  simp only[du]
  show(match G3 (.row [.int,.int,.int,.int]) (.agg (Ep e)) (.agg (Ep f))with|some ah=>_|some ag=>_|none=>_)=_
  rw[TW];unfold Md at b|-;rw[a8q];cases X6 e f
  ·simp only[b,C0]
  simp
theorem QP(e:Ed)(a:List Ed)(h:Md a e=ag):O9 (.row [.int,.int,.int,.int]) (.agg (Ep e)) (C.d (.bool ah)) (a.map cM)=aa ((a++[e]).map cM):=by
 induction a with
 |nil=>rfl
 |cons f r b=>
  simp only[du,qc]
  show(match G3 (.row [.int,.int,.int,.int]) (.agg (Ep e)) (.agg (Ep f))with|some ah=>_|some ag=>_|none=>_)=_
  rw[TW];unfold Md at h b;rw[a8q,K4]at h;rw[h.1];simp only[b h.2,jc];rfl
def nW(e:Ed):Ed:=(e.2,e.1)
def Xb(es:List Ed)(i:Nat):Bool:= !w9 (es.getD i e0).1 (es.getD i e0).2&&(!Md (es.take i) (es.getD i e0)&& !Md (es.take i) (nW (es.getD i e0)))
def Uy(es:List Ed)(i k:Nat):Bool:= !lF (es.getD i e0) (es.getD k e0).1&& !(decide (k<i)&&Cx (es.getD i e0) (es.getD k e0))
def Ov(es:List Ed):Bool:=(fc es.length).all (Xb es)&&(fc es.length).all λi=>(fc es.length).all (Uy es i)
section
variable{P:Program}(A:Pr P)
theorem PG(es:List Ed)(h1:es.length<=1000)(S:∀e∈es,SmL e.1/\SmL e.2):iv P A.Cf [T3 es] (.bool (Ov es)):=by
 refine ez A.mo A.dH (by simp) ?_;show l7 P (M5 A.xp A.u5) (ly _ _) _;unfold Ov;simp only[M5,T3,go_sem,ab,reduceCtorEq,al];refine wv (λs'=>s'.base=0/\s'.tmp 0= .d (.gd 4 (es.map Ep))/\(fc es.length).all (Xb es)=ah) ?_ ?_
 ·refine gf es.length (λi s'=>s'.base=0/\s'.tmp 0= .d (.gd 4 (es.map Ep))/\s'.tmp 3= .o8 10 (s'.ba 10)/\s'.mp 10=aa ((es.take i).map cM)/\s'.tmp 11= .d (.gd 4 (es.map Ep))/\s'.tmp 12= .d (.int aj es.length)/\s'.tmp 13= .d (.int aj i)/\∀u,u<i->Xb es u=ah) ?_ ?_
  ·simp only[go_sem,ab,reduceCtorEq];intro u F7;lia
  rintro i s' Z ⟨l,j,G,M,w,q,r,x⟩;by_cases y:(i:Int)<es.length
  ·have n:i<es.length:=by lia
   have wi:=dr ((i:Int)+1) (by lia) (by lia);have I:=Et n
   have s:es.getD i e0=es[i]:=by simp[cz,n]
   have K:es.take (i+1)=es.take i++[es.getD i e0]:=by rw[j3,s];simp[n]
   have t:Xb es i=(!w9 (es.getD i e0).1 (es.getD i e0).2&&(!Md (es.take i) (es.getD i e0)&& !Md (es.take i) (nW (es.getD i e0)))):=rfl
   have no:Xb es i=ag->((fc es.length).all (Xb es)&&(fc es.length).all λi=>(fc es.length).all (Uy es i))=false:=λh=>by rw[all_false n h,fh]
   generalize es.getD i e0=e at*
   have E:=iR e (es.take i);have L:=iR (nW e) (es.take i);simp only[Ep,nW]at E L;simp only[go_sem,ab,dw,ft,fk,fp,ak,ao,reduceCtorEq,l,w,q,r,y,I,bn,aw,Ip];cases c1:w9 e.1 e.2
   ·have c:=c1;unfold w9 at c;cases o:Md (es.take i) e
    ·cases c3:Md (es.take i) (nW e)
     ·have m:=c3;simp only[nW]at m;have W:=QP e (es.take i) o;simp only[Ep]at W;simp only[go_sem,ab,dw,ft,fk,fp,ak,ao,reduceCtorEq,j,G,M,w,q,r,c,o,m,Lc,PS.ents,E,L,W,wi,n,K];exact⟨by simp,rz x (by rw[t,c1,o,c3];rfl)⟩
     have m:=c3;simp only[nW]at m;simp only[go_sem,ab,dw,ft,fk,fp,ak,ao,G,M,c,o,m,Lc,PS.ents,E,L];rw[no (by rw[t,c3];simp)]
    simp only[go_sem,ab,ak,G,M,c,o,Lc,PS.ents,E];rw[no (by rw[t,o];simp)]
   have c:=c1;unfold w9 at c;simp only[go_sem,ab,c];rw[no (by rw[t,c1];simp)]
  have:i=es.length:=by lia
  subst this;simp only[go_sem,reduceCtorEq,l,j,q,r,y];exact all_true x
 rintro s' ⟨l,j,Y⟩;rw[Y,rv];simp only[go_sem,j,al];refine gf es.length (λi s'=>s'.base=0/\s'.tmp 0= .d (.gd 4 (es.map Ep))/\s'.tmp 39= .d (.gd 4 (es.map Ep))/\s'.tmp 40= .d (.int aj es.length)/\s'.tmp 41= .d (.int aj i)/\∀u,u<i->(fc es.length).all (Uy es u)=ah) ?_ ?_
 ·simp only[go_sem,ab,reduceCtorEq,l,j]
  try simp
 clear l j;rintro i s' Z ⟨l,j,g,a,b,x⟩;by_cases y:(i:Int)<es.length
 ·have n:i<es.length:=by lia
  have wi:=dr ((i:Int)+1) (by lia) (by lia);have I:=Et n
  have s:es.getD i e0=es[i]:=by simp[cz,n]
  obtain⟨q1,q2⟩:=S _ (dj n);rw[<-s]at q1 q2;have no:∀k,k<es.length->Uy es i k=ag->((fc es.length).all λi=>(fc es.length).all (Uy es i))=false:=λk T h=>all_false n (all_false T h);have t:∀k,Uy es i k=(!lF (es.getD i e0) (es.getD k e0).1&& !(decide (k<i)&&Cx (es.getD i e0) (es.getD k e0))):=λ_=>rfl
  generalize es.getD i e0=e at*
  simp only[go_sem,ab,ak,reduceCtorEq,l,j,g,a,b,y,I,bn,aw,al]
  refine gf es.length (λk s'=>s'.base=0/\s'.tmp 0= .d (.gd 4 (es.map Ep))/\s'.tmp 39= .d (.gd 4 (es.map Ep))/\s'.tmp 40= .d (.int aj es.length)/\s'.tmp 41= .d (.int aj i)/\s'.tmp 6= .d (.int aj i)/\s'.tmp 7= .gz 7 (s'.ba 7) 0/\s'.di 7=aa (.loc [.d (.int aj e.1.1),.d (.int aj e.1.2),.d (.int aj e.2.1),.d (.int aj e.2.2)])/\
   s'.tmp 46= .d (.gd 4 (es.map Ep))/\s'.tmp 47= .d (.int aj es.length)/\s'.tmp 48= .d (.int aj k)/\∀U,U<k->Uy es i U=ah) ?_ ?_
  ·simp only[go_sem,ab,reduceCtorEq,j,g,a,b]
   try simp
  clear l j g a b;rintro k s' T ⟨l,j,g,a,b,f6,D,C,f46,f47,f48,H⟩;by_cases O:(k:Int)<es.length
  ·have v:k<es.length:=by lia
   have X:=dr ((k:Int)+1) (by lia) (by lia);have J:=Et v
   have F:es.getD k e0=es[k]:=by simp[cz,v]
   obtain⟨N,V⟩:=S _ (dj v);rw[<-F]at N V;have z:=no k v;have B:=t k
   generalize es.getD k e0=f at*
   have R:=a2n A q1 q2 N;have Q:=KI A q1 q2 N V;simp only[dEd,Aa]at R Q;simp only[go_sem,ab,dw,ak,ao,reduceCtorEq,l,D,C,f46,f47,f48,O,J,bn,aw];refine ir R ?_;cases c1:lF e f.1
   ·by_cases o:(k:Int)<i
    ·have p:k<i:=by lia
     simp only[go_sem,ab,ak,reduceCtorEq,f6,D,C,o];refine ir Q ?_;cases c3:Cx e f
     ·simp only[go_sem,ab,reduceCtorEq,j,g,a,b,f6,D,C,f46,f47,f48,X,v];exact⟨by simp,rz H (by rw[B,c1,c3];simp)⟩
     simp only[go_sem,ab];rw[z (by rw[B,c3,decide_eq_true p];simp)]
    have p:¬k<i:=by lia
    simp only[go_sem,ab,reduceCtorEq,j,g,a,b,f6,D,C,f46,f47,f48,o,X,v];exact⟨by simp,rz H (by rw[B,c1,decide_eq_false p];simp)⟩
   simp only[go_sem,ab];rw[z (by rw[B,c1];simp)]
  have:k=es.length:=by lia
  subst this;simp only[go_sem,ab,reduceCtorEq,l,j,g,a,b,f47,f48,O,wi,n];exact⟨by simp,rz x (all_true H)⟩
 have:i=es.length:=by lia
 subst this;simp only[go_sem,ab,reduceCtorEq,l,a,b,y];rw[all_true x]
end
def vw(a:Bool)(p:Sp):Sp:=if a then(p.2,p.1)else p
def seen(a:Bool)(m p:Sp):Sp:=(2*(vw a p).1-(vw a m).1,2*(vw a p).2-(vw a m).2)
def gD(a:Bool)(m:Sp)(f:Ed):Int:=
 if decide (0<(seen a m f.1).2)==decide (0<(seen a m f.2).2)then 0
 else if decide (0<cn (seen a m f.1) (seen a m f.2))==decide ((seen a m f.1).2<(seen a m f.2).2)then(if(seen a m f.1).2<(seen a m f.2).2 then 1 else-1)else 0
def swE(e:Ed):Bool:=e.1.2==e.2.2
def wAt(es:List Ed)(i k:Nat):Int:=if k=i then 0 else gD (swE (es.getD i e0)) (qd (es.getD i e0)) (es.getD k e0)
def Zt(es:List Ed)(i:Nat):Int:=
 (if swE (es.getD i e0)then-(pb (wAt es i) es.length)else pb (wAt es i) es.length)+
  (if decide ((vw (swE (es.getD i e0)) (es.getD i e0).1).2<(vw (swE (es.getD i e0)) (es.getD i e0).2).2)== !swE (es.getD i e0)then 1 else 0)
def Qr(es:List Ed):Bool:=(fc es.length).all λi=>Zt es i==1
theorem a29(a:Bool)(m:Sp)(f:Ed): -1<=gD a m f/\gD a m f<=1:=by unfold gD;split<;>(try split)<;>(try split)<;>lia
theorem a5v(es:List Ed)(i k:Nat): -1<=wAt es i k/\wAt es i k<=1:=by
 unfold wAt;split
 ·lia
 exact a29 _ _ _
def Su(v:Sp):Int:=if decide (0<v.2)||(v.2==0&&decide (0<v.1))then 0 else 1
def Ab(u v:Sp):Int:=if Su u=Su v then-(cn u v)else Su u-Su v
theorem IG(v:Sp):Su v=0\/Su v=1:=by unfold Su;split<;>simp
theorem UD{u v:Sp}(a:SmP u)(b:SmP v): -800000000<=cn u v/\cn u v<=800000000:=by
 obtain⟨⟨a1,c⟩,a3,a4⟩:=a;obtain⟨⟨d,b2⟩,b3,b4⟩:=b;have e:=oD (x:=u.1) (y:=v.2) (by lia) (by lia);have f:=oD (x:=u.2) (y:=v.1) (by lia) (by lia);unfold cn;lia
section
variable{P:Program}(A:Pr P)
theorem PO(v:Sp):iv P A.Cr [Aa v] (.int aj (Su v)):=by
 refine ez A.mo A.lN (by simp) ?_;show l7 P Ex (ly _ _) _;unfold Su;by_cases a:0<v.2
 ·simp only[Ex,Aa,go_sem,ab,dw,ft,fk,fp,ak,reduceCtorEq,a,D1]
 cases b:v.2==0
 ·simp only[Ex,Aa,go_sem,ab,dw,ft,fk,fp,ak,reduceCtorEq,a,b,fh,R0]
 by_cases c:0<v.1
 ·simp only[Ex,Aa,go_sem,ab,dw,ft,fk,fp,ak,ao,reduceCtorEq,a,b,c,adn]
 simp only[Ex,Aa,go_sem,ab,dw,ft,fk,fp,ak,ao,reduceCtorEq,a,b,c,R0]
theorem HG{u v:Sp}(g:SmP u)(h:SmP v):iv P A.vo [Aa u,Aa v] (.int aj (Ab u v)):=by
 refine ez A.mo A.gW (by simp) ?_;show l7 P (O0 A.Cr A.jy) (ly _ _) _;have e:=PO A u;have f:=PO A v;have d:=Sh A g h;have hb:=UD g h;have w1:=dr (0-cn u v) (by lia) (by lia)
 have c:(0:Int)-cn u v= -(cn u v):=by lia
 rw[c]at w1;simp only[Aa]at e f d;unfold Ab;simp only[O0,Aa,go_sem,ab,ak];refine gq e ?_;simp only[go_sem,ab,ak];refine gq f ?_;rcases IG u with a|a<;>rcases IG v with b|b
 ·simp only[go_sem,ab,adw,ak,reduceCtorEq,a,b,bne_self_eq_false];refine ir d ?_;simp only[go_sem,ab,w1,c]
 ·have:((0:Int) !=1)=true:=rfl;have w:=dr ((0:Int)-1) (by lia) (by lia);simp only[go_sem,ab,adw,Int.reduceEq,cu,reduceCtorEq,a,b,this]
  try rfl
 ·have:((1:Int) !=0)=true:=rfl;simp only[go_sem,ab,adw,Int.reduceEq,reduceCtorEq,a,b,this]
  try rfl
 simp only[go_sem,ab,adw,ak,reduceCtorEq,a,b,bne_self_eq_false];refine ir d ?_;simp only[go_sem,ab,w1,c]
def S5(es:List Ed)(i:Nat)(e:Ed)(a:Bool)(s':PS):Prop:=
 s'.base=0/\s'.tmp 0= .d (.gd 4 (es.map Ep))/\s'.tmp 3= .d (.int aj i)/\s'.tmp 4= .gz 4 (s'.ba 4) 0/\s'.di 4=aa (.loc [.d (.int aj e.1.1),.d (.int aj e.1.2),.d (.int aj e.2.1),.d (.int aj e.2.2)])/\
 s'.tmp 5= .gz 5 (s'.ba 5) 0/\s'.di 5=aa (.loc [.d (.int aj (e.1.1+e.2.1)),.d (.int aj (e.1.2+e.2.2))])/\s'.tmp 6= .d (.int aj (if a then 1 else 0))/\s'.tmp 7= .d (.int aj (if a then 0 else 1))/\
 s'.tmp 16= .d (.gd 4 (es.map Ep))/\s'.tmp 17= .d (.int aj es.length)/\s'.tmp 18= .d (.int aj i)
def GH(f:Nat):eh:=
 (.seq (
           (.block 3 (
            (.seq (
            .region [⟨aa 49,.kf (.t 47),ae,[]⟩,
             ⟨aa 50,.xn 4 (.t 45) (.t 47),ae,[]⟩,
             ⟨aa 51,.load 4 ah (.t 50),ae,[]⟩,
             ⟨aa 10,.alloc [(.int aj 0),(.int aj 0),(.int aj 0),(.int aj 0)],ae,[]⟩,
             ⟨aa 9,.kf (.t 49),ae,[]⟩,
             ⟨ae,.store 4 (.t 10) (.t 51),ae,[]⟩] ag []) (
            (.seq (
             .region [⟨aa 52,.kf (.t 6),ae,[]⟩,
              ⟨aa 53,.y9 2 2 (.t 10) (.c (.int aj 0)),ae,[]⟩,
              ⟨aa 54,.y9 2 1 (.t 53) (.t 52),ae,[]⟩,
              ⟨aa 55,.load 1 ag (.t 54),ae,[]⟩,
              ⟨aa 56,.bin .mul (.c (.int aj 2)) (.t 55),ae,[]⟩,
              ⟨aa 57,.kf (.t 6),ae,[]⟩,
              ⟨aa 58,.y9 2 1 (.t 5) (.t 57),ae,[]⟩,
              ⟨aa 59,.load 1 ag (.t 58),ae,[]⟩,
              ⟨aa 60,.bin .sub (.t 56) (.t 59),ae,[]⟩,
              ⟨aa 61,.kf (.t 7),ae,[]⟩,
              ⟨aa 62,.y9 2 2 (.t 10) (.c (.int aj 0)),ae,[]⟩,
              ⟨aa 63,.y9 2 1 (.t 62) (.t 61),ae,[]⟩,
              ⟨aa 64,.load 1 ag (.t 63),ae,[]⟩,
              ⟨aa 65,.bin .mul (.c (.int aj 2)) (.t 64),ae,[]⟩,
              ⟨aa 66,.kf (.t 7),ae,[]⟩,
              ⟨aa 67,.y9 2 1 (.t 5) (.t 66),ae,[]⟩,
              ⟨aa 68,.load 1 ag (.t 67),ae,[]⟩,
              ⟨aa 69,.bin .sub (.t 65) (.t 68),ae,[]⟩,
              ⟨aa 70,.build [(.int aj 0),(.int aj 0)] [(0,1,(.t 60)),(1,1,(.t 69))],ae,[]⟩,
              ⟨aa 71,.kf (.t 6),ae,[]⟩,
              ⟨aa 72,.y9 2 2 (.t 10) (.c (.int aj 1)),ae,[]⟩,
              ⟨aa 73,.y9 2 1 (.t 72) (.t 71),ae,[]⟩,
              ⟨aa 74,.load 1 ag (.t 73),ae,[]⟩,
              ⟨aa 75,.bin .mul (.c (.int aj 2)) (.t 74),ae,[]⟩,
              ⟨aa 76,.kf (.t 6),ae,[]⟩,
              ⟨aa 77,.y9 2 1 (.t 5) (.t 76),ae,[]⟩,
              ⟨aa 78,.load 1 ag (.t 77),ae,[]⟩,
              ⟨aa 79,.bin .sub (.t 75) (.t 78),ae,[]⟩,
              ⟨aa 80,.kf (.t 7),ae,[]⟩,
              ⟨aa 81,.y9 2 2 (.t 10) (.c (.int aj 1)),ae,[]⟩,
              ⟨aa 82,.y9 2 1 (.t 81) (.t 80),ae,[]⟩,
              ⟨aa 83,.load 1 ag (.t 82),ae,[]⟩,
              ⟨aa 84,.bin .mul (.c (.int aj 2)) (.t 83),ae,[]⟩,
              ⟨aa 85,.kf (.t 7),ae,[]⟩,
              ⟨aa 86,.y9 2 1 (.t 5) (.t 85),ae,[]⟩,
              ⟨aa 87,.load 1 ag (.t 86),ae,[]⟩,
              ⟨aa 88,.bin .sub (.t 84) (.t 87),ae,[]⟩,
              ⟨aa 89,.build [(.int aj 0),(.int aj 0)] [(0,1,(.t 79)),(1,1,(.t 88))],ae,[]⟩,
              ⟨aa 11,.zr 2,ae,[]⟩,
              ⟨aa 12,.zr 2,ae,[]⟩,
              ⟨ae,.init 11 2 (.t 70),ae,[]⟩,
              ⟨ae,.init 12 2 (.t 89),ae,[]⟩] ah []) (
             (.seq (
             (.seq (
              .region [⟨aa 90,.kf (.t 9),ae,[]⟩,
               ⟨aa 91,.kf (.t 3),ae,[]⟩,
               ⟨aa 92,.bin .eql (.t 90) (.t 91),ae,[]⟩,
               ⟨aa 93,.kf (.t 92),ae,[]⟩,
               ⟨aa 94,.y9 2 1 (.t 11) (.c (.int aj 1)),aa (93,ag),[]⟩,
               ⟨aa 95,.load 1 ag (.t 94),aa (93,ag),[]⟩,
               ⟨aa 96,.bin .gtr (.t 95) (.c (.int aj 0)),aa (93,ag),[]⟩,
               ⟨aa 97,.y9 2 1 (.t 12) (.c (.int aj 1)),aa (93,ag),[]⟩,
               ⟨aa 98,.load 1 ag (.t 97),aa (93,ag),[]⟩,
               ⟨aa 99,.bin .gtr (.t 98) (.c (.int aj 0)),aa (93,ag),[]⟩,
               ⟨aa 100,.beq ag (.t 96) (.t 99),aa (93,ag),[]⟩,
               ⟨aa 101,.pick (.t 93) (.c (.bool ah)) (.t 100),ae,[]⟩] ag []) (
              (.cond (.t 101) (
              .exit 3) (
              .skip))))) (
             (.seq (
              .region [⟨aa 102,.y9 2 1 (.t 12) (.c (.int aj 1)),ae,[]⟩,
               ⟨aa 103,.load 1 ag (.t 102),ae,[]⟩,
               ⟨aa 104,.y9 2 1 (.t 11) (.c (.int aj 1)),ae,[]⟩,
               ⟨aa 105,.load 1 ag (.t 104),ae,[]⟩,
               ⟨aa 106,.bin .gtr (.t 103) (.t 105),ae,[]⟩,
               ⟨aa 13,.kf (.t 106),ae,[]⟩] ag []) (
              (.seq (
              .region [⟨aa 107,.load 2 ah (.t 11),ae,[]⟩,
               ⟨aa 108,.load 2 ah (.t 12),ae,[]⟩,
               ⟨aa 109,.call f [(.t 107),(.t 108)],ae,[]⟩,
               ⟨aa 110,.bin .gtr (.t 109) (.c (.int aj 0)),ae,[]⟩,
               ⟨aa 111,.kf (.t 13),ae,[]⟩,
               ⟨aa 112,.beq ag (.t 110) (.t 111),ae,[]⟩] ag []) (
              (.cond (.t 112) (
               (.seq (
               .region [⟨aa 113,.kf (.t 13),ae,[]⟩] ag []) (
               (.cond (.t 113) (
                .region [⟨aa 114,.kf (.t 8),ae,[]⟩,
                 ⟨aa 115,.bin .add (.t 114) (.c (.int aj 1)),ae,[]⟩,
                 ⟨aa 8,.kf (.t 115),ae,[]⟩] ag []) (
                .region [⟨aa 116,.kf (.t 8),ae,[]⟩,
                 ⟨aa 117,.bin .sub (.t 116) (.c (.int aj 1)),ae,[]⟩,
                 ⟨aa 8,.kf (.t 117),ae,[]⟩] ag []))))) (
               .skip))))))))))))))) (
           .region [⟨aa 118,.bin .add (.t 47) (.c (.int aj 1)),ae,[]⟩,
            ⟨aa 47,.kf (.t 118),ae,[]⟩] ag []))
theorem XO{es:List Ed}{i k:Nat}{e f:Ed}{T:Bool}{n:Int}(hk:k<es.length)(hf:es.getD k e0=f)(hi:i<=1000)(a0:k<=1000)(he:GN e)(U:GN f)(hn: -2000<=n/\n<=2000){s':PS}{Q:Exit->PS->Prop}
  (h:S5 es i e T s')(a:s'.tmp 45= .d (.gd 4 (es.map Ep)))(f46:s'.tmp 46= .d (.int aj es.length))(f47:s'.tmp 47= .d (.int aj k))(z:s'.tmp 8= .d (.int aj n))
  (hQ:∀y,S5 es i e T y->y.tmp 45= .d (.gd 4 (es.map Ep))->y.tmp 46= .d (.int aj es.length)->y.tmp 47= .d (.int aj (k+1:Nat))->y.tmp 8= .d (.int aj (n+if k=i then 0 else gD T (qd e) f))->Q .normal y):
  l7 P (GH A.jy) Q s':=by
 unfold GH;obtain⟨E,F,s,G,b4,t,r,f6,m,o,p,q⟩:=h;obtain⟨⟨a1,a2⟩,⟨a3,a4⟩,⟨a5,a6⟩,a7,a8⟩:=he;obtain⟨⟨d1,d2⟩,⟨d3,d4⟩,⟨d5,d6⟩,d7,d8⟩:=U
 have ju:(k:Int)<es.length:=by lia
 have D:=Et hk;rw[hf]at D;have H:=dr ((k:Int)+1) (by lia) (by lia);have x1:=dr (2*f.1.1) (by lia) (by lia);have x2:=dr (2*f.1.2) (by lia) (by lia);have I:=dr (2*f.2.1) (by lia) (by lia);have J:=dr (2*f.2.2) (by lia) (by lia);have K:=dr (2*f.1.1-(e.1.1+e.2.1)) (by lia) (by lia);have L:=dr (2*f.1.2-(e.1.2+e.2.2)) (by lia) (by lia);have M:=dr (2*f.2.1-(e.1.1+e.2.1)) (by lia) (by lia);have N:=dr (2*f.2.2-(e.1.2+e.2.2)) (by lia) (by lia);have W:=dr (n+1) (by lia) (by lia);have X:=dr (n-1) (by lia) (by lia);have b:∀(y:PS) (x:Int),S5 es i e T y->y.tmp 45= .d (.gd 4 (es.map Ep))->y.tmp 46= .d (.int aj es.length)->y.tmp 47= .d (.int aj ((k:Int)+1))->y.tmp 8= .d (.int aj x)->x=n+(if k=i then 0 else gD T (qd e) f)->Q .normal y:=λy x Y Z h3 h4 h5 h6=>hQ y Y Z h3 (by simpa using h4) (by rw[<-h6];exact h5);cases T
 ·have C:=Sh A (u:=(2*f.1.1-(e.1.1+e.2.1),2*f.1.2-(e.1.2+e.2.2))) (v:=(2*f.2.1-(e.1.1+e.2.1),2*f.2.2-(e.1.2+e.2.2))) ⟨⟨by simp only;lia,by simp only;lia⟩,by simp only;lia,by simp only;lia⟩ ⟨⟨by simp only;lia,by simp only;lia⟩,by simp only;lia,by simp only;lia⟩
  have V:gD ag (qd e) f=if decide (0<2*f.1.2-(e.1.2+e.2.2))==decide (0<2*f.2.2-(e.1.2+e.2.2))then 0 else if decide (0<cn (2*f.1.1-(e.1.1+e.2.1),2*f.1.2-(e.1.2+e.2.2)) (2*f.2.1-(e.1.1+e.2.1),2*f.2.2-(e.1.2+e.2.2)))==decide (2*f.1.2-(e.1.2+e.2.2)<2*f.2.2-(e.1.2+e.2.2))then(if 2*f.1.2-(e.1.2+e.2.2)<2*f.2.2-(e.1.2+e.2.2)then 1 else-1)else 0:=rfl
  rw[V]at b;generalize cn (2*f.1.1-(e.1.1+e.2.1),2*f.1.2-(e.1.2+e.2.2)) (2*f.2.1-(e.1.1+e.2.1),2*f.2.2-(e.1.2+e.2.2))=cr at C b;simp only[Aa]at C
  generalize c:2*f.1.1-(e.1.1+e.2.1)=p1 at*
  generalize g:2*f.1.2-(e.1.2+e.2.2)=R at*
  generalize j:2*f.2.1-(e.1.1+e.2.1)=p3 at*
  generalize l:2*f.2.2-(e.1.2+e.2.2)=S at*
  simp only[reduceIte,gp]at f6 m;by_cases c0:k=i
  ·subst c0;simp only[go_sem,ab,dw,ft,fk,fp,ak,ao,reduceCtorEq,E,s,t,r,f6,m,a,f47,D,bn,aw,x1,x2,I,J,K,L,M,N,c,g,j,l,ff,H];refine b _ n ?_ ?_ ?_ ?_ ?_ ?_
   all_goals first|(simp only[S5,go_sem,ab,cu,reduceCtorEq,F,s,G,b4,t,r,f6,m,z,o,p,q,a,f46,f47];done)|simp
  have w:((k:Int)==i)=false:=by simp;lia
  rw[aq c0]at b;cases c1:(decide (0<R)==decide (0<S))
  ·cases O:(decide (0<cr)==decide (R<S))
   ·simp only[go_sem,ab,dw,ft,fk,fp,ak,ao,reduceCtorEq,E,s,t,r,f6,m,a,f47,D,bn,aw,x1,x2,I,J,K,L,M,N,c,g,j,l,w,c1];refine ir C ?_;simp only[go_sem,ab,reduceCtorEq,f47,O,H];refine b _ n ?_ ?_ ?_ ?_ ?_ ?_
    all_goals first|(simp only[S5,go_sem,ab,reduceCtorEq,F,s,G,b4,t,r,f6,m,z,o,p,q,a,f46,f47];done)|simp[c1,O]
   by_cases c3:R<S
   ·have B:0<cr:=by simpa[c3]using O
    simp only[go_sem,ab,dw,ft,fk,fp,ak,ao,reduceCtorEq,E,s,t,r,f6,m,a,f47,D,bn,aw,x1,x2,I,J,K,L,M,N,c,g,j,l,w,c1];refine ir C ?_;simp only[go_sem,ab,reduceCtorEq,z,f47,c3,B,ff,H,W];refine b _ (n+1) ?_ ?_ ?_ ?_ ?_ ?_
    all_goals first|(simp only[S5,go_sem,ab,reduceCtorEq,F,s,G,b4,t,r,f6,m,z,o,p,q,a,f46,f47];done)|simp[c1,c3,B]
   have B:¬0<cr:=by simpa[c3]using O
   simp only[go_sem,ab,dw,ft,fk,fp,ak,ao,reduceCtorEq,E,s,t,r,f6,m,a,f47,D,bn,aw,x1,x2,I,J,K,L,M,N,c,g,j,l,w,c1];refine ir C ?_;simp only[go_sem,ab,reduceCtorEq,z,f47,c3,B,ff,H,X];refine b _ (n-1) ?_ ?_ ?_ ?_ ?_ ?_
   all_goals first|(simp only[S5,go_sem,ab,reduceCtorEq,F,s,G,b4,t,r,f6,m,z,o,p,q,a,f46,f47];done)|(simp[c1,c3,B];try lia)
  simp only[go_sem,ab,dw,ft,fk,fp,ak,ao,reduceCtorEq,E,s,t,r,f6,m,a,f47,D,bn,aw,x1,x2,I,J,K,L,M,N,c,g,j,l,w,c1,H];refine b _ n ?_ ?_ ?_ ?_ ?_ ?_
  all_goals first|(simp only[S5,go_sem,ab,reduceCtorEq,F,s,G,b4,t,r,f6,m,z,o,p,q,a,f46,f47];done)|simp[c1]
 have C:=Sh A (u:=(2*f.1.2-(e.1.2+e.2.2),2*f.1.1-(e.1.1+e.2.1))) (v:=(2*f.2.2-(e.1.2+e.2.2),2*f.2.1-(e.1.1+e.2.1))) ⟨⟨by simp only;lia,by simp only;lia⟩,by simp only;lia,by simp only;lia⟩ ⟨⟨by simp only;lia,by simp only;lia⟩,by simp only;lia,by simp only;lia⟩
 have V:gD ah (qd e) f=if decide (0<2*f.1.1-(e.1.1+e.2.1))==decide (0<2*f.2.1-(e.1.1+e.2.1))then 0 else if decide (0<cn (2*f.1.2-(e.1.2+e.2.2),2*f.1.1-(e.1.1+e.2.1)) (2*f.2.2-(e.1.2+e.2.2),2*f.2.1-(e.1.1+e.2.1)))==decide (2*f.1.1-(e.1.1+e.2.1)<2*f.2.1-(e.1.1+e.2.1))then(if 2*f.1.1-(e.1.1+e.2.1)<2*f.2.1-(e.1.1+e.2.1)then 1 else-1)else 0:=rfl
 rw[V]at b;generalize cn (2*f.1.2-(e.1.2+e.2.2),2*f.1.1-(e.1.1+e.2.1)) (2*f.2.2-(e.1.2+e.2.2),2*f.2.1-(e.1.1+e.2.1))=cr at C b;simp only[Aa]at C
 generalize c:2*f.1.2-(e.1.2+e.2.2)=p1 at*
 generalize g:2*f.1.1-(e.1.1+e.2.1)=R at*
 generalize j:2*f.2.2-(e.1.2+e.2.2)=p3 at*
 generalize l:2*f.2.1-(e.1.1+e.2.1)=S at*
 simp only[reduceIte]at f6 m;by_cases c0:k=i
 ·subst c0;simp only[go_sem,ab,dw,ft,fk,fp,ak,ao,reduceCtorEq,E,s,t,r,f6,m,a,f47,D,bn,aw,x1,x2,I,J,K,L,M,N,c,g,j,l,ff,H];refine b _ n ?_ ?_ ?_ ?_ ?_ ?_
  all_goals first|(simp only[S5,go_sem,ab,cu,reduceCtorEq,F,s,G,b4,t,r,f6,m,z,o,p,q,a,f46,f47];done)|simp
 have w:((k:Int)==i)=false:=by simp;lia
 rw[aq c0]at b;cases c1:(decide (0<R)==decide (0<S))
 ·cases O:(decide (0<cr)==decide (R<S))
  ·simp only[go_sem,ab,dw,ft,fk,fp,ak,ao,reduceCtorEq,E,s,t,r,f6,m,a,f47,D,bn,aw,x1,x2,I,J,K,L,M,N,c,g,j,l,w,c1];refine ir C ?_;simp only[go_sem,ab,reduceCtorEq,f47,O,H];refine b _ n ?_ ?_ ?_ ?_ ?_ ?_
   all_goals first|(simp only[S5,go_sem,ab,reduceCtorEq,F,s,G,b4,t,r,f6,m,z,o,p,q,a,f46,f47];done)|simp[c1,O]
  by_cases c3:R<S
  ·have B:0<cr:=by simpa[c3]using O
   simp only[go_sem,ab,dw,ft,fk,fp,ak,ao,reduceCtorEq,E,s,t,r,f6,m,a,f47,D,bn,aw,x1,x2,I,J,K,L,M,N,c,g,j,l,w,c1];refine ir C ?_;simp only[go_sem,ab,reduceCtorEq,z,f47,c3,B,ff,H,W];refine b _ (n+1) ?_ ?_ ?_ ?_ ?_ ?_
   all_goals first|(simp only[S5,go_sem,ab,reduceCtorEq,F,s,G,b4,t,r,f6,m,z,o,p,q,a,f46,f47];done)|simp[c1,c3,B]
  have B:¬0<cr:=by simpa[c3]using O
  simp only[go_sem,ab,dw,ft,fk,fp,ak,ao,reduceCtorEq,E,s,t,r,f6,m,a,f47,D,bn,aw,x1,x2,I,J,K,L,M,N,c,g,j,l,w,c1];refine ir C ?_;simp only[go_sem,ab,reduceCtorEq,z,f47,c3,B,ff,H,X];refine b _ (n-1) ?_ ?_ ?_ ?_ ?_ ?_
  all_goals first|(simp only[S5,go_sem,ab,reduceCtorEq,F,s,G,b4,t,r,f6,m,z,o,p,q,a,f46,f47];done)|(simp[c1,c3,B];try lia)
 simp only[go_sem,ab,dw,ft,fk,fp,ak,ao,reduceCtorEq,E,s,t,r,f6,m,a,f47,D,bn,aw,x1,x2,I,J,K,L,M,N,c,g,j,l,w,c1,H];refine b _ n ?_ ?_ ?_ ?_ ?_ ?_
 all_goals first|(simp only[S5,go_sem,ab,reduceCtorEq,F,s,G,b4,t,r,f6,m,z,o,p,q,a,f46,f47];done)|simp[c1]
end
theorem CB(f:Nat->Int)(k:Nat):pb f (k+1)=pb f k+f k:=rfl
section
variable{P:Program}(A:Pr P)
theorem PR(es:List Ed)(h1:es.length<=1000)(U:∀e∈es,SmL e.1/\SmL e.2):iv P A.Cg [T3 es] (.bool (Qr es)):=by
 refine ez A.mo A.dJ (by simp) ?_;show l7 P (M7 A.jy) (ly _ _) _;unfold Qr;simp only[M7,T3,go_sem,ab,reduceCtorEq,al];refine gf es.length (λi s'=>s'.base=0/\s'.tmp 0= .d (.gd 4 (es.map Ep))/\s'.tmp 16= .d (.gd 4 (es.map Ep))/\s'.tmp 17= .d (.int aj es.length)/\s'.tmp 18= .d (.int aj i)/\∀K,K<i->(Zt es K==1)=ah) ?_ ?_
 ·simp only[go_sem,ab,reduceCtorEq];intro K F7;lia
 rintro i s' hi ⟨r,I,v,s,u,J⟩;by_cases ju:(i:Int)<es.length
 ·have C:i<es.length:=by lia
  have wi:=dr ((i:Int)+1) (by lia) (by lia);have hg:=Et C
  have Z:es.getD i e0=es[i]:=by simp[cz,C]
  obtain⟨⟨q1,q2⟩,q3,q4⟩:=U _ (dj C);rw[<-Z]at q1 q2 q3 q4;have no:(Zt es i==1)=ag->((fc es.length).all λi=>Zt es i==1)=false:=λh=>all_false C h;have T:∀k:Nat,-(k:Int)<=pb (wAt es i) k/\pb (wAt es i) k<=k:=sM (a5v es i)
  have j:Zt es i=(if swE (es.getD i e0)then-(pb (wAt es i) es.length)else pb (wAt es i) es.length)+
   (if decide ((vw (swE (es.getD i e0)) (es.getD i e0).1).2<(vw (swE (es.getD i e0)) (es.getD i e0).2).2)== !swE (es.getD i e0)then 1 else 0):=rfl
  have a0:∀k,wAt es i k=if k=i then 0 else gD (swE (es.getD i e0)) (qd (es.getD i e0)) (es.getD k e0):=λ_=>rfl
  have O:∀k,k<es.length->GN (es.getD k e0):=λk hk=>by
   have e:es.getD k e0=es[k]:=by simp[cz,hk]
   rw[e];obtain⟨⟨a,b⟩,c,d⟩:=U _ (dj hk);exact⟨a,b,c,d⟩
  have R:=O i C
  generalize es.getD i e0=e at*
  obtain⟨⟨a1,a2⟩,⟨a3,a4⟩,⟨a5,a6⟩,a7,a8⟩:=id R;have w1:=dr (e.1.1+e.2.1) (by lia) (by lia);have w2:=dr (e.1.2+e.2.2) (by lia) (by lia);have S:swE e=(e.1.2==e.2.2):=rfl
  have g:∀(s':PS) (Q:Exit->PS->Prop),S5 es i e (swE e) s'->s'.tmp 45= .d (.gd 4 (es.map Ep))->s'.tmp 46= .d (.int aj es.length)->s'.tmp 47= .d (.int aj 0)->s'.tmp 8= .d (.int aj 0)->
    (∀q,S5 es i e (swE e) q->q.tmp 8= .d (.int aj (pb (wAt es i) es.length))->Q (.exit 2) q)->
    l7 P (.loop (
      (.seq (
      .region [⟨aa 48,.bin .lss (.t 47) (.t 46),ae,[]⟩] ag []) (
      (.seq (
       (.cond (.t 48) (
       .skip) (
       .exit 2))) (
       GH A.jy
      )))))) Q s':=by
   intro s' Q hB W X Y B hQ;refine gf es.length (λk q=>S5 es i e (swE e) q/\q.tmp 45= .d (.gd 4 (es.map Ep))/\q.tmp 46= .d (.int aj es.length)/\q.tmp 47= .d (.int aj k)/\q.tmp 8= .d (.int aj (pb (wAt es i) k))) ⟨hB,W,X,by simpa using Y,by simpa[pb]using B⟩ ?_;rintro k s2 hk ⟨M,a9,G,H,k8⟩
   have N:∀(q:PS) (x:V),S5 es i e (swE e) q->S5 es i e (swE e) {q with tmp:=lu q.tmp 48 x}:=by
    rintro q x ⟨r,I,f3,f4,b4,f5,b5,f6,f7,v,s,u⟩;simp only[S5,go_sem,ab,reduceCtorEq,r,I,f3,f4,b4,f5,b5,f6,f7,v,s,u]
   by_cases Fp:(k:Int)<es.length
   ·have qn:k<es.length:=by lia
    rw[jB,V4,yL];simp only[go_sem,reduceCtorEq,G,H,Fp];refine XO A qn rfl (by lia) (by lia) R (O k qn) (n:=pb (wAt es i) k) (by have:=T k;lia) (N s2 _ M) ?_ ?_ ?_ ?_ ?_
    ·simp only[go_sem,ab,a9]
    ·simp only[go_sem,ab,G]
    ·simp only[go_sem,ab,H]
    ·simp only[go_sem,ab,k8]
    intro q m1 m2 m3 m4 m5;rw[lS];refine⟨qn,m1,m2,m3,m4,?_⟩;rw[m5,CB,a0]
   have:k=es.length:=by lia
   subst this;rw[jB,V4,yL];simp only[go_sem,reduceCtorEq,G,H,Fp];exact hQ _ (N s2 _ M) (by simp only[go_sem,ab,k8])
  have gH:=T es.length
  generalize pb (wAt es i) es.length=n at*
  have b0:∀b:Bool,(Zt es i==1)=b->b=ah->∀K,K<i+1->(Zt es K==1)=true:=λb h1 U=>rz J (by rw[h1,U]);cases c0:swE e
  ·have w:=c0;rw[S]at w;rw[c0]at j g;simp only[gp,bp,Mz,vw]at j;simp only[go_sem,ab,dw,ft,fk,fp,ak,ao,reduceCtorEq,r,I,v,s,u,ju,hg,bn,aw,al,w1,w2,w];refine g _ _ ?_ ?_ ?_ ?_ ?_ ?_
   ·simp only[S5,go_sem,ab,reduceCtorEq,I,v,s,u]
   ·simp only[go_sem,ab]
   ·simp only[go_sem,ab]
   ·simp only[go_sem,ab]
   ·simp only[go_sem,ab]
   rintro q ⟨r,D,g3,E,F,g5,h5,y,z,m,o,p⟩ B;simp only[reduceIte,gp]at y z;by_cases c1:e.1.2<e.2.2
   ·have wn:=dr (n+1) (by lia) (by lia);rw[decide_eq_true c1]at j;simp only[ff,da]at j;cases l:(n+1==1)
    ·have f:(n+1 !=1)=true:=by unfold bne;rw[l];rfl
     simp only[go_sem,ab,dw,ft,fk,fp,ak,ao,reduceCtorEq,r,D,E,F,y,z,B,m,o,p,ff,c1,wn,f,show((0:Int)==1)=ag from rfl];rw[no (by rw[j];exact l)]
    have f:(n+1 !=1)=false:=by unfold bne;rw[l];rfl
    simp only[go_sem,ab,dw,ft,fk,fp,ak,ao,reduceCtorEq,r,D,E,F,y,z,B,m,o,p,ff,c1,wn,f,wi,C,show((0:Int)==1)=ag from rfl];exact⟨by simp,rz J (by rw[j];exact l)⟩
   rw[decide_eq_false c1]at j;simp only[show(ag==ah)=ag from rfl,gp,bp,JI]at j;cases l:(n==1)
   ·have f:(n !=1)=true:=by unfold bne;rw[l];rfl
    simp only[go_sem,ab,dw,ft,fk,fp,ak,ao,reduceCtorEq,r,D,E,F,y,z,B,m,o,p,ff,c1,f,show((0:Int)==1)=ag from rfl,show(ag==ah)=ag from rfl];rw[no (by rw[j];exact l)]
   have f:(n !=1)=false:=by unfold bne;rw[l];rfl
   simp only[go_sem,ab,dw,ft,fk,fp,ak,ao,reduceCtorEq,r,D,E,F,y,z,B,m,o,p,ff,c1,f,wi,C,show((0:Int)==1)=ag from rfl,show(ag==ah)=ag from rfl];exact⟨by simp,rz J (by rw[j];exact l)⟩
  have w:=c0;rw[S]at w;rw[c0]at j g;simp only[da,a8s,vw]at j;have wm:=dr (0-n) (by lia) (by lia)
  have L:(0:Int)-n= -n:=by lia
  rw[L]at wm;simp only[go_sem,ab,dw,ft,fk,fp,ak,ao,reduceCtorEq,r,I,v,s,u,ju,hg,bn,aw,al,w1,w2,w];refine g _ _ ?_ ?_ ?_ ?_ ?_ ?_
  ·simp only[S5,go_sem,ab,reduceCtorEq,I,v,s,u]
  ·simp only[go_sem,ab]
  ·simp only[go_sem,ab]
  ·simp only[go_sem,ab]
  ·simp only[go_sem,ab]
  rintro q ⟨r,D,g3,E,F,g5,h5,y,z,m,o,p⟩ B;simp only[reduceIte]at y z;by_cases c1:e.1.1<e.2.1
  ·rw[decide_eq_true c1]at j;simp only[show(ah==ag)=ag from rfl,gp,bp,JI]at j;cases l:(-n==1)
   ·have f:(-n !=1)=true:=by unfold bne;rw[l];rfl
    simp only[go_sem,ab,dw,ft,fk,fp,ak,ao,reduceCtorEq,r,D,E,F,y,z,B,m,o,p,ff,c1,f,L,wm,show((1:Int)==0)=ag from rfl,show(ah==ag)=ag from rfl];rw[no (by rw[j];exact l)]
   have f:(-n !=1)=false:=by unfold bne;rw[l];rfl
   simp only[go_sem,ab,dw,ft,fk,fp,ak,ao,reduceCtorEq,r,D,E,F,y,z,B,m,o,p,ff,c1,f,L,wm,wi,C,show((1:Int)==0)=ag from rfl,show(ah==ag)=ag from rfl];exact⟨by simp,rz J (by rw[j];exact l)⟩
  have wn:=dr (-n+1) (by lia) (by lia);rw[decide_eq_false c1]at j;simp only[ff,da]at j;cases l:(-n+1==1)
  ·have f:(-n+1 !=1)=true:=by unfold bne;rw[l];rfl
   simp only[go_sem,ab,dw,ft,fk,fp,ak,ao,reduceCtorEq,r,D,E,F,y,z,B,m,o,p,ff,c1,L,wm,wn,f,show((1:Int)==0)=ag from rfl];rw[no (by rw[j];exact l)]
  have f:(-n+1 !=1)=false:=by unfold bne;rw[l];rfl
  simp only[go_sem,ab,dw,ft,fk,fp,ak,ao,reduceCtorEq,r,D,E,F,y,z,B,m,o,p,ff,c1,L,wm,wn,f,wi,C,show((1:Int)==0)=ag from rfl];exact⟨by simp,rz J (by rw[j];exact l)⟩
 have:i=es.length:=by lia
 subst this;simp only[go_sem,ab,reduceCtorEq,r,s,u,ju];rw[all_true J]
end
abbrev Adj:=List (Sp×List Sp)
def vb(k v:Sp):Adj->Adj
 |[]=>[(k,[v])]
 |(a,l)::r=>if w9 k a then(k,l++[v])::r else(a,l)::vb k v r
def D8(k:Sp):Adj->Option (List Sp)
 |[]=>ae
 |(a,l)::r=>if w9 k a then aa l else D8 k r
def Mx(k:Sp):Nat->Adj->Option (Nat×List Sp)
 |_,[]=>ae
 |i,(a,l)::r=>if w9 k a then aa (i,l)else Mx k (i+1) r
def xa(es:List Ed):Adj:=es.foldl (λL e=>vb e.1 e.2 L) []
def D5(es:List Ed):Adj:=es.foldl (λL e=>vb e.2 e.1 L) []
def Tz(L:Adj):D:= .map (L.map λp=>(Aa p.1,uu p.2))
def ents(b:Nat)(ba:Nat->Nat):Nat->Adj->List (D×C)
 |_,[]=>[]
 |i,(k,l)::r=>(Aa k,.ref (b+2*i) (ba (b+2*i)) l.length)::ents b ba (i+1) r
theorem OX(k a:Sp):G3 (.row [.int,.int]) (Aa k) (Aa a)=aa (w9 k a):=by
 simp[G3,Aa,C3,Ps,w9]
theorem kI{α:Type}(k a:Sp)(c:α)(r:List (D×α)):Iv (.row [.int,.int]) (Aa k) ((Aa a,c)::r)=if w9 k a then aa (aa c)else Iv (.row [.int,.int]) (Aa k) r:=by
 show(match G3 (.row [.int,.int]) (Aa k) (Aa a)with|some ah=>_|some ag=>_|none=>_)=_
 rw[OX];cases w9 k a<;>rfl
theorem cA{α:Type}(k a:Sp)(v c:α)(r:List (D×α)):O9 (.row [.int,.int]) (Aa k) v ((Aa a,c)::r)=if w9 k a then aa ((Aa k,v)::r)else(O9 (.row [.int,.int]) (Aa k) v r).map ((Aa a,c):: ·):=by
 show(match G3 (.row [.int,.int]) (Aa k) (Aa a)with|some ah=>_|some ag=>_|none=>_)=_
 rw[OX];cases w9 k a<;>rfl
theorem MD(b:Nat)(ba:Nat->Nat)(k:Sp):∀(L:Adj) (i:Nat),Iv (.row [.int,.int]) (Aa k) (ents b ba i L)=aa ((Mx k i L).map λp=> .ref (b+2*p.1) (ba (b+2*p.1)) p.2.length):=by
 intro L
 induction L with
 |nil=>intro i;rfl
 |cons x r c=>
  intro i;obtain⟨a,l⟩:=x;simp only[ents,Mx,kI];split
  ·rfl
  exact c _
theorem NB(k v:Sp):∀(L:Adj) (i:Nat),Mx k i L=ae->vb k v L=L++[(k,[v])]:=by
 intro L
 induction L with
 |nil=>intro i _;rfl
 |cons x r c=>
  intro i h;obtain⟨a,l⟩:=x;simp only[Mx]at h;split at h
  ·cases h
  rename_i b;simp only[vb,aq b,c _ h,qc]
theorem XR(b:Nat)(ba:Nat->Nat)(k:Sp)(c:C):∀(L:Adj) (i:Nat),Mx k i L=ae->O9 (.row [.int,.int]) (Aa k) c (ents b ba i L)=aa (ents b ba i L++[(Aa k,c)]):=by
 intro L
 induction L with
 |nil=>intro i _;rfl
 |cons x r e=>
  intro i h;obtain⟨a,l⟩:=x;simp only[Mx]at h;split at h
  ·cases h
  rename_i d;simp only[ents,cA,aq d,e _ h,jc,qc]
theorem XQ(b:Nat)(ba:Nat->Nat)(k v:Sp):∀(L:Adj) (i:Nat) (j:Nat) (l:List Sp),Mx k i L=aa (j,l)->
  O9 (.row [.int,.int]) (Aa k) (C.ref (b+2*j) (ba (b+2*j)) (l.length+1)) (ents b ba i L)=aa (ents b ba i (vb k v L))/\
  i<=j/\(∃a,L[j-i]? =aa (a,l)/\(vb k v L)[j-i]? =aa (k,l++[v]))/\(∀q,q≠j-i->(vb k v L)[q]? =L[q]?)/\(vb k v L).length=L.length:=by
 intro L
 induction L with
 |nil=>intro i j l h;cases h
 |cons x r m=>
  intro i j l h;obtain⟨a,w⟩:=x;simp only[Mx]at h;split at h
  ·rename_i hy
   injection h with h
   injection h with d f
   subst d f;simp only[ents,cA,vb,bc hy,dz,cq,ew,Wu,iw];refine⟨trivial,bm _,⟨a,rfl,trivial⟩,λq c=>?_,trivial⟩
   cases q with
   |zero=>exact absurd rfl c
   |succ q=>rfl
  rename_i g;obtain⟨n,u,⟨a',o,p⟩,s,t⟩:=m (i+1) j l h
  have e:j-i=(j-(i+1))+1:=by lia
  simp only[ents,cA,vb,aq g,n,jc,cq,t];rw[e];refine⟨trivial,by lia,⟨a',by simpa using o,by simpa using p⟩,λq c=>?_,trivial⟩
  cases q with
  |zero=>rfl
  |succ q=>simpa using s q (by lia)
theorem TL(b:Nat)(ba:Nat->Nat)(k:Sp)(l:List Sp):∀(L:Adj) (i:Nat),ents b ba i (L++[(k,l)])=ents b ba i L++[(Aa k,.ref (b+2*(i+L.length)) (ba (b+2*(i+L.length))) l.length)]:=by
 intro L
 induction L with
 |nil=>intro i;rfl
 |cons x r c=>
  intro i;obtain⟨a,d⟩:=x
  have e:i+1+r.length=i+(r.length+1):=by lia
  simp only[qc,ents,c,cq,e]
theorem mC(b:Nat)(ba c:Nat->Nat):∀(L:Adj) (i:Nat),(∀j,i<=j->j<i+L.length->c (b+2*j)=ba (b+2*j))->ents b c i L=ents b ba i L:=by
 intro L
 induction L with
 |nil=>intro i _;rfl
 |cons x r d=>
  intro i h;obtain⟨a,g⟩:=x;simp only[ents];rw[h i (bm _) (by simp),d (i+1) λj e f=>h j (by lia) (by simp only[cq];lia)]
theorem AO(b:Nat)(ba:Nat->Nat):∀(L:Adj) (i:Nat),(ents b ba i L).length=L.length:=by
 intro L
 induction L with
 |nil=>intro i;rfl
 |cons x r c=>intro i;obtain⟨a,d⟩:=x;simp only[ents,cq,c]
structure W5(s:PS)(m b:Nat)(L:Adj):Prop where
 mp:s.mp m=aa (ents b s.ba 0 L)
 di:∀(j:Nat) (p:Sp×List Sp),L[j]? =aa p->s.di (b+2*j)=aa (.arr 2 (p.2.map Ci))
 free:∀j,L.length<=j->s.di (b+2*j)=ae/\s.mp (b+2*j)=ae
theorem W5.frame{s s':PS}{m b:Nat}{L:Adj}(h:W5 s m b L)(c:s'.mp m=s.mp m)(a:∀j,s'.di (b+2*j)=s.di (b+2*j))(d:∀j,s'.ba (b+2*j)=s.ba (b+2*j))(e:∀j,s'.mp (b+2*j)=s.mp (b+2*j)):W5 s' m b L where
 mp:=by rw[c,h.mp,mC b s.ba s'.ba L 0 λj _ _=>d j]
 di j p hp:=by rw[a];exact h.di j p hp
 free j hj:=by rw[a,e];exact h.free j hj
theorem VE{s:PS}{m b:Nat}{L:Adj}(h:W5 s m b L)(R:m<b)(E:L.length<2^30)(N:∀p∈L,p.2.length<2^30){x I y:V}{k v:Sp}(hx:x= .o8 m (s.ba m))(F:I= .d (Aa k))(hy:pj s y=aa ([Ci v],aa 2))(ts:List Nat):
  ∃id s',II s id (.row [.int,.int]) 2 16 x I y ts s'/\W5 s' m b (vb k v L)/\s'.tmp=(λt=>if t∈ts then .no else s.tmp t)/\(∀i,(∀j,i≠b+2*j)->s'.di i=s.di i/\s'.ba i=s.ba i)/\(∀i,i≠m->s'.mp i=s.mp i)/\s'.base=s.base:=by
 have o:s.ents m (s.ba m)=aa (ents b s.ba 0 L):=by unfold PS.ents;rw[bc rfl,h.mp]
 have f:=MD b s.ba k L 0;have n:(([Ci v]:List (List D)).all λe=>e.all D.one)=true:=rfl
 cases r:Mx k 0 L with
 |none=>
  rw[r]at f;have J:=XR b s.ba k (.ref (b+2*L.length) (s.ba (b+2*L.length)+1) 1) L 0 r;obtain⟨A,B⟩:=h.free L.length (bm _);refine⟨b+2*L.length,_,⟨A,B,m,s.ba m,Aa k,_,[Ci v],aa 2,hx,F,o,hy,rfl,by simp,n,by rw[AO];exact E,.inl ⟨f,by simp,_,J,rfl⟩⟩,?_,rfl,λi g=>?_,λi g=>?_,rfl⟩
  ·rw[NB k v L 0 r]
   have S:∀j,m≠b+2*j:=λj=>by lia
   refine⟨?_,λj p c=>?_,λj w=>?_⟩
   ·simp only[PS.dR,de,TL,gj];rw[mC b s.ba _ L 0 λj _ w=>ie _ _ _ _ (by lia)];rfl
   ·simp only[PS.dR];by_cases w:j=L.length
    ·subst w;rw[de];rw[l9 (bm _),Wu]at c;simp only[iw,av]at c;subst c;rfl
    rw[ie _ _ _ _ (by lia)]
    have O:j<L.length:=by
     have:=(bd.1 c).1;simp only[dz,cq,ew]at this;lia
    rw[kq O]at c;exact h.di j p c
   simp only[dz,cq,ew]at w;simp only[PS.dR];rw[ie _ _ _ _ (by lia),ie _ _ _ _ (by lia)];exact h.free j (by lia)
  ·simp only[PS.dR];rw[ie _ _ _ _ (g _),ie _ _ _ _ (g _)];exact⟨rfl,rfl⟩
  simp only[PS.dR];rw[ie _ _ _ _ g]
 |some q=>
  obtain⟨j,l⟩:=q;rw[r]at f;obtain⟨P,_,⟨a,z,G⟩,H,Q⟩:=XQ b s.ba k v L 0 j l r;rw[Wt]at z G H;have hb:=h.di j _ z
  have K:s.dv (b+2*j) (s.ba (b+2*j))=aa (2,l.map Ci):=by unfold PS.dv;rw[bc rfl,hb]
  have C:=N _ (pw z);have M:j<L.length:=(bd.1 z).1;obtain⟨A,B⟩:=h.free L.length (bm _);refine⟨b+2*L.length,_,⟨A,B,m,s.ba m,Aa k,_,[Ci v],aa 2,hx,F,o,hy,rfl,by simp,n,by rw[AO];exact E,.inr ⟨_,_,_,_,f,K,by simp,by simp only[cq,ew];simp only at C;lia,_,P,rfl⟩⟩,?_,rfl,λi g=>?_,λi g=>?_,rfl⟩
  ·refine⟨?_,λq p c=>?_,λq u=>?_⟩
   ·simp only[PS.dR,de]
   ·simp only[PS.dR];by_cases u:q=j
    ·subst u;rw[de];rw[G]at c
     injection c with c
     subst c;simp
    rw[ie _ _ _ _ (by lia)];rw[H q u]at c;exact h.di q p c
   rw[Q]at u;simp only[PS.dR];rw[ie _ _ _ _ (by lia),ie _ _ _ _ (by lia)];exact h.free q u
  ·simp only[PS.dR];rw[ie _ _ _ _ (g _)];exact⟨rfl,trivial⟩
  simp only[PS.dR];rw[ie _ _ _ _ g]
theorem GL(k v:Sp):∀L:Adj,(vb k v L).length<=L.length+1:=by
 intro L
 induction L with
 |nil=>simp[vb]
 |cons x r b=>
  obtain⟨a,l⟩:=x;simp only[vb];split
  ·simp
  simp only[cq];lia
theorem BO(k v:Sp)(n:Nat):∀L:Adj,(∀p∈L,p.2.length<=n)->∀p∈vb k v L,p.2.length<=n+1:=by
 intro L
 induction L with
 |nil=>intro _ p b;simp[vb]at b;subst b;simp
 |cons x r c=>
  obtain⟨a,l⟩:=x;intro h p b;simp only[vb]at b;split at b
  ·rcases fa.1 b with rfl|b
   ·have:=h (a,l) (by simp);simp only[dz,cq,ew];simp only at this;lia
   have:=h p (by simp[b]);lia
  rcases fa.1 b with rfl|b
  ·have:=h (a,l) (by simp);simp only at this|-;lia
  exact c (λp b=>h p (by simp[b])) p b
theorem AI(f:Ed->Sp×Sp)(es:List Ed):(es.foldl (λL e=>vb (f e).1 (f e).2 L) []).length<=es.length/\∀p∈es.foldl (λL e=>vb (f e).1 (f e).2 L) [],p.2.length<=es.length:=by
 have:∀r:List Ed,((r.reverse).foldl (λL e=>vb (f e).1 (f e).2 L) []).length<=r.length/\∀p∈(r.reverse).foldl (λL e=>vb (f e).1 (f e).2 L) [],p.2.length<=r.length:=by
  intro r
  induction r with
  |nil=>simp
  |cons e r a=>
   rw[oq,qu];simp only[yb,a5l,cq];exact⟨jg (GL _ _ _) (by have:=a.1;lia),BO _ _ _ _ a.2⟩
 have h:=this es.reverse
 rwa[ue,fX]at h
theorem Wg(es:List Ed):(xa es).length<=es.length/\∀p∈xa es,p.2.length<=es.length:=AI (λe=>(e.1,e.2)) es
theorem SH(es:List Ed):(D5 es).length<=es.length/\∀p∈D5 es,p.2.length<=es.length:=AI (λe=>(e.2,e.1)) es
theorem DF{es:List Ed}{k:Nat}(h:k<es.length):xa (es.take (k+1))=vb (es.getD k e0).1 (es.getD k e0).2 (xa (es.take k)):=by
 unfold xa;rw[j3,qu];simp[h,cz]
theorem ML{es:List Ed}{k:Nat}(h:k<es.length):D5 (es.take (k+1))=vb (es.getD k e0).2 (es.getD k e0).1 (D5 (es.take k)):=by
 unfold D5;rw[j3,qu];simp[h,cz]
section
variable{P:Program}{K:PS->Prop}{s:PS}{r:List RI}
theorem rG{m b:Nat}{L:Adj}(h:W5 s m b L)(z:m<b)(q:L.length<2^30)(w:∀p∈L,p.2.length<2^30){x a y:V}{k v:Sp}(hx:x= .o8 m (s.ba m))(u:a= .d (Aa k))(hy:pj s y=aa ([Ci v],aa 2))(ts:List Nat)
  (o:∀s',W5 s' m b (vb k v L)->s'.tmp=(λt=>if t∈ts then .no else s.tmp t)->(∀i,(∀j,i≠b+2*j)->s'.di i=s.di i/\s'.ba i=s.ba i)->(∀i,i≠m->s'.mp i=s.mp i)->s'.base=s.base->mc P r s' K):
  a1d P (.row [.int,.int]) 2 16 x a y ts ae s (Bo P r K):=by
 obtain⟨id,s',c,e,f,g,l,n⟩:=VE h z q w hx u hy ts;exact⟨id,s',c,o s' e f g l n⟩
end
def a09(es:List Ed):D:= .agg [Tz (xa es),Tz (D5 es)]
def Nn(b n:Nat):List Nat:=(fc n).map λj=>b+2*j
theorem Yc{b n i:Nat}:i∈Nn b n<->∃j,j<n/\i=b+2*j:=by
 unfold Nn;rw[j6];constructor
 ·rintro⟨j,a,rfl⟩;exact⟨j,er.1 a,rfl⟩
 rintro⟨j,a,rfl⟩;exact⟨j,er.2 a,rfl⟩
def fE(p:Sp×List Sp):D×C:=(Aa p.1,.d (uu p.2))
theorem AD{s:PS}{b:Nat}{L:Adj}{ids:List Nat}(hb:∀(j:Nat) (p:Sp×List Sp),L[j]? =aa p->s.di (b+2*j)=aa (.arr 2 (p.2.map Ci)))(m:∀j,j<L.length->b+2*j∈ids):
  (ents b s.ba 0 L).map (λe=>(e.1,C.x7 s ids e.2))=L.map fE:=by
 have:∀(c:Adj) (i:Nat),(∀j p,c[j]? =aa p->L[i+j]? =aa p)->(ents b s.ba i c).map (λe=>(e.1,C.x7 s ids e.2))=c.map fE:=by
  intro c
  induction c with
  |nil=>intro i _;rfl
  |cons x r n=>
   intro i h;obtain⟨a,l⟩:=x;have d:=h 0 (a,l) rfl;rw[Ad]at d;have o:=(bd.1 d).1;have f:=hb i _ d
   have k:s.dv (b+2*i) (s.ba (b+2*i))=aa (2,l.map Ci):=by unfold PS.dv;rw[bc rfl,f]
   simp only[ents,du,n (i+1) λj p g=>by have:=h (j+1) p (by simpa using g);rw[<-this];congr 1;lia]
   congr 1
   simp only[C.x7,bc (m i o),k,al,da,fE,uu]
 exact this L 0 λj p g=>by rw[gj];exact g
theorem a0a(L:Adj):aR (L.map fE)=aa (L.map λp=>(Aa p.1,uu p.2)):=by
 induction L with
 |nil=>rfl
 |cons x r a=>simp only[du,fE,aR,a]
section
variable{P:Program}(A:Pr3 P)
theorem HB(es:List Ed)(Y:es.length<=2^20):iv P A.ve [T3 es] (a09 es):=by
 refine ez A.mo A.gU (by simp) ?_;show l7 P Ny (ly _ _) _;simp only[Ny,T3,go_sem,ab,ak,ao,reduceCtorEq,PS.ents,cy]
 refine wv (λs'=>s'.base=0/\s'.tmp 2= .gz 2 (s'.ba 2) 0/\s'.di 2=aa (.loc [.d .P0,.d .P0])/\s'.tmp 3= .gz 3 (s'.ba 3) 0/\s'.di 3=aa (.loc [.o8 6 (s'.ba 6),.o8 7 (s'.ba 7)])/\
  W5 s' 6 1000 (xa es)/\W5 s' 7 1001 (D5 es)) ?_ ?_
 ·refine gf es.length (λk s'=>s'.base=0/\s'.tmp 2= .gz 2 (s'.ba 2) 0/\s'.di 2=aa (.loc [.d .P0,.d .P0])/\s'.tmp 3= .gz 3 (s'.ba 3) 0/\s'.di 3=aa (.loc [.o8 6 (s'.ba 6),.o8 7 (s'.ba 7)])/\
   W5 s' 6 1000 (xa (es.take k))/\W5 s' 7 1001 (D5 (es.take k))/\s'.tmp 9= .d (.gd 4 (es.map Ep))/\s'.tmp 10= .d (.int aj es.length)/\s'.tmp 11= .d (.int aj k)) ?_ ?_
  ·simp only[go_sem,ab,al];refine⟨⟨rfl,?_,?_⟩,⟨rfl,?_,?_⟩⟩
   ·intro j p l;simp[xa]at l
   ·intro j _;simp only[ar];exact⟨by rw[aq (by lia),aq (by lia),aq (by lia)],by rw[aq (by lia),aq (by lia)]⟩
   ·intro j p l;simp[D5]at l
   intro j _;simp only[ar];exact⟨by rw[aq (by lia),aq (by lia),aq (by lia)],by rw[aq (by lia),aq (by lia)]⟩
  rintro k s' hk ⟨y,B,b2,t,b3,u,g,O,c,e⟩;by_cases R:(k:Int)<es.length
  ·have z:k<es.length:=by lia
   have wk:=dr ((k:Int)+1) (by lia) (by lia);have lo:=Wg (es.take k);have Z:=SH (es.take k)
   have a0:(es.take k).length<=2^20:=by simp;lia
   simp only[go_sem,ab,dw,ft,fk,fp,ak,ao,reduceCtorEq,cw,y,t,b3,O,c,e,R,Et z,bn,aw]
   refine rG (m:=6) (b:=1000) (k:=(es.getD k e0).1) (v:=(es.getD k e0).2) (L:=xa (es.take k)) ?_ (by lia) (by lia) (λp l=>by have:=lo.2 p l;lia) ?_ rfl ?_ _ ?_
   ·refine u.frame ?_ (λj=>?_) (λj=>?_) (λj=>?_)
    ·rfl
    ·simp only[ar];rw[aq (by lia),aq (by lia),aq (by lia)]
    ·simp only[ar];rw[aq (by lia),aq (by lia)]
    rfl
   ·simp only[ar,ab,reduceIte]
   ·simp only[pj,PS.dv,ar,ab,reduceIte,cq,ew,Ci]
   intro s2 F W f Q X;have x:=f 3 (λj=>by lia);have I:=f 2 (λj=>by lia);have J:=f 5 (λj=>by lia);have S:=f 6 (λj=>by lia);have K:=f 7 (λj=>by lia);have m7:=Q 7 (by lia);simp only[ar,ab,reduceIte]at x I J S K;simp only[go_sem,ab,dw,ft,fk,fp,ak,ao,cw,W,X,x.1,x.2,J.1,J.2,fa,kz,or_false,t,b3]
   refine rG (m:=7) (b:=1001) (k:=(es.getD k e0).2) (v:=(es.getD k e0).1) (L:=D5 (es.take k)) ?_ (by lia) (by lia) (λp l=>by have:=Z.2 p l;lia) ?_ rfl ?_ _ ?_
   ·refine g.frame ?_ (λj=>?_) (λj=>?_) (λj=>?_)
    ·exact m7
    ·have:=(f (1001+2*j) (λG=>by lia)).1;simp only[ar]at this|-;rw[aq (by lia),this,aq (by lia),aq (by lia),aq (by lia)]
    ·have:=(f (1001+2*j) (λG=>by lia)).2;simp only[ar]at this|-;rw[aq (by lia),this,aq (by lia),aq (by lia)]
    exact Q _ (by lia)
   ·simp only[ar,ab,reduceIte,K.2]
   ·simp only[pj,PS.dv,ar,reduceIte,cq,ew,Ci]
   intro s3 D q1 q2 q3 q4;have N:=q2 3 (λj=>by lia);have M:=q2 2 (λj=>by lia);have T:=q2 6 (λj=>by lia);have U:=q2 7 (λj=>by lia);simp only[ar,ab,reduceIte]at N M T U;simp only[go_sem,ab,reduceCtorEq,q1,q4,M.1,M.2,N.1,N.2,T.2,U.2,I.1,I.2,x.1,x.2,S.2,K.2,fa,kz,or_false,B,b2,t,b3,O,c,e,wk,z,DF z,ML z];refine⟨F.frame ?_ (λj=>?_) (λj=>?_) (λj=>?_),D.frame rfl (λj=>rfl) (λj=>rfl) (λj=>rfl),by simp⟩
   ·exact q3 6 (by lia)
   ·have:=(q2 (1000+2*j) (λG=>by lia)).1;simp only[ar]at this|-;rw[this,aq (by lia)]
   ·have:=(q2 (1000+2*j) (λG=>by lia)).2;simp only[ar]at this|-;rw[this,aq (by lia)]
   exact q3 _ (by lia)
  have:k=es.length:=by lia
  subst this;rw[fm]at u g;simp only[go_sem,ab,reduceCtorEq,y,B,b2,t,b3,c,e,R];exact⟨u.frame rfl (λj=>rfl) (λj=>rfl) (λj=>rfl),g.frame rfl (λj=>rfl) (λj=>rfl) (λj=>rfl)⟩
 rintro s' ⟨y,B,b2,t,b3,u,g⟩;simp only[go_sem]
 have a:(999::(Nn 1000 (xa es).length++Nn 1001 (D5 es).length))≠[]:=by simp
 refine K5 (999::(Nn 1000 (xa es).length++Nn 1001 (D5 es).length)) ?_
 have r:∀i,i<999->i∉(999::(Nn 1000 (xa es).length++Nn 1001 (D5 es).length)):=by
  intro i g h;simp only[fa,jz,Yc]at h;lia
 have n2:=Dl (s:=s') a 2;have H:=Dl (s:=s') a 3;have w:=L9 (s:=s') a (r 2 (by lia));have n:=L9 (s:=s') a (r 3 (by lia));have o:=vD (s:=s') a (r 6 (by lia));have q:=vD (s:=s') a (r 7 (by lia));have nv:=aK (s:=s') a;have nb:=T0 (999::(Nn 1000 (xa es).length++Nn 1001 (D5 es).length)) s';simp only[rH,u.mp,g.mp,jc]at o q;rw[AD u.di λj E=>by simp only[fa,jz,Yc];exact .inr (.inl ⟨j,E,rfl⟩)]at o;rw[AD g.di λj E=>by simp only[fa,jz,Yc];exact .inr (.inr ⟨j,E,rfl⟩)]at q;simp only[B,t,V.x7]at n2 H;simp only[Hm,b2,b3,du,ic,C.x7,aq (r 6 (by lia)),aq (r 7 (by lia))]at w n;rw[y]at nb
 generalize s'.x7 (999::(Nn 1000 (xa es).length++Nn 1001 (D5 es).length))=s2 at*
 rw[<-nv]at n2 H n;simp only[go_sem,ab,ak,PS.ents,cy,n2,H,w,n,o,q,nb,a0a,a09,Tz]
end
def Jo(sz by_:Nat)(z:List D):eh:=
 (.seq (
 .region [⟨aa 2,.kf (.c .cj),ae,[]⟩] ag []) (
 (.seq (
  (.seq (
  .region [⟨aa 3,.kf (.t 0),ae,[]⟩,
   ⟨aa 4,.Kt .gd ag (.t 3),ae,[]⟩] ag []) (
  (.cond (.t 4) (
   (.seq (
   .region [⟨aa 2,.kf (.c .cj),ae,[]⟩] ag []) (
   .ret))) (
   .skip))))) (
  (.seq (
  .region [⟨aa 5,.xz ag 0 sz z [],ae,[]⟩,
   ⟨aa 6,.kf (.t 0),ae,[]⟩,
   ⟨aa 7,.app sz by_ (.t 5) (.t 6),ae,[]⟩,
   ⟨aa 2,.kf (.t 7),ae,[]⟩] ag []) (
  .ret))))))
def yu(m:Mem)(a:List K1)(m':Mem)(r:V):Exit->PS->Prop:=λe s=>(e= .normal\/e= .ret)/\qz s a=aa r/\Clean s.mem m'
theorem TO{m m':Mem}{a:List K1}{r:V}{s:PS}:yu m a m' r .ret s=(qz s a=aa r/\Clean s.mem m'):=by simp[yu]
theorem AQ{m m':Mem}{a:List K1}{r:V}{s:PS}:yu m a m' r .normal s=(qz s a=aa r/\Clean s.mem m'):=by simp[yu]
attribute [go_sem] TO AQ
section
variable{P:Program}
theorem eR{sz by_:Nat}{z:List D}:l7 P (Jo sz by_ z) (ly [.tmp 2] .cj) (start [.cj]):=by
 simp only[Jo,go_sem,ab,reduceCtorEq]
theorem QM{sz by_:Nat}{z:List D}:l7 P (Jo sz by_ z) (ly [.tmp 2] (.gd sz [])) (start [.Pa]):=by
 simp only[Jo,go_sem,ab,ao,reduceCtorEq,cw,Gv,pj,Qw]
theorem XP{sz by_:Nat}{z:List D}{dv:List (List D)}(c:dv≠[])(b:∀e∈dv,e.all D.one=ah)(hb:dv.length*by_<=2^47):l7 P (Jo sz by_ z) (ly [.tmp 2] (.gd sz dv)) (start [.gd sz dv]):=by
 have a:(dv.all λe=>e.all D.one)=true:=dg.2 b
 cases dv with
 |nil=>exact absurd rfl c
 |cons e r=>
  simp only[Jo,go_sem,ab,reduceCtorEq,cw,Gv,pj];simp only[cq]at hb;simp only[X8]at a;simp only[a,go_sem,ab,hb]
theorem W2(b:P.follows .mixedOrders=ah){f:Nat}{sz by_:Nat}{z:List D}(a:fu P f {}=aa (Jo sz by_ z,[.tmp 2],8)){dv:List (List D)}(d:∀e∈dv,e.all D.one=ah)(hb:dv.length*by_<=2^47):iv P f [.gd sz dv] (.gd sz dv):=by
 by_cases c:dv=[]
 ·subst c;exact iv.split ((ez b a (by simp) eR).Nl Mc) (ez b a (by simp) QM)
 exact ez b a (by simp) (XP c d hb)
theorem NQ(b:P.follows .mixedOrders=ah){f:Nat}{sz by_:Nat}{z:List D}(a:fu P f {}=aa (Jo sz by_ z,[.tmp 2],8)):iv P f [.cj] .cj:=ez b a (by simp) eR
def Mem.put(m:Mem)(id v:Nat)(b:B):Mem:=⟨lu m.di id (aa b),lu m.ba id v,m.mp⟩
theorem Mem.Rr{m:Mem}{id v sz:Nat}{dv:List (List D)}:∀i b,(m.put id v (.arr sz dv)).di i=aa b->m.di i=aa b\/Ni (m.put id v (.arr sz dv)) b:=by
 intro i b hb;simp only[Mem.put,ar]at hb;split at hb
 ·injection hb with hb;subst hb;exact .inr trivial
 exact .inl hb
theorem Mem.Mq{m:Mem}{id v:Nat}{b:B}(h:m.ba id<=v):∀i,m.ba i<=(m.put id v b).ba i:=by
 intro i;simp only[Mem.put,ar];split
 ·rename_i a;subst a;exact h
 exact bm _
theorem rR(j:P.follows .mixedOrders=ah){f:Nat}{sz by_:Nat}{z:List D}(h:fu P f {}=aa (Jo sz by_ z,[.tmp 2],8)){dv:List (List D)}(l:dv≠[])(k:∀e∈dv,e.all D.one=ah)(hb:dv.length*by_<=2^47)
  (m:Mem)(b:Nat):sl P f m [.d (.gd sz dv)] (m.put (b+5) (m.ba (b+5)+1) (.arr sz dv)) (.ref (b+5) (m.ba (b+5)+1) dv.length):=by
 refine mz j h (by simp) b (λc=>?_) (Mem.Mq (by lia)) Mem.Rr (λi es g=> .inl g) (by simp[Im,Mem.put,de]);show l7 P (Jo sz by_ z) (yu m [.tmp 2] _ _) _;have a:(dv.all λe=>e.all D.one)=true:=dg.2 k
 cases dv with
 |nil=>exact absurd rfl l
 |cons e r=>
  simp only[Jo,enter,go_sem,ab,reduceCtorEq,cw,Gv,pj,a1t];simp only[cq]at hb;simp only[X8]at a;simp only[a,go_sem,ab,hb,qz,uq];intro i;simp only[Mem.put,PS.mem,ar];by_cases g:i=b+5
  ·subst g;simp
  simp[g]
end
section
variable{P:Program}{K:PS->Prop}{s:PS}{r:List RI}{d:Option Nat}
theorem FL{c:Option D}{g:Nat}{j9:List D}{own:Bool}{a x:D}(h:c=aa (.qb g j9))(b:iv P g (a::j9) x)(hx:x.flat=ah)(e:mc P r (s.put d (.d x)) K):IL P c own [.d a] d s (Bo P r K):=by
 subst h;exact⟨[a],x,rfl,b.toC,.inl hx,e⟩
theorem jn{f:Nat}{args:List V}{ds:List D}{x:D}(a:Ln s args=aa ds)(b:iv P f ds x)(hx:x.flat=ah)(c:mc P r (s.put d (.d x)) K):Gt P f args [] ag d s (Bo P r K):=
 ⟨ds,x,a,by rw[pt];exact b.toC,.inl hx,c⟩
end
theorem P4(p:Nat->Bool)(n:Nat):(Am p n= -1/\∀i,i<n->p i=ag)\/∃i,i<n/\Am p n=(i:Int)/\p i=ah/\∀k,k<i->p k=false:=by
 cases h:(fc n).find? p with
 |none=>
  refine .inl ⟨by unfold Am;rw[h],λi c=>?_⟩;have:=Yw.1 h i (er.2 c);simpa using this
 |some i=>
  obtain⟨l,a,q,e,m⟩:=bI.1 h;have c:i<n:=er.1 (W7 h)
  have g:∀k,k<i->p k=false:=λk g=>by
   have j:a.length=i:=by
    have b:(fc n)[a.length]? =aa i:=by rw[e,l9 (bm _),Wu];rfl
    have o:=(bd.1 b);obtain⟨r,f⟩:=o;rw[List.getElem_range]at f;exact f
   have d:a[k]? =aa k:=by
    have b:(fc n)[k]? =aa k:=Nk (by lia);rw[e,kq (by lia)]at b;exact b
   simpa using m k (pw d)
  exact .inr ⟨i,c,by unfold Am;rw[h],l,g⟩
theorem filter_none{α:Type}{l:List α}{p:α->Bool}(h:∀x∈l,p x=ag):l.filter (λx=> !p x)=l:=by
 rw[Qx];intro x hx;simp[h x hx]
theorem fL{l:List Sp}{p:Sp->Bool}{j:Nat}(h:j<l.length):(l.take (j+1)).filter (λx=> !p x)=(l.take j).filter (λx=> !p x)++if p l[j]then[]else[l[j]]:=by
 rw[j3,Jy];simp only[bh h,JA,Bl,List.filter_nil];cases p l[j]<;>rfl
def Mh(m:Mem)(id ba:Nat)(l:List Sp)(p:Sp->Bool):Mem:=if l.any p then m.put id (ba+1) (.arr 2 ((l.filter λx=> !p x).map Ci))else m
def dS(id ba:Nat)(l:List Sp)(p:Sp->Bool):V:= .ref id (if l.any p then ba+1 else ba) (l.filter λx=> !p x).length
section
variable{P:Program}(A:Pr3 P)
theorem tJ(l:List Sp)(hl:l.length<=2^30){m:Mem}{id ba b q qv:Nat}{g:Nat}{n1 n2:D}{p:Sp->Bool}(hb:m.di id=aa (.arr 2 (l.map Ci)))(hv:m.ba id=ba)
  (zO:m.di (b+7)=ae/\m.mp (b+7)=ae)(s:id≠b+7)(Q:m.mp id=ae)(hq:m.di q=aa (.loc [.d n1,.d n2]))(L:m.ba q=qv)(a0:q≠id)(K:q≠b+7)
  (hp:∀x∈l,iv P g [.agg (Ci x),.ym [n1,n2] 0] (.bool (p x))):
  sl P A.nj m [.ref id ba l.length,.qb g [(q,qv)]] (Mh m id ba l p) (dS id ba l p):=by
 have hI:=xO A.toPr (l:=l) (g:=g) (j9:=[.ym [n1,n2] 0]) (p:=λi=>p (l.getD i (0,0))) (λi o=>by
  have e:l.getD i (0,0)=l[i]:=by simp[cz,o]
  simp only[e]
  exact hp _ (dj o)) (by lia)
 refine mz A.mo A.Ky (by simp) b (λcx=>?_) (λi=>?_) (λi b' O=>?_) (λi es o=> .inl ?_) ?_
 ·show l7 P (yx A.lh) (yu m [.tmp 4] _ _) _;simp only[yx,enter,go_sem,ab,cu,reduceCtorEq];refine jn (ds:=[uu l,.qb g [.ym [n1,n2] 0]]) ?_ hI rfl ?_
  ·simp only[go_sem,hb,hv,hq,L,al,uu,k9,ow]
  rcases P4 (λi=>p (l.getD i (0,0))) l.length with ⟨c,f⟩|⟨a,G,c,f,h3⟩
  ·have N:l.any p=false:=by
    rw[wL];intro x hx;obtain⟨i,o,rfl⟩:=j0.1 hx;have:=f i o;simpa[cz,o]using this
   have hf:l.filter (λx=> !p x)=l:=filter_none λx hx=>by simpa using wL.1 N x hx
   simp only[go_sem,ab,Bz,cu,reduceCtorEq,c,dS,Mh,N,hf,qz,uq];exact λi=>⟨.inr ⟨rfl,rfl⟩,.inr ⟨rfl,rfl⟩⟩
  have U:=G
  have G:p l[a]=true:=by simpa[cz,G]using f
  have N:l.any p=true:=Bm.2 ⟨_,dj _,G⟩
  have X:∀x∈l.take a,p x=false:=by
   intro x hx;obtain⟨k,hk,rfl⟩:=j0.1 hx;simp only[ey]at hk;have:=h3 k (by lia)
   have Y:k<l.length:=by lia
   simpa[cz,Y]using this
  have a2:=dr ((a:Int)+1) (by lia) (by lia)
  have l8:((a:Int)== -1)=false:=by simp
  simp only[go_sem,ab,cu,reduceCtorEq,c,l8,a2]
  refine wv (λs'=>s'.base=b/\s'.tmp 0= .ref id ba l.length/\s'.mp=m.mp/\s'.ba id=ba/\(∀k,k≠id->k≠b+7->s'.di k=m.di k/\s'.ba k=m.ba k)/\
   s'.tmp 5= .d (.int aj ((l.filter λx=> !p x).length:Nat))/\∃w:List Sp,w.length=l.length/\s'.di id=aa (.arr 2 (w.map Ci))/\w.take (l.filter λx=> !p x).length=l.filter λx=> !p x) ?_ ?_
  ·refine gf (l.length-(a+1)) (λk s'=>s'.base=b/\s'.tmp 0= .ref id ba l.length/\s'.tmp 1= .qb g [(q,qv)]/\s'.mp=m.mp/\s'.ba id=ba/\(∀k,k≠id->k≠b+7->s'.di k=m.di k/\s'.ba k=m.ba k)/\
    s'.tmp 6= .d (.int aj ((a+1+k:Nat):Int))/\s'.tmp 5= .d (.int aj (((l.take (a+1+k)).filter λx=> !p x).length:Nat))/\∃w:List Sp,w.length=l.length/\s'.di id=aa (.arr 2 (w.map Ci))/\
    w.take ((l.take (a+1+k)).filter λx=> !p x).length=((l.take (a+1+k)).filter λx=> !p x)/\w.drop (a+1+k)=l.drop (a+1+k)) ?_ ?_
   ·have e1:(l.take (a+1+0)).filter (λx=> !p x)=l.take a:=by
     rw[Ad,fL U,G,filter_none X];simp
    rw[e1]
    have e2:(l.take a).length=a:=by simp;lia
    simp only[go_sem,ab,reduceCtorEq,e2];exact⟨hv,λk _ _=>trivial,by rw[mu];rfl,l,rfl,hb,rfl,rfl⟩
   rintro k s' hk ⟨M,t,S,n,ev,E,f6,y,w,w1,w2,z,w4⟩;by_cases ju:((a+1+k:Nat):Int)<l.length
   ·have ep:a+1+k<l.length:=by lia
    have I:k<l.length-(a+1):=by lia
    have wj:=dr (((a+1+k:Nat):Int)+1) (by lia) (by lia)
    have a3:a+1+k<w.length:=by lia
    have hg:=Es a3
    have a4:w.getD (a+1+k) (0,0)=l[a+1+k]:=by
     have h5:(w.drop (a+1+k))[0]? =(l.drop (a+1+k))[0]? :=by rw[w4]
     simp only[pv,Ad]at h5;rw[Bj,h5,bh ep];rfl
    rw[a4]at hg;have r:=fL (p:=p) ep;have a7:((l.take (a+1+k)).filter λx=> !p x).length<=a+1+k:=jg (tu _ _) (by simp;lia);have wi:=dr ((((l.take (a+1+k)).filter λx=> !p x).length:Int)+1) (by lia) (by lia)
    generalize hF:(l.take (a+1+k)).filter (λx=> !p x)=F at*
    have H:F.length<w.length:=by lia
    have W:=Es H;have T:=E q a0 K;rw[hq,L]at T;have a6:¬(b+7=id):=λh=>s h.symm
    have Me:∀x:Sp,(w.map Ci).set F.length [.int aj x.1,.int aj x.2]=(w.set F.length x).map Ci:=λx=>by rw[aey];rfl
    have a8:F.length<l.length:=by lia
    have R:(F.length:Int)<l.length:=by lia
    simp only[go_sem,ab,ak,reduceCtorEq,M,t,S,f6,ev,w2,w1,al,ju,hg,bn,aw,K,T.1,T.2,k9,ow];refine FL rfl (hp l[a+1+k] (dj _)) rfl ?_
    have frame:∀(u:Nat->Option B) (v:Nat->Nat),(∀j,j≠id->j≠b+7->u j=s'.di j/\v j=s'.ba j)->∀j,j≠id->j≠b+7->u j=m.di j/\v j=m.ba j:=λu v a1 j c f=>by
     obtain⟨k1,k2⟩:=a1 j c f;obtain⟨k3,k4⟩:=E j c f;exact⟨k1.trans k3,k2.trans k4⟩
    have ej:((a+1+k:Nat):Int)+1=((a+1+(k+1):Nat):Int):=by lia
    have C:w.drop (a+1+(k+1))=l.drop (a+1+(k+1)):=by
     have:=congrArg (afk 1) w4;simpa[JF,tc]using this
    cases c1:p l[a+1+k]
    ·rw[c1]at r;simp only[gp,bp]at r;simp only[go_sem,ab,ak,reduceCtorEq,t,S,y,f6,ev,w2,w1,al,bn,aw,s,W,Me,R,wi,wj,I]
     refine⟨n,frame _ _ λj c f=>?_,by rw[ej],by rw[show a+1+(k+1)=a+1+k+1 by lia,r];simp,w.set F.length l[a+1+k],by simp[w1],rfl,?_,?_⟩
     ·simp[c,f]
     ·rw[show a+1+(k+1)=a+1+k+1 by lia,r];rw[dz,cq,ew,j3,List.getElem?_set_self H,List.take_set_of_le (bm _),z];rfl
     rw[List.drop_set_of_lt (by lia)];exact C
    rw[c1]at r;simp only[da,pt]at r;simp only[go_sem,ab,reduceCtorEq,t,S,y,f6,ev,w2,s,wj,I]
    refine⟨n,frame _ _ λj c f=>?_,by rw[ej],by rw[show a+1+(k+1)=a+1+k+1 by lia,r],w,w1,rfl,?_,?_⟩
    ·simp[f]
    ·rw[show a+1+(k+1)=a+1+k+1 by lia,r];exact z
    exact C
   have he:a+1+k=l.length:=by lia
   rw[he,fm]at y z;simp only[go_sem,ab,reduceCtorEq,t,f6,ev,w2,w1,al,ju];refine⟨M,n,?_⟩;exact⟨E,y,w,w1,rfl,z⟩
  rintro s' ⟨M,t,n,ev,E,y,w,w1,w2,z⟩;have Z:(l.filter λx=> !p x).length<=l.length:=tu _ _
  have Wy:0<l.length:=by lia
  have a9:¬(((l.filter λx=> !p x).length:Int)<0):=by lia
  have V:((l.filter λx=> !p x).length:Int)<=l.length:=by lia
  have a5:(w.map Ci).length=l.length:=by rw[al,w1]
  have J:((w.map Ci).take (l.filter λx=> !p x).length++jq (l.length-(l.filter λx=> !p x).length) [D.int aj 0,D.int aj 0]++(w.map Ci).drop ((l.filter λx=> !p x).length+(l.length-(l.filter λx=> !p x).length))).length=l.length:=by simp[w1];lia
  have kY:((w.map Ci).take (l.filter λx=> !p x).length++jq (l.length-(l.filter λx=> !p x).length) [D.int aj 0,D.int aj 0]++(w.map Ci).drop ((l.filter λx=> !p x).length+(l.length-(l.filter λx=> !p x).length))).take (l.filter λx=> !p x).length=(l.filter λx=> !p x).map Ci:=by
   rw[uy,a0r (by simp[w1];lia),List.take_take,Nat.min_self,<-Mm,z]
  simp only[go_sem,ab,ak,reduceCtorEq,M,t,y,ev,w2,a5,bn,aw,V,Wy,Z,implies_true,J,kY];simp only[Mh,dS,N,da,qz,uq,go_sem,ab];intro j;simp only[Mem.put,PS.mem,ar];by_cases c:j=id
  ·subst c;simp[Q]
  by_cases f:j=b+7
  ·subst f;simp[zO.1,zO.2,c]
  obtain⟨k1,k2⟩:=E j c f;simp[c,k1,k2,n]
 ·unfold Mh;split
  ·exact Mem.Mq (by lia) i
  exact bm _
 ·unfold Mh at O|-;split at O
  ·rename_i h;rw[bc h];exact Mem.Rr i b' O
  exact .inl O
 ·unfold Mh at o;split at o
  ·exact o
  exact o
 unfold dS Mh;split
 ·simp[Im,Mem.put,de]
 simp[Im,hv]
end
def W1(x y:Int):Int:=if x<y then-1 else if y<x then 1 else 0
def Bs{α:Type}(f:α->α->Int):List α->List α->Int
 |[],[]=>0
 |[],_::_=> -1
 |_::_,[]=>1
 |a::r,b::t=>if f a b=0 then Bs f r t else f a b
def W0(a b:Sp):Int:=Bs W1 [a.1,a.2] [b.1,b.2]
def Ng:List Sp->List Sp->Int:=Bs W0
theorem mT{α:Type}(f:α->α->Int)(a b:List α)(i:Nat)(c:i<a.length)(d:i<b.length)(h:f a[i] b[i]=0):Bs f (a.drop i) (b.drop i)=Bs f (a.drop (i+1)) (b.drop (i+1)):=by
 rw[jx c,jx d];simp only[Bs,h,da]
theorem BD{α:Type}(f:α->α->Int)(a b:List α)(i:Nat)(c:i<a.length)(d:i<b.length)(h:f a[i] b[i]≠0):Bs f (a.drop i) (b.drop i)=f a[i] b[i]:=by
 rw[jx c,jx d];simp only[Bs,aq h]
theorem BE{α:Type}(f:α->α->Int)(a b:List α)(i:Nat)(c:i<a.length)(d:b.length<=i):Bs f (a.drop i) (b.drop i)=1:=by
 rw[jx c,Oo d];rfl
theorem rP{α:Type}(f:α->α->Int)(a b:List α):Bs f (a.drop a.length) (b.drop a.length)=if a.length<b.length then-1 else 0:=by
 rw[Qa];split
 ·rename_i h;rw[jx h];rfl
 rename_i h;rw[Oo (by lia)];rfl
section
variable{P:Program}(A:Pr3 P)
theorem HE(n:Int):iv P A.zm [.int aj n] (.bool ag):=by
 refine ez A.mo A.aH (by simp) ?_;show l7 P Kn (ly _ _) _;simp only[Kn,go_sem,ab,reduceCtorEq,bne_self_eq_false]
theorem CU(x y:Int):iv P A.zw [.int aj x,.int aj y] (.int aj (W1 x y)):=by
 refine ez A.mo A.X4 (by simp) ?_;show l7 P (Il A.zm) (ly _ _) _;simp only[Il,go_sem,ab,cu,reduceCtorEq];refine gq (HE A x) ?_;simp only[go_sem,ab,cu];refine gq (HE A y) ?_;unfold W1;by_cases a:x<y
 ·simp only[go_sem,ab,cu,reduceCtorEq,a]
 by_cases b:y<x
 ·simp only[go_sem,ab,cu,reduceCtorEq,a,b]
 simp only[go_sem,ab,cu,reduceCtorEq,a,b]
theorem xR(a b:List Int)(u:a.length<=2^50)(v:b.length<=2^50):iv P A.wz [.gd 1 (a.map Eo),.gd 1 (b.map Eo)] (.int aj (Bs W1 a b)):=by
 refine ez A.mo A.Tu (by simp) ?_;show l7 P (Fi A.zw) (ly _ _) _;simp only[Fi,go_sem,ab,cu,reduceCtorEq];refine wv (λs'=>s'.tmp 0= .d (.gd 1 (a.map Eo))/\s'.tmp 1= .d (.gd 1 (b.map Eo))/\Bs W1 a b=if a.length<b.length then-1 else 0) ?_ ?_
 ·refine gf a.length (λi s'=>s'.tmp 0= .d (.gd 1 (a.map Eo))/\s'.tmp 1= .d (.gd 1 (b.map Eo))/\s'.tmp 9= .d (.gd 1 (a.map Eo))/\s'.tmp 10= .d (.int aj a.length)/\s'.tmp 11= .d (.int aj i)/\
   Bs W1 a b=Bs W1 (a.drop i) (b.drop i)) ?_ ?_
  ·simp only[go_sem,ab,reduceCtorEq,al]
  rintro i s' w ⟨l,g,n,e,f,c⟩;by_cases q:(i:Int)<a.length
  ·have k:i<a.length:=by lia
   have wi:=dr ((i:Int)+1) (by lia) (by lia)
   have r:(a.map Eo)[i]? =aa [.int aj a[i]]:=by simp[k,Eo]
   by_cases s:(b.length:Int)<=i
   ·rw[BE W1 a b i k (by lia)]at c;simp only[go_sem,ab,cu,reduceCtorEq,g,n,e,f,q,r,bn,aw,al,s,c]
   have j:i<b.length:=by lia
   have t:(b.map Eo)[i]? =aa [.int aj b[i]]:=by simp[j,Eo]
   simp only[go_sem,ab,cu,reduceCtorEq,g,n,e,f,q,r,t,bn,aw,al,s];refine ir (CU A _ _) ?_;by_cases m:W1 a[i] b[i]=0
   ·rw[mT W1 a b i k j m]at c;simp only[go_sem,ab,mj,cu,reduceCtorEq,l,g,n,e,f,m,wi,k];exact⟨by simp,c⟩
   rw[BD W1 a b i k j m]at c
   have p:(W1 a[i] b[i] !=0)=true:=by simpa using m
   simp only[go_sem,ab,cu,reduceCtorEq,p,c]
  have:i=a.length:=by lia
  subst this;rw[rP]at c;simp only[go_sem,ab,cu,reduceCtorEq,l,g,e,f,q];exact c
 rintro s' ⟨l,g,c⟩;by_cases h:(a.length:Int)<b.length
 ·have o:a.length<b.length:=by lia
  simp only[go_sem,ab,cu,reduceCtorEq,l,g,al,h,c,o]
 have o:¬a.length<b.length:=by lia
 simp only[go_sem,ab,cu,reduceCtorEq,l,g,al,h,c,o]
theorem WV(a b:Sp):iv P A.vl [Aa a,Aa b] (.int aj (W0 a b)):=by
 refine ez A.mo A.pA (by simp) ?_;show l7 P (Ri A.wz) (ly _ _) _;simp only[Ri,Aa,go_sem,ab,fp,ak];refine jn (ds:=[.gd 1 ([a.1,a.2].map Eo),.gd 1 ([b.1,b.2].map Eo)]) ?_ (xR A _ _ (by simp) (by simp)) rfl ?_
 ·simp only[go_sem,ab,fp,ak,k9,ow,Eo,Nat.reduceLT]
 simp only[go_sem,ab];rfl
theorem Xe(a b:List Sp)(x:a.length<=2^50)(y:b.length<=2^50):iv P A.jk [uu a,uu b,.qb A.vl []] (.int aj (Ng a b)):=by
 refine ez A.mo A.Jm (by simp) ?_;show l7 P (yd) (ly _ _) _;simp only[yd,uu,Ng,go_sem,ab,cu,reduceCtorEq];refine wv (λs'=>s'.tmp 0= .d (.gd 2 (a.map Ci))/\s'.tmp 1= .d (.gd 2 (b.map Ci))/\Bs W0 a b=if a.length<b.length then-1 else 0) ?_ ?_
 ·refine gf a.length (λi s'=>s'.base=0/\s'.tmp 0= .d (.gd 2 (a.map Ci))/\s'.tmp 1= .d (.gd 2 (b.map Ci))/\s'.tmp 2= .d (.qb A.vl [])/\s'.tmp 11= .d (.gd 2 (a.map Ci))/\s'.tmp 12= .d (.int aj a.length)/\s'.tmp 13= .d (.int aj i)/\
   Bs W0 a b=Bs W0 (a.drop i) (b.drop i)) ?_ ?_
  ·simp only[go_sem,ab,reduceCtorEq,al]
  rintro i s' z ⟨s,m,j,t,k,e,f,c⟩;by_cases r:(i:Int)<a.length
  ·have l:i<a.length:=by lia
   have wi:=dr ((i:Int)+1) (by lia) (by lia);have o:=Es l
   have w:a.getD i (0,0)=a[i]:=by simp[cz,l]
   rw[w]at o;by_cases v:(b.length:Int)<=i
   ·rw[BE W0 a b i l (by lia)]at c;simp only[go_sem,ab,cu,ak,reduceCtorEq,s,j,k,e,f,r,o,bn,aw,al,v,c]
   have g:i<b.length:=by lia
   have u:=Es g
   have e2:b.getD i (0,0)=b[i]:=by simp[cz,g]
   rw[e2]at u;simp only[go_sem,ab,cu,ak,reduceCtorEq,s,j,t,k,e,f,r,o,u,bn,aw,al,v];refine Q2 (WV A _ _) ?_;by_cases n:W0 a[i] b[i]=0
   ·rw[mT W0 a b i l g n]at c;simp only[go_sem,ab,mj,cu,reduceCtorEq,m,j,t,k,e,f,n,wi,l];exact⟨by simp,c⟩
   rw[BD W0 a b i l g n]at c
   have q:(W0 a[i] b[i] !=0)=true:=by simpa using n
   simp only[go_sem,ab,cu,reduceCtorEq,q,c]
  have:i=a.length:=by lia
  subst this;rw[rP]at c;simp only[go_sem,ab,cu,reduceCtorEq,m,j,e,f,r];exact c
 rintro s' ⟨m,j,c⟩;by_cases h:(a.length:Int)<b.length
 ·have p:a.length<b.length:=by lia
  simp only[go_sem,ab,cu,reduceCtorEq,m,j,al,h,c,p]
 have p:¬a.length<b.length:=by lia
 simp only[go_sem,ab,cu,reduceCtorEq,m,j,al,h,c,p]
end
section
variable{P:Program}(A:Pr3 P)
theorem a2w(n:Nat)(l:0<n)(hb:n<=2^30)(m:Mem)(b:Nat):sl P A.sq m [.d .cj,.d (.int aj n)] (m.put (b+22) (m.ba (b+22)+2) (.arr 2 [])) (.ref (b+22) (m.ba (b+22)+2) 0):=by
 refine mz A.mo A.Pw (by simp) b (λc=>?_) (Mem.Mq (by lia)) Mem.Rr (λi es g=> .inl g) (by simp[Im,Mem.put,de]);show l7 P (Cm) (yu m [.tmp 4] _ _) _
 have e:¬((n:Int)<0):=by lia
 have f:(0:Int)<n:=by lia
 have w0:=dr ((n:Int)-0) (by lia) (by lia);have w1:=dr (0:Int) (by lia) (by lia)
 have hz:(n:Int)-0=n:=by lia
 rw[hz]at w0
 have a:(n:Int)*16<=2^47:=by lia
 have k:(n:Int)*((16:Nat):Int)<=2^47:=a;simp only[Cm,enter,go_sem,ab,ak,reduceCtorEq,e,f,w0,w1,Int.sub_zero,a,bn,ad2,aw,qz,uq,tc];intro j;simp only[Mem.put,PS.mem,ar];by_cases h:j=b+22
 ·subst h;simp
 simp[h]
theorem aM{ls:List (List Sp)}{i:Nat}(h:i<ls.length):(ls.take (i+1)).flatten=(ls.take i).flatten++ls[i]:=by
 rw[j3,ads];simp[h]
theorem QA(ls:List (List Sp))(x:ls.flatten≠[])(z:ls.length<=2^30)(t:ls.flatten.length<=2^30):iv P A.r8 [kh ls] (uu ls.flatten):=by
 refine ez A.mo A.Oc (by simp) ?_;show l7 P (Bc A.sq) (ly _ _) _;have r:0<ls.flatten.length:=W8.2 x
 have o:∀i,(ls.take i).flatten.length<=ls.flatten.length:=λi=>by
  have:=congrArg Ae (congrArg List.flatten (Ej i ls));rw[ads,dz]at this;lia
 simp only[Bc,kh,uu,go_sem,ab,reduceCtorEq];refine wv (λs'=>s'.base=0/\s'.tmp 0= .d (.gd 1 (ls.map λl=>[uu l]))/\s'.tmp 3= .d (.int aj ls.flatten.length)) ?_ ?_
 ·refine gf ls.length (λi s'=>s'.base=0/\s'.tmp 0= .d (.gd 1 (ls.map λl=>[uu l]))/\s'.tmp 3= .d (.int aj (ls.take i).flatten.length)/\s'.tmp 9= .d (.gd 1 (ls.map λl=>[uu l]))/\s'.tmp 10= .d (.int aj ls.length)/\s'.tmp 11= .d (.int aj i)) ?_ ?_
  ·simp only[go_sem,ab,reduceCtorEq,al];rfl
  rintro i s' v ⟨a,g,f,s,h,j⟩;by_cases k:(i:Int)<ls.length
  ·have c:i<ls.length:=by lia
   have wi:=dr ((i:Int)+1) (by lia) (by lia);have m:=Fo c;have b:=aM c;have n:=o (i+1);rw[b,dz]at n;have ws:=dr (((ls.take i).flatten.length:Int)+ls[i].length) (by lia) (by lia)
   have w:¬(((ls.take i).flatten.length:Int)+ls[i].length<0):=by lia
   simp only[go_sem,ab,reduceCtorEq,a,g,f,s,h,j,k,m,bn,aw,al,ws,w,wi,c,b,dz];simp
  have:i=ls.length:=by lia
  subst this;rw[fm]at f;simp only[go_sem,ab,reduceCtorEq,a,g,f,h,j,k]
 rintro s' ⟨a,g,f⟩;simp only[go_sem,a,f];refine nh (a2w A ls.flatten.length r t _ 1000) ?_;simp only[go_sem,ab,ak,reduceCtorEq,PS.ke,g];refine wv (λs'=>s'.base=0/\s'.tmp 6= .ref 1022 (s'.ba 1022) ls.flatten.length/\s'.di 1022=aa (.arr 2 (ls.flatten.map Ci))) ?_ ?_
 ·refine gf ls.length (λi s'=>s'.base=0/\s'.tmp 6= .ref 1022 (s'.ba 1022) (ls.take i).flatten.length/\s'.di 1022=aa (.arr 2 ((ls.take i).flatten.map Ci))/\s'.tmp 25= .d (.gd 1 (ls.map λl=>[uu l]))/\s'.tmp 26= .d (.int aj ls.length)/\s'.tmp 27= .d (.int aj i)) ?_ ?_
  ·simp only[go_sem,ab,al,Mem.put,PS.mem]
  clear a g f;rintro i s' v ⟨a,f6,b6,f25,f26,f27⟩;by_cases k:(i:Int)<ls.length
  ·have c:i<ls.length:=by lia
   have wi:=dr ((i:Int)+1) (by lia) (by lia);have m:=Fo c;have b:=aM c;have n:=o (i+1);rw[b,dz]at n
   have y:((ls[i].map Ci).all λe=>e.all D.one)=true:=by
    rw[dg];intro e u;obtain⟨p,_,rfl⟩:=j6.1 u;rfl
   have q:((ls.take i).flatten.length+ls[i].length)*16<=2^47:=by lia
   simp only[go_sem,ab,reduceCtorEq,Gv,pj,a,f6,b6,f25,f26,f27,k,m,bn,aw,al,y,q,wi,c,b,dz,fj];simp
  have:i=ls.length:=by lia
  subst this;rw[fm]at f6 b6;simp only[go_sem,ab,reduceCtorEq,a,f6,b6,f26,f27,k]
 clear a g f;rintro s' ⟨a,f6,b6⟩;simp only[go_sem,ab,a,f6,b6,al]
end
def J5(O I:Adj)(s:Sp):Bool:=
 match D8 s O with
 |some [b]=>match D8 s I with
  |some (a::_)=>sgn (cn (dq s a) (dq b s)) !=0
  |_=>ah
 |_=>ah
theorem kG(k:Sp)(L:Adj):Iv (.row [.int,.int]) (.agg [.int aj k.1,.int aj k.2]) ((L.map λp=>(Aa p.1,uu p.2)).map λe=>(e.1,C.d e.2))=aa ((D8 k L).map λl=>C.d (uu l)):=by
 induction L with
 |nil=>rfl
 |cons x r b=>
  obtain⟨a,l⟩:=x;simp only[du,D8];have:=kI k a (C.d (uu l)) ((r.map λp=>(Aa p.1,uu p.2)).map λe=>(e.1,C.d e.2));simp only[Aa]at this b|-;rw[this];split
  ·rfl
  exact b
theorem Yv{k:Sp}:∀{L:Adj} {l:List Sp},D8 k L=aa l->∃a,(a,l)∈L:=by
 intro L
 induction L with
 |nil=>intro l h;cases h
 |cons x r c=>
  intro l h;obtain⟨a,d⟩:=x;simp only[D8]at h;split at h
  ·injection h with h;subst h;exact⟨a,by simp⟩
  obtain⟨b,hb⟩:=c h;exact⟨b,by simp[hb]⟩
def Qt(b a c s:Sp):Bool:=
 (decide (Ab (dq s b) a<0)&& !decide (Ab (dq c b) a<0))||(decide (Ab (dq s b) a<0)==decide (Ab (dq c b) a<0)&&decide (0<Ab (dq s b) (dq c b)))
def xu(b c a s:Sp):Sp:=if Qt b c a s then s else a
def cJ(l:List Sp)(a b:Sp):Sp:=
 match l with
 |[]=>(0,0)
 |h::r=>r.foldl (xu b (dq a b)) h
section
variable{P:Program}{K:PS->Prop}{s:PS}{r:List RI}{d:Option Nat}
theorem fN{g:Nat}{j9:List D}{own:Bool}{a x:D}(b:iv P g (a::j9) x)(hx:x.flat=ah)(c:mc P r (s.put d (.d x)) K):Gt P g [.d a] j9 own d s (Bo P r K):=⟨[a],x,rfl,b.toC,.inl hx,c⟩
end
section
variable{P:Program}(A:Pr3 P)
theorem PQ{es:List Ed}{O I:Adj}(s:Sp)(hs:SmL s)(u:∀p∈O,p.2.length<=2^30/\∀q∈p.2,SmL q)(t:∀p∈I,∀q∈p.2,SmL q)(h:∃a l,D8 s I=aa (a::l)):iv P A.yk [.agg [Tz O,Tz I],Aa s] (.bool (J5 O I s)):=by
 refine ez A.mo A.Vn (by simp) ?_;show l7 P (Hf A.Fb) (ly _ _) _;obtain⟨a,o,g⟩:=h;have m:=kG s O;have n:=kG s I;rw[g]at n;rw[show Aa s= .agg [.int aj s.1,.int aj s.2]from rfl];simp only[Hf,Tz,go_sem,ab,ak,ao,PS.ents,cy,Lc,m];unfold J5;rw[g]
 have other:∀l:List Sp,l.length≠1->(match l with|[b]=>sgn (cn (dq s a) (dq b s)) !=0|_=>ah)=true:=by
  intro l c
  match l with
  |[]=>rfl
  |[b]=>simp at c
  |_::_::_=>rfl
 cases d:D8 s O with
 |none=>
  simp only[go_sem,ab,reduceCtorEq,show((0:Int) !=1)=ah from rfl]
 |some lo=>
  obtain⟨k,w⟩:=Yv d;obtain⟨c,f⟩:=u _ w
  match lo,d,c,f with
  |[b],d,c,f=>
   have hb:=f b (by simp);obtain⟨C,i⟩:=Yv g;have v:=t _ i a (by simp);have j:=a2i A.toPr v hs hb;simp only[Aa]at j;have e:uu [b]= .gd 2 [[.int aj b.1,.int aj b.2]]:=rfl;have e2:uu (a::o)= .gd 2 ([.int aj a.1,.int aj a.2]::o.map Ci):=rfl;simp only[go_sem,ab,ak,ao,reduceCtorEq,d,e,e2,bne_self_eq_false,cy,Lc,m,n];refine Fw j ?_;simp only[go_sem,ab,reduceCtorEq]
  |[],d,c,f=>
   have e:uu []= .gd 2 []:=rfl;have r:(((0:Nat):Int) !=1)=true:=rfl;simp only[go_sem,ab,mj,reduceCtorEq,e]
  |x::y::z,d,c,f=>
   have B:(((z.length+1+1:Nat):Int) !=1)=true:=by simp;lia
   have e:uu (x::y::z)= .gd 2 (Ci x::Ci y::z.map Ci):=rfl;simp only[go_sem,ab,reduceCtorEq,e,al,B]
theorem PT{O I:Adj}(s:Sp)(hs:SmL s)(d:∀p∈O,p.2.length<=2^30/\∀q∈p.2,SmL q)(c:∀p∈I,∀q∈p.2,SmL q)(h:∃a l,D8 s I=aa (a::l)):iv P A.xq [.agg (Ci s),.ym [Tz O,Tz I] 0] (.bool (!J5 O I s)):=by
 refine ez A.mo A.Un (by simp) ?_;show l7 P (Gp A.yk) (ly _ _) _;have b:=PQ A (es:=[]) s hs d c h;simp only[Aa]at b;simp only[Gp,Ci,go_sem,ab,ak];refine ir b ?_;simp only[go_sem,ab]
theorem HA(s b a:Sp)(hs:SmL s)(hb:SmL b)(e:SmP a):iv P A.tv [Aa s,.ym (Ci b) 0,.ym (Ci a) 0] (.bool (decide (Ab (dq s b) a<0))):=by
 refine ez A.mo A.Vm (by simp) ?_;show l7 P (He A.gr A.vo) (ly _ _) _;have c:=Is A.toPr hs.p hb.p;have d:=HG A.toPr (hs.sub hb) e;simp only[Aa]at c d;simp only[He,Aa,Ci,go_sem,ab,ak];refine ir c ?_;simp only[go_sem,ab,ak];refine ir d ?_;simp only[go_sem,ab,reduceCtorEq]
end
section
variable{P:Program}(A:Pr3 P)
def pO(f:Nat)(a b:Sp)(h:Sp)(r:List Sp)(k:Nat)(s':PS):Prop:=
 s'.base=0/\s'.tmp 5= .gz 5 (s'.ba 5) 0/\s'.di 5=aa (.loc [.d (.int aj b.1),.d (.int aj b.2)])/\s'.tmp 6= .gz 6 (s'.ba 6) 0/\s'.di 6=aa (.loc [.d (.int aj 0),.d (.int aj 0)])/\
 s'.tmp 10= .qb f [(5,s'.ba 5),(9,s'.ba 9)]/\s'.di 9=aa (.loc [.d (.int aj (a.1-b.1)),.d (.int aj (a.2-b.2))])/\
 s'.tmp 8= .gz 8 (s'.ba 8) 0/\s'.di 8=aa (.loc [.d (.int aj ((r.take k).foldl (xu b (dq a b)) h).1),.d (.int aj ((r.take k).foldl (xu b (dq a b)) h).2)])
theorem uB{a b h:Sp}{r:List Sp}(c:SmL h)(d:∀q∈r,SmL q):SmL (r.foldl (xu b (dq a b)) h):=by
 induction r generalizing h with
 |nil=>exact c
 |cons x t f=>
  rw[yb];refine f ?_ λq e=>d q (by simp[e]);unfold xu;split
  ·exact d x (by simp)
  exact c
theorem oC{a b h:Sp}{r:List Sp}{k:Nat}(c:k<r.length):(r.take (k+1)).foldl (xu b (dq a b)) h=xu b (dq a b) ((r.take k).foldl (xu b (dq a b)) h) (r.getD k (0,0)):=by
 rw[j3,qu];simp[c,cz]
theorem a2m{O I:Adj}(a b h:Sp)(r:List Sp)(E:SmL a)(hb:SmL b)(N:SmL h)(G:∀q∈r,SmL q)(V:r.length<=2^30)(Q:D8 b O=aa (h::r)):iv P A.Ap [.agg [Tz O,Tz I],Aa a,Aa b] (Aa (cJ (h::r) a b)):=by
 refine ez A.mo A.Yk (by simp) ?_;show l7 P (Jd A.gr A.tv A.vo) (ly _ _) _;have J:=kG b O;rw[Q]at J;have L:uu (h::r)= .gd 2 ([.int aj h.1,.int aj h.2]::r.map Ci):=rfl;have F:=Is A.toPr E.p hb.p;simp only[Aa,dq]at F;rw[show Aa a= .agg [.int aj a.1,.int aj a.2]from rfl,show Aa b= .agg [.int aj b.1,.int aj b.2]from rfl];simp only[Jd,Tz,go_sem,ab,ak,ao,cy,Lc,J,L];refine ir F ?_
 have w:(1:Nat)<=r.length+1:=by lia
 have z:(r.map Ci).take r.length=r.map Ci:=by rw[<-al (f:=Ci)];exact fm
 simp only[go_sem,ab,ft,fk,ak,w,al,z];have K:=E.sub hb;refine wv (λs'=>pO A.tv a b h r r.length s') ?_ ?_
 ·refine gf r.length (λk s'=>pO A.tv a b h r k s'/\s'.tmp 27= .d (.gd 2 (r.map Ci))/\s'.tmp 28= .d (.int aj r.length)/\s'.tmp 29= .d (.int aj k)) ?_ ?_
  ·simp only[pO,go_sem,ab,a5l]
  rintro k s' U ⟨⟨x,l,i,f6,b6,c,b9,m,j⟩,f27,f28,f29⟩;by_cases H:(k:Int)<r.length
  ·have o:k<r.length:=by lia
   have u:=dr ((k:Int)+1) (by lia) (by lia);have M:=Es o
   have hs:SmL (r.getD k (0,0)):=by
    have e:r.getD k (0,0)=r[k]:=by simp[cz,o]
    rw[e];exact G _ (dj _)
   have y:=uB (a:=a) (b:=b) N (r:=r.take k) λq R=>G q (sC R);have v:=oC (a:=a) (b:=b) (h:=h) o
   generalize S:(r.take k).foldl (xu b (dq a b)) h=g at*
   generalize T:r.getD k (0,0)=s at*
   have n1:=HA A s b (dq a b) hs hb K;have n2:=HA A g b (dq a b) y hb K;simp only[Aa,Ci,dq]at n1 n2;simp only[go_sem,ab,ak,reduceCtorEq,x,i,c,b9,f27,f28,f29,H,M,bn,aw,k9,ow];refine fN n1 rfl ?_;simp only[go_sem,ab,ak,i,c,b9,m,j,k9,ow];refine fN n2 rfl ?_;have B:=Is A.toPr hs.p hb.p;have C:=Is A.toPr y.p hb.p;have an:=HG A.toPr (hs.sub hb) (y.sub hb);simp only[Aa,dq]at B C an;have D:((ah:Bool)==ah)=true:=rfl;have b2:((ag:Bool)==ag)=true:=rfl;have b3:((ag:Bool)==ah)=false:=rfl;have b4:((ah:Bool)==ag)=false:=rfl
   have n:xu b (dq a b) g s=if(decide (Ab (s.1-b.1,s.2-b.2) (a.1-b.1,a.2-b.2)<0)&& !decide (Ab (g.1-b.1,g.2-b.2) (a.1-b.1,a.2-b.2)<0))||
     (decide (Ab (s.1-b.1,s.2-b.2) (a.1-b.1,a.2-b.2)<0)==decide (Ab (g.1-b.1,g.2-b.2) (a.1-b.1,a.2-b.2)<0)&&decide (0<Ab (s.1-b.1,s.2-b.2) (g.1-b.1,g.2-b.2)))then s else g:=rfl
   by_cases hx:Ab (s.1-b.1,s.2-b.2) (a.1-b.1,a.2-b.2)<0<;>by_cases hy:Ab (g.1-b.1,g.2-b.2) (a.1-b.1,a.2-b.2)<0
   ·simp only[go_sem,ab,ak,l,i,hx,hy,D];refine ir B ?_;simp only[go_sem,ab,ak,l,i,m,j];refine ir C ?_;simp only[go_sem,ab];refine ir an ?_;by_cases t:0<Ab (s.1-b.1,s.2-b.2) (g.1-b.1,g.2-b.2)
    ·simp only[hx,hy,t,decide_true,D,adn,a8s,sf,Iq,da]at n;simp only[pO,go_sem,ab,ak,reduceCtorEq,l,i,f6,b6,c,b9,m,j,f27,f28,f29,t,u,o,v,n];simp
    simp only[hx,hy,t,decide_true,decide_false,sf,R0,a8s,sf,gp,bp]at n;simp only[pO,go_sem,ab,reduceCtorEq,l,i,f6,b6,c,b9,m,j,f27,f28,f29,t,u,o,v,n];simp
   ·simp only[hx,hy,decide_true,decide_false,b4,Mz,Ip,D1,da]at n;simp only[pO,go_sem,ab,ak,reduceCtorEq,l,i,f6,b6,c,b9,m,j,f27,f28,f29,hx,hy,u,o,v,n];simp
   ·simp only[hx,hy,decide_true,decide_false,b3,a8s,fh,R0,gp,bp]at n;simp only[pO,go_sem,ab,reduceCtorEq,l,i,f6,b6,c,b9,m,j,f27,f28,f29,hx,hy,b3,u,o,v,n];simp
   simp only[go_sem,ab,ak,l,i,hx,hy,b2];refine ir B ?_;simp only[go_sem,ab,ak,l,i,m,j];refine ir C ?_;simp only[go_sem,ab];refine ir an ?_;by_cases t:0<Ab (s.1-b.1,s.2-b.2) (g.1-b.1,g.2-b.2)
   ·simp only[hx,hy,t,decide_true,decide_false,b2,Ip,adn,Mz,Iq,da]at n;simp only[pO,go_sem,ab,ak,reduceCtorEq,l,i,f6,b6,c,b9,m,j,f27,f28,f29,t,u,o,v,n];simp
   simp only[hx,hy,t,decide_false,sf,R0,Mz,fh,sf,gp,bp]at n;simp only[pO,go_sem,ab,reduceCtorEq,l,i,f6,b6,c,b9,m,j,f27,f28,f29,t,u,o,v,n];simp
  have:k=r.length:=by lia
  subst this;simp only[pO,go_sem,ab,reduceCtorEq,x,l,i,f6,b6,c,b9,m,j,f28,f29,H]
 rintro s' ⟨x,l,i,f6,b6,c,b9,m,j⟩;rw[fm]at j;simp only[go_sem,ab,ak,x,f6,b6,m,j,cJ];rfl
end
def tM(l:List Sp)(i:Nat):List Sp:=l.drop i++l.take i
def Wd(l a:List Sp)(i:Nat):List Sp:=if Ng (tM l i) a<0 then tM l i else a
def Gx(l:List Sp)(k:Nat):List Sp:=(fc k).foldl (Wd l) l
def Ib(O I:Adj)(l:List Sp):List Sp:=l.filter λs=> !!J5 O I s
def Gs(O I:Adj)(l:List Sp):List Sp:=Gx (Ib O I l) (Ib O I l).length
theorem aV(l:List Sp)(k:Nat):Gx l (k+1)=Wd l (Gx l k) k:=by
 unfold Gx;rw[adb,qu];rfl
theorem Qu(l:List Sp)(k:Nat):(Gx l k).length=l.length:=by
 induction k with
 |zero=>rfl
 |succ k a=>
  rw[aV];unfold Wd;split
  ·simp only[tM,dz,A0,ey];lia
  exact a
theorem NK(m:Mem)(id ba:Nat)(l:List Sp)(p:Sp->Bool)(hb:m.di id=aa (.arr 2 (l.map Ci)))(c:m.ba id=ba):
  ∃v,(Mh m id ba l p).di id=aa (.arr 2 ((l.filter λx=> !p x).map Ci))/\(Mh m id ba l p).ba id=v/\dS id ba l p= .ref id v (l.filter λx=> !p x).length/\
   (∀j,j≠id->(Mh m id ba l p).di j=m.di j/\(Mh m id ba l p).ba j=m.ba j)/\(Mh m id ba l p).mp=m.mp:=by
 unfold Mh dS;cases h:l.any p
 ·have a:l.filter (λx=> !p x)=l:=filter_none λx hx=>by simpa using wL.1 h x hx
  simp only[gp,bp,a];exact⟨ba,hb,c,rfl,λj _=>⟨trivial,trivial⟩,trivial⟩
 simp only[da];exact⟨ba+1,by simp[Mem.put,de],by simp[Mem.put,de],rfl,λj b=>by simp[Mem.put,ar,b],rfl⟩
theorem IP(l:List Sp):∀e∈l.map Ci,e.all D.one=true:=by
 intro e a;obtain⟨p,_,rfl⟩:=j6.1 a;rfl
section
variable{P:Program}(A:Pr3 P)
theorem NH{K:PS->Prop}{s:PS}{r:List RI}{d:Option Nat}(l:List Sp)(m:l.length<=2^30){id ba b q qv:Nat}{g:Nat}{n1 n2:D}{p:Sp->Bool}(hb:s.di id=aa (.arr 2 (l.map Ci)))(i:s.ba id=ba)
  (t:s.di (b+7)=ae/\s.mp (b+7)=ae)(c:id≠b+7)(a:s.mp id=ae)(o:s.di q=aa (.loc [.d n1,.d n2]))(h:s.ba q=qv)(e:q≠id)(f:q≠b+7)
  (n:∀x∈l,iv P g [.agg (Ci x),.ym [n1,n2] 0] (.bool (p x)))
  (k:∀(m':Mem) (v:Nat),m'.di id=aa (.arr 2 ((l.filter λx=> !p x).map Ci))->m'.ba id=v->(∀j,j≠id->m'.di j=s.di j/\m'.ba j=s.ba j)->m'.mp=s.mp->mc P r ((s.ke m').put d (.ref id v (l.filter λx=> !p x).length)) K):
  AS P A.nj [.ref id ba l.length,.qb g [(q,qv)]] d s (Bo P r K):=by
 obtain⟨v,q1,q2,q3,q4,q5⟩:=NK s.mem id ba l p hb i;refine nh (tJ A l m hb i t c a o h e f n) ?_;rw[q3];exact k _ v q1 q2 q4 q5
theorem HF{O I:Adj}(l:List Sp)(J:l≠[])(M:l.length<=2^20)(hs:∀s∈l,SmL s/\∃a K,D8 s I=aa (a::K))(H:∀p∈O,p.2.length<=2^30/\∀q∈p.2,SmL q)(G:∀p∈I,∀q∈p.2,SmL q):
  iv P A.qa [.agg [Tz O,Tz I],uu l] (uu (Gs O I l)):=by
 refine ez A.mo A.X2 (by simp) ?_;show l7 P (Ij A.ib A.xq A.nj A.r8 A.jk A.vl) (ly _ _) _
 have z:l.map Ci≠[]:=by simpa using J
 simp only[Ij,uu,go_sem,ab,ak];refine nh (rR A.mo A.Bw z (IP l) (by rw[al];lia) _ 1000) ?_;simp only[go_sem,ab,ak,PS.ke,al];refine NH A l (by lia) (id:=1005) (b:=2000) (q:=2) (n1:=Tz O) (n2:=Tz I) (p:=λs=> !J5 O I s) (by simp[Mem.put,PS.mem,ar]) (by simp[Mem.put,PS.mem,ar]) (by simp[Mem.put,PS.mem,ar]) (by lia) (by simp[Mem.put,PS.mem]) (by simp[Mem.put,PS.mem,ar]) (by simp[Mem.put,PS.mem,ar]) (by lia) (by lia) ?_ ?_
 ·intro x hx;obtain⟨B,D⟩:=hs x hx;exact PT A x B H G D
 intro m' v q1 q2 q3 q4;simp only[go_sem,ab,PS.ke];refine K5 [1005] ?_;simp only[vC,go_sem,ab,V.x7,C.x7,fa,kz,or_false,q1,q2,al];have E:(Ib O I l).length<=l.length:=tu _ _;have r:(l.filter λx=> !!J5 O I x)=Ib O I l:=rfl;rw[r]at q1|-;simp only[Gs]
 generalize Ib O I l=F at*
 refine wv (λs'=>s'.base=0/\s'.tmp 5= .d (.gd 2 ((Gx F F.length).map Ci))) ?_ ?_
 ·refine gf F.length (λi s'=>s'.base=0/\s'.tmp 1= .d (.gd 2 (F.map Ci))/\s'.tmp 5= .d (.gd 2 ((Gx F i).map Ci))/\s'.tmp 14= .d (.int aj F.length)/\s'.tmp 15= .d (.int aj i)) ?_ ?_
  ·simp only[go_sem,ab,q1,q2,al];rfl
  rintro i s' L ⟨m,o,g,f14,f15⟩;by_cases y:(i:Int)<F.length
  ·have w:i<F.length:=by lia
   have wi:=dr ((i:Int)+1) (by lia) (by lia)
   have t:i<=(F.map Ci).length:=by rw[al];lia
   have f:[F.drop i,F.take i].flatten=tM F i:=by simp[tM]
   have e:(tM F i).length=F.length:=by simp only[tM,dz,A0,ey];lia
   have c:=QA A [F.drop i,F.take i] (by rw[f];intro h;rw[h]at e;simp at e;lia) (by simp) (by rw[f,e];lia);have j:=Xe A (tM F i) (Gx F i) (by rw[e];lia) (by rw[Qu];lia);rw[f]at c;have u:afl (F.map Ci).length (F.map Ci)=F.map Ci:=fm;simp only[kh,uu,du,ic]at c j;rw[a1s,Mm]at c;simp only[go_sem,ab,ak,ao,reduceCtorEq,cw,m,o,f14,f15,y,bn,aw,t,u,aei];refine gq c ?_;simp only[go_sem,ab,g];refine Fw j ?_;have k:=aV F i;unfold Wd at k;by_cases n:Ng (tM F i) (Gx F i)<0
   ·rw[bc n]at k;simp only[go_sem,ab,reduceCtorEq,o,g,f14,f15,n,wi,w,k];simp
   rw[aq n]at k;simp only[go_sem,ab,reduceCtorEq,o,g,f14,f15,n,wi,w,k];simp
  have:i=F.length:=by lia
  subst this;simp only[go_sem,ab,reduceCtorEq,m,g,f14,f15,y]
 rintro s' ⟨m,g⟩;simp only[go_sem,m,g];refine gq (W2 A.mo A.Bw (IP _) (by rw[al,Qu];lia)) ?_;simp only[go_sem,ab]
end
structure a0o{α:Type}(f:α->α->Int):Prop where
 sym:∀a b,f a b<0<->0<f b a
 zero:∀a b,f a b=0<->a=b
 trans:∀a b c,f a b<0->f b c<0->f a c<0
theorem dU:a0o W1 where
 sym a b:=by unfold W1;split<;>split<;>(try split)<;>lia
 zero a b:=by unfold W1;split<;>(try split)<;>lia
 trans a b c:=by
   unfold W1;repeat' split
   all_goals lia
theorem U0{α:Type}{f:α->α->Int}(h:a0o f):a0o (Bs f):=by
 have sym:∀a b,Bs f a b<0<->0<Bs f b a:=by
  intro a
  induction a with
  |nil=>intro b;cases b<;>simp[Bs]
  |cons x r i=>
   intro b
   cases b with
   |nil=>simp[Bs]
   |cons y t=>
    simp only[Bs];have d:=h.zero x y;have g:=h.zero y x;have l:=h.sym x y;have m:=h.sym y x;by_cases e:f x y=0
    ·have k:f y x=0:=g.2 (d.1 e).symm;rw[bc e,bc k];exact i t
    have k:¬f y x=0:=λq=>e (d.2 (g.1 q).symm);rw[aq e,aq k];exact l
 have zero:∀a b,Bs f a b=0<->a=b:=by
  intro a
  induction a with
  |nil=>intro b;cases b<;>simp[Bs]
  |cons x r i=>
   intro b
   cases b with
   |nil=>simp[Bs]
   |cons y t=>
    simp only[Bs];have d:=h.zero x y;by_cases e:f x y=0
    ·rw[bc e,i t,d.1 e];simp
    rw[aq e];constructor
    ·intro q;exact absurd q e
    intro q;injection q with q1 q2;exact absurd (d.2 q1) e
 refine⟨sym,zero,?_⟩;intro a
 induction a with
 |nil=>
  intro b c d g
  cases c with
  |nil=>cases b with
   |nil=>exact d
   |cons y t=>simp[Bs]at g
  |cons z u=>simp[Bs]
 |cons x r i=>
  intro b c d g
  cases b with
  |nil=>simp[Bs]at d
  |cons y t=>
   cases c with
   |nil=>simp[Bs]at g
   |cons z u=>
    simp only[Bs]at d g|-;by_cases j:f x y=0
    ·rw[bc j]at d;have:=(h.zero x y).1 j;subst this;by_cases e2:f x z=0
     ·rw[bc e2]at g|-;exact i t u d g
     rw[aq e2]at g|-;exact g
    rw[aq j]at d;by_cases e2:f y z=0
    ·have:=(h.zero y z).1 e2;subst this;rw[aq j];exact d
    rw[aq e2]at g;have l:=h.trans x y z d g;rw[aq (by lia)];exact l
theorem Fv:a0o Ng:=by
 refine U0 ⟨λa b=>(U0 dU).sym _ _,λa b=>?_,λa b c=>(U0 dU).trans _ _ _⟩;rw[show W0 a b=Bs W1 [a.1,a.2] [b.1,b.2]from rfl,(U0 dU).zero];constructor
 ·intro h;simp at h;exact tq h.1 h.2
 rintro rfl;rfl
def IX:List (List Sp)->Prop:=List.Pairwise λa b=>¬(Ng b a<0)
theorem CY{a b:List Sp}(c:¬(Ng b a<0))(d:¬(Ng a b<0)):a=b:=by
 have:=Fv.sym a b;exact(Fv.zero a b).1 (by have:=Fv.sym b a;lia)
theorem tN{a b:List (List Sp)}(f:a.Perm b)(e:IX a)(hb:IX b):a=b:=
 f.eq_of_pairwise (λx y _ _ c d=>CY c d) e hb
def we(ls:List (List Sp)):List (List Sp):=ls.mergeSort λa b=>decide (¬(Ng b a<0))
theorem C2(ls:List (List Sp)):(we ls).Perm ls:=List.mergeSort_perm _ _
theorem BC{a b c:List Sp}(g:¬(Ng b a<0))(d:¬(Ng c b<0)):¬(Ng c a<0):=by
 intro h;by_cases e:Ng b a=0
 ·have:=(Fv.zero b a).1 e;subst this;exact d h
 have f:Ng a b<0:=(Fv.sym a b).2 (by lia);exact d (Fv.trans c a b h f)
theorem sP(ls:List (List Sp)):IX (we ls):=by
 have h:=List.pairwise_mergeSort (le:=λa b:List Sp=>decide (¬(Ng b a<0))) (λa b c d e=>by
  simp only[decide_eq_true_eq]at d e|-;exact BC d e) (λa b=>by
  have:=Fv.sym a b
  simp only[Oi,decide_eq_true_eq];lia) ls
 exact h.imp λh=>by simpa using h
end Go.PI
namespace Go.PI
open Go Go.RowKit
theorem Bel.grown{w w':World}(h:Bel True w.heap.size w w'):∃q os,w'=aer (w.drewN q) os:=by
 refine⟨w'.drawn-w.drawn,w'.heap.extract w.heap.size w'.heap.size,?_⟩;have d:=h.drawn trivial;have hs:=h.size
 have b:w'.heap=w.heap++w'.heap.extract w.heap.size w'.heap.size:=by
  apply Array.ext_getElem?;intro k;rw[Io];split
  ·rename_i a;exact h.block k a
  rename_i a;rw[gC];by_cases c:k<w'.heap.size
  ·rw[bc (by lia)]
   congr 1
   lia
  rw[aq (by lia),Array.getElem?_eq_none (by lia)]
 unfold aer World.drewN
 have e2:w.drawn+(w'.drawn-w.drawn)=w'.drawn:=by lia
 cases w'
 simp only[World.mk.injEq]at*
 exact⟨b,h.tape,e2.symm,h.os,h.output⟩
def El(G:ix):Type:={p:List Sp×Value//iz G (uu p.1) p.2/\p.1.length<=2^20}
instance(G:ix):Inhabited (El G):=⟨⟨([],.slice ae 0 0),.Y3,by simp⟩⟩
def El.enc{G:ix}(x:El G):Value:=x.1.2
def El.cf{G:ix}(x y:El G):Int:=Ng x.1.1 y.1.1
theorem El.one(G:ix):Go.Proofs.OneCell (El.enc (G:=G)):=λx=>iz.yI x.2.1 rfl
theorem El.swo(G:ix):Go.Sort.SWO (Go.Proofs.ltOf (El.cf (G:=G)))where
 irrefl x:=by
  have:=(Fv.zero x.1.1 x.1.1).2 rfl;simp[Go.Proofs.ltOf,El.cf,this]
 trans x y z h1 h2:=decide_eq_true (Fv.trans x.1.1 y.1.1 z.1.1 (of_decide_eq_true h1) (of_decide_eq_true h2))
 ntrans x y z h1 h2:=decide_eq_false (BC (of_decide_eq_false h2) (of_decide_eq_false h1))
section
variable{P:Program}(A:Pr3 P)
theorem qE(a b:List Sp)(c:a.length<=2^50)(hb:b.length<=2^50):iv P A.oh [uu a,uu b] (.int aj (Ng a b)):=by
 refine ez A.mo A.Yj (by simp) ?_;show l7 P (Jc A.jk A.vl) (ly _ _) _;have h:=Xe A a b c hb;simp only[uu]at h;simp only[Jc,uu,go_sem,ab,reduceCtorEq];refine Fw h ?_;simp only[go_sem,ab]
end
section
variable{P:Program}{G:ix}{w:World}{di:Nat}{cells:Array Value}{et:TypeId}
theorem GR(a:w.heap[di]? =aa (.cells cells et (0,0))){m:Nat}{dk:Array (El G)}{os:Array Obj}:
  (gA El.enc w di 0 m dk os).heap=w.heap.modify di (Go.Sort.onCells (Dx El.enc 0 dk))++os/\
  (∀k,k<w.heap.size->k≠di->(gA El.enc w di 0 m dk os).heap[k]? =w.heap[k]?)/\
  (gA El.enc w di 0 m dk os).heap[di]? =aa (.cells (Dx El.enc 0 dk cells) et (0,0)):=by
 have hb:di<w.heap.size:=(la.1 a).1;have e:(gA El.enc w di 0 m dk os).heap=w.heap.modify di (Go.Sort.onCells (Dx El.enc 0 dk))++os:=rfl;refine⟨e,λk b c=>?_,?_⟩
 ·rw[e,Bn (by simpa using b),Em,aq (λq=>c q.symm)]
 rw[e,Bn (by simpa using hb),Em,bc rfl,a];rfl
theorem OR(a:GOk G w)(d:w.heap[di]? =aa (.cells cells et (0,0)))(g:∀o,G.cv di o=ae){m:Nat}{dk:Array (El G)}{os:Array Obj}:GOk G (gA El.enc w di 0 m dk os)where
 cv b o v hv:=by
  have e:=a.lt hv
  have f:b≠di:=λq=>by rw[q,g]at hv;cases hv
  have:=a.cv b o v hv;unfold aet at this|-;rw[(GR d).2.1 b e f];exact this
 mv b es hv:=by
  obtain⟨ents,clock,c,h⟩:=a.mv b es hv;have e:=a.ltm hv
  have f:b≠di:=λq=>by rw[q,d]at c;cases c
  exact⟨ents,clock,by rw[(GR d).2.1 b e f];exact c,h⟩
end
end Go.PI
namespace Go.PI
open Go Go.RowKit Go.Proofs
section
variable{P:Program}(A:Pr3 P){ρ:aed}
theorem W3{f:Nat}{B:Func}(h:Bears P f B)(hb:B.body.isSome=ah):B3 P f=true:=by
 obtain⟨c,a,b⟩:=h;unfold B3;rw[b];simp only[dc,bne,a,Mz,true_and];exact hb
def Wa(m:Mem)(id:Nat)(ls:List (List Sp)):Mem:=⟨lu m.di id (aa (.arr 1 ((we ls).map λl=>[uu l]))),m.ba,m.mp⟩
theorem CO(L:afc P ρ)(hρ:ρ.f 6=A.ia)(ls:List (List Sp))(a0:ls.length<=2^20)(N:∀l∈ls,l.length<=2^20){m:Mem}{id ba:Nat}(hb:m.di id=aa (.arr 1 (ls.map λl=>[uu l])))(h:m.ba id=ba):
  sl P A.ia m [.ref id ba ls.length,.d (.qb A.oh [])] (Wa m id ls) (.d (.Bb [])):=by
 refine⟨by rw[<-hρ];exact W3 L.f6 rfl,λs B0 w0 nt G0 G E a w vs hs D hl Iw=>?_⟩;subst hs;have S:s.di id=aa (.arr 1 (ls.map λl=>[uu l])):=hb;have En:vs.size=2:=hl;have h0:=Iw 0 _ vs[0] rfl (bz (by lia));have n:=Iw 1 _ vs[1] rfl (bz (by lia));obtain⟨_,k2⟩:=h0.2 h _ _ (yf S);obtain⟨cap,c1,c2,e0⟩:=k2 (by simp)
 have V:vs[1]= .func (.func A.oh) #[] #[]:=by
  generalize vs[1]=v1 at n
  cases n with
  |qb hz _=>rw[Yy hz]
 have ev:vs= #[.slice (aa ⟨E.b id,0,ae⟩) ls.length cap,.func (.func A.oh) #[] #[]]:=by
  apply Array.ext (by simpa using En);intro i n C
  match i,n with
  |0,_=>exact e0
  |1,_=>exact V
  |i+2,n=>lia
 subst ev;obtain⟨cells,et,J,hn,hc,hw⟩:=D.zp S;obtain⟨hB,D6,_⟩:=D.di id _ S
 have Jk:ls.length<=cells.size:=by have:=hc.1;simpa using this
 have p:∀i (K:i<ls.length),iz G (uu ls[i]) (cells[i]'(by lia)):=λi K=>hc.2.2 i [uu ls[i]] 0 _ _ (by simp[K]) rfl (by simp)
 let f:Fin ls.length->El G:=λi=>⟨(ls[i],cells[i]'(by lia)),p i i.2,N _ (dj _)⟩
 obtain⟨d,O⟩:∃d:Array (El G),d=Array.ofFn f:=⟨_,rfl⟩
 have g:d.size=ls.length:=by rw[O];exact Array.size_ofFn
 have B:∀j (M:j<ls.length),d[j]! =⟨(ls[j],cells[j]'(by lia)),p j M,N _ (dj _)⟩:=by
  intro j M;rw[getElem!_pos d j (by lia)];subst O;exact Array.getElem_ofFn _
 have F:E.b id<w.heap.size:=(la.1 J).1
 have hH:Go.Sort.Holds El.enc w (E.b id) 0 d:=by
  intro j M;rw[g]at M;rw[B j M,gj,hw,bz (by lia)];refine⟨rfl,?_⟩;unfold World.frozen?;rw[J];simp
 have zS:CmpLays1 P A.oh #[] (El.enc (G:=G)) El.cf (E.b id) 0 d.size w:=by
  intro mm os dk hs x y
  have hp:=(qE A x.1.1 y.1.1 (jg x.2.2 (by lia)) (jg y.2.2 (by lia))).2 G (sortWorld El.enc w (E.b id) 0 mm dk os) #[El.enc x,El.enc y] (OR D.gok J D6) rfl (by
   intro i z v hz h
   match i,hz,h with
   |0,hz,h=>simp at hz h;subst hz h;exact x.2.1
   |1,hz,h=>simp at hz h;subst hz h;exact y.2.1
   |i+2,hz,h=>simp at hz)
  refine hp.mono ?_;rintro e w' ⟨v,G',rfl,_,_,_,EK,O⟩;cases O;exact⟨rfl,EK.grown⟩
 have Kv:=Any.slices_SortFunc L El.enc (El.one G) El.cf (El.swo G) A.oh #[] (E.b id) 0 cap d w (λargs w=>Lf (qE A [] [] (by simp) (by simp)).1 args) zS hH F (by lia);rw[hρ,g]at Kv;refine Kv.mono ?_;rintro e w' ⟨rfl,c,R,os,⟨p1,p2,p3⟩,q,rfl⟩;refine⟨_,G,E,rfl,?_,iz.Bb rfl (by simp)⟩;have t:c.size=ls.length:=p1.trans g
 have T:c.toList.Perm d.toList:=by
  have V:c.extract 0 ls.length=c:=by rw[<-t];simp
  have e2:d.extract 0 ls.length=d:=by rw[<-g];simp
  rwa[V,e2]at p3
 have SO:d.toList.map (λx:El G=>x.1.1)=ls:=by
  apply Xt
  ·simp[g]
  intro i n C;have:=B i C;rw[getElem!_pos d i (by lia)]at this;simp only[Gy,sL,this]
 have U:c.toList.map (λx:El G=>x.1.1)=we ls:=by
  refine tN ?_ ?_ (sP ls)
  ·have:=T.map λx:El G=>x.1.1;rw[SO]at this;exact this.trans (C2 ls).symm
  unfold IX;rw[U5,Cy];intro i j n C Js;have:=q i j (aei _) Js (by rw[x9]at C;lia);rw[getElem!_pos c i (by simpa using n),getElem!_pos c j (by simpa using C)]at this;have h3:=of_decide_eq_false this;simp only[sL];exact h3
 have zN:(we ls).length=ls.length:=(C2 ls).length_eq
 have uQ:∀i (K:i<ls.length),(we ls)[i]'(by lia)=(c[i]!).1.1:=by
  intro i K;rw[getElem!_pos c i (by lia)];simp only[<-U,Gy,sL]
 have Y:∀k (o:k<ls.length),(Dx El.enc 0 c cells)[k]? =aa (El.enc c[k]!):=by
  intro k o;unfold Dx;rw[Array.getElem?_mapIdx,bz (by lia)];simp only[jc,aei,gj,true_and,Wt,t,o,da]
 have r:(Dx El.enc 0 c cells).size=cells.size:=by unfold Dx;exact Array.size_mapIdx
 have hT:Bh w (sI w (E.b id) (Dx El.enc 0 c)) (E.b id) (.cells (Dx El.enc 0 c cells) et (0,0)):=by
  refine⟨rfl,rfl,rfl,rfl,by simp[sI],λk o=>?_,?_⟩
  ·unfold sI;rw[Em,aq λq=>o q.symm]
  unfold sI;rw[Em,bc rfl,J];rfl
 have W:Go.PI.Holds G E s (Dx El.enc 0 c cells) (.arr 1 ((we ls).map λl=>[uu l])):=by
  refine⟨by rw[r];simpa[zN]using Jk,λi e H=>?_,λi e j x u H hx Q=>?_⟩
  ·simp only[dn,ax]at H;obtain⟨l,_,rfl⟩:=H;rfl
  simp only[dn,ax]at H;obtain⟨l,X,rfl⟩:=H;obtain⟨K,rfl⟩:=bd.1 X
  have F7:i<ls.length:=by lia
  cases j with
  |succ j=>simp at hx
  |zero=>
   simp only[iw,av]at hx;subst hx;rw[Nat.mul_one,Ad,Y i F7]at Q
   injection Q with Q
   subst Q;rw[uQ i F7];exact(c[i]!).2.1
 have hf:=D.set S (Alike.arr (by simp[zN])) hT (by rw[r];exact hn) W;have Z:sortWorld El.enc w (E.b id) 0 R c os=aer ((sI w (E.b id) (Dx El.enc 0 c)).drewN R) os:=rfl;have I:=OR D.gok J D6 (m:=R) (dk:=c) (os:=os);rw[Z]at I|-;refine hf.nC (w':=aer ((sI w (E.b id) (Dx El.enc 0 c)).drewN R) os) ⟨⟨rfl,rfl,rfl,?_,λk o=>?_⟩,λ_=>Nat.le_add_right _ _⟩ (ix.me _) I (λ_ _ _=>rfl) (λ_ _=>rfl)
 ·show _<=(_++os).size;rw[Xw];exact Nat.le_add_right _ _
 exact Bn o
theorem KO(L:afc P ρ)(h:ρ.f 6=A.ia)(m:Mem):sl P A.ia m [.d .cj,.d (.qb A.oh [])] m (.d (.Bb [])):=by
 refine⟨by rw[<-h];exact W3 L.f6 rfl,λs B0 w0 q o G E a w vs hs l n k=>?_⟩;have j:vs.size=2:=n;have c:=k 0 _ vs[0] rfl (bz (by lia))
 have e0:vs[0]= .slice ae 0 0:=by
  generalize vs[0]=v0 at c;cases c;rfl
 have ev:vs= #[.slice ae 0 0,vs[1]]:=by
  apply Array.ext (by simpa using j);intro i g p
  match i,g with
  |0,_=>exact e0
  |1,_=>rfl
  |i+2,g=>lia
 rw[ev];have b:=AnyF.slices_SortFunc_none (P:=P) (ρ:=ρ) {L with} ae 0 vs[1] w;rw[h]at b;refine b.mono ?_;rintro e w' ⟨rfl,rfl⟩;refine⟨_,G,E,rfl,?_,iz.Bb rfl (by simp)⟩;subst hs;exact l
theorem xG(L:afc P ρ)(j:ρ.f 6=A.ia)(ls:List (List Sp))(d:ls.length<=2^20)(e:∀l∈ls,l.length<=2^20){m:Mem}{id ba:Nat}(hb:m.di id=aa (.arr 1 (ls.map λl=>[uu l])))(g:m.ba id=ba)(b:Nat):
  sl P A.ny m [.ref id ba ls.length] (Wa m id ls) (.ref id ba ls.length):=by
 have hs:=CO A L j ls d e hb g;have k:(we ls).length=ls.length:=(C2 ls).length_eq;refine mz A.mo A.Sv (by simp) b (λc=>?_) (λi=>bm _) (λi b' a=>?_) (λi es h=> .inl h) (by simp[Im,Wa,g])
 ·show l7 P (Ew A.ia A.oh) (yu m [.tmp 2] _ _) _;simp only[Ew,enter,go_sem,ab,reduceCtorEq];refine nh hs ?_;simp only[go_sem,ab,reduceCtorEq,PS.ke,qz,uq];exact λi=>⟨.inr ⟨rfl,rfl⟩,.inr ⟨rfl,rfl⟩⟩
 simp only[Wa,ar]at a;split at a
 ·injection a with a;subst a;exact .inr trivial
 exact .inl a
theorem eN(L:afc P ρ)(e:ρ.f 6=A.ia)(m:Mem)(b:Nat):sl P A.ny m [.d .cj] m (.d .cj):=by
 have hs:=KO A L e m;refine mz A.mo A.Sv (by simp) b (λc=>?_) (λi=>bm _) (λi b' g=> .inl g) (λi es a=> .inl a) trivial;show l7 P (Ew A.ia A.oh) (yu m [.tmp 2] _ _) _;simp only[Ew,enter,go_sem,ab,reduceCtorEq];refine nh hs ?_;simp only[go_sem,ab,reduceCtorEq,PS.ke,qz,uq];exact λi=>⟨.inr ⟨rfl,rfl⟩,.inr ⟨rfl,rfl⟩⟩
end
end Go.PI
namespace Go.PI
theorem kJ{α:Type}{a b:List α}(c:a.length=b.length)(h:∀i (d:i<a.length) (e:i<b.length),a[i]=b[i]):a=b:=Xt c h
theorem OY{a b:Sp}:(a.1==b.1&&a.2==b.2)=decide (a=b):=by
 rw[Uh];simp only[dc,beq_iff_eq,decide_eq_true_eq];exact⟨λh=>tq h.1 h.2,λh=>by subst h;exact⟨rfl,rfl⟩⟩
section
variable{P:Program}(A:Pr3 P)
theorem XD(a b:List Sp)(z:a.length<=2^50)(hb:b.length<=2^50):iv P A.j7 [uu a,uu b] (.bool (decide (a=b))):=by
 refine ez A.mo A.P2 (by simp) ?_;show l7 P yo (ly _ _) _;by_cases r:a.length=b.length
 ·have f:((a.length:Int) !=b.length)=false:=by simp[r]
  simp only[yo,uu,go_sem,ab,reduceCtorEq,al,f];refine wv (λs'=>a=b) ?_ ?_
  ·refine gf a.length (λi s'=>s'.tmp 0= .d (.gd 2 (a.map Ci))/\s'.tmp 1= .d (.gd 2 (b.map Ci))/\s'.tmp 12= .d (.int aj a.length)/\s'.tmp 13= .d (.int aj i)/\∀k (j:k<a.length) (l:k<b.length),k<i->a[k]=b[k]) ?_ ?_
   ·simp only[go_sem,ab,reduceCtorEq];exact λk _ _ h=>absurd h (a8m _)
   rintro i s' B ⟨v,w,c,e,x⟩;by_cases s:(i:Int)<a.length
   ·have n:i<a.length:=by lia
    have u:i<b.length:=by lia
    have wi:=dr ((i:Int)+1) (by lia) (by lia);have o:=Es n;have p:=Es u
    have y:a.getD i (0,0)=a[i]:=by simp[cz,n]
    have e2:b.getD i (0,0)=b[i]:=by simp[cz,u]
    rw[y]at o;rw[e2]at p;have g:(a[i].1==b[i].1&&a[i].2==b[i].2)=decide (a[i]=b[i]):=OY;by_cases m:a[i]=b[i]
    ·rw[decide_eq_true m]at g;simp only[go_sem,ab,ak,reduceCtorEq,v,w,c,e,s,o,p,bn,aw,wi,n,g];refine⟨by simp,λk j l q=>?_⟩;rcases Xq.1 q with q|rfl
     ·exact x k j l q
     exact m
    have t:decide (a=b)=false:=decide_eq_false λh=>m (by subst h;rfl);rw[decide_eq_false m]at g;simp only[go_sem,ab,ak,reduceCtorEq,v,w,c,e,s,o,p,bn,aw,g,t]
   have:i=a.length:=by lia
   subst this;simp only[go_sem,reduceCtorEq,c,e,s];exact kJ r λk j l=>x k j l j
  rintro s' g;have:decide (a=b)=true:=decide_eq_true g;simp only[go_sem,this]
 have f:((a.length:Int) !=b.length)=true:=by simp;lia
 have t:decide (a=b)=false:=decide_eq_false λh=>r (by rw[h]);simp only[yo,uu,go_sem,ab,reduceCtorEq,al,f,t]
theorem xQ(a b:List (List Sp))(E:a.length<=2^50)(hb:b.length<=2^50)(o:∀l∈a,l.length<=2^50)(p:∀l∈b,l.length<=2^50):iv P A.iu [kh a,kh b,.qb A.j7 []] (.bool (decide (a=b))):=by
 refine ez A.mo A.Br (by simp) ?_;show l7 P nq (ly _ _) _;by_cases r:a.length=b.length
 ·have f:((a.length:Int) !=b.length)=false:=by simp[r]
  simp only[nq,kh,go_sem,ab,reduceCtorEq,al,f];refine wv (λs'=>a=b) ?_ ?_
  ·refine gf a.length (λi s'=>s'.tmp 15= .d (.gd 1 (a.map λl=>[uu l]))/\s'.tmp 1= .d (.gd 1 (b.map λl=>[uu l]))/\s'.tmp 2= .d (.qb A.j7 [])/\s'.tmp 16= .d (.int aj a.length)/\s'.tmp 17= .d (.int aj i)/\∀k (g:k<a.length) (m:k<b.length),k<i->a[k]=b[k]) ?_ ?_
   ·simp only[go_sem,ab];exact λk _ _ h=>absurd h (a8m _)
   rintro i s' F ⟨u,v,w,c,e,y⟩;by_cases z:(i:Int)<a.length
   ·have t:i<a.length:=by lia
    have B:i<b.length:=by lia
    have wi:=dr ((i:Int)+1) (by lia) (by lia);have C:=Fo t;have D:=Fo B;have x:=XD A a[i] b[i] (o _ (dj _)) (p _ (dj _));simp only[uu]at x;simp only[go_sem,ab,reduceCtorEq,u,v,w,c,e,z,C,D,bn,aw];refine Q2 x ?_;by_cases n:a[i]=b[i]
    ·have j:decide (a[i]=b[i])=true:=decide_eq_true n;simp only[go_sem,ab,reduceCtorEq,u,v,w,c,e,j,wi,t];refine⟨by simp,λk g m q=>?_⟩;rcases Xq.1 q with q|rfl
     ·exact y k g m q
     exact n
    have j:decide (a[i]=b[i])=false:=decide_eq_false n;have s:decide (a=b)=false:=decide_eq_false λh=>n (by subst h;rfl);simp only[go_sem,ab,j,s]
   have:i=a.length:=by lia
   subst this;simp only[go_sem,reduceCtorEq,c,e,z];exact kJ r λk g m=>y k g m g
  rintro s' j;have:decide (a=b)=true:=decide_eq_true j;simp only[go_sem,this]
 have f:((a.length:Int) !=b.length)=true:=by simp;lia
 have s:decide (a=b)=false:=decide_eq_false λh=>r (by rw[h]);simp only[nq,kh,go_sem,ab,reduceCtorEq,al,f,s]
theorem CT:iv P A.iu [.cj,.cj,.qb A.j7 []] (.bool ah):=by
 refine ez A.mo A.Br (by simp) ?_;show l7 P nq (ly _ _) _;simp only[nq,go_sem,ab,reduceCtorEq,bne_self_eq_false];refine wv (λs'=>True) ?_ ?_
 ·refine gf 0 (λi s'=>s'.tmp 16= .d (.int aj 0)/\s'.tmp 17= .d (.int aj 0)) ?_ ?_
  ·simp only[go_sem,ab]
  rintro i s' c ⟨a,b⟩;simp only[go_sem,reduceCtorEq,a,b]
 rintro s' _;simp only[go_sem]
end
theorem r9{a b:Sp}:w9 a b=ah<->a=b:=by
 unfold w9;rw[OY,decide_eq_true_eq]
theorem GM(b k v:Sp):∀L:Adj,D8 b (vb k v L)=if w9 b k then aa ((D8 b L).getD []++[v])else D8 b L:=by
 intro L
 induction L with
 |nil=>
  simp only[vb,D8];split<;>simp
 |cons x r e=>
  obtain⟨a,l⟩:=x;simp only[vb];by_cases h:w9 k a=ah
  ·rw[bc h];have:=r9.1 h;subst this;simp only[D8];split
   ·simp
   rfl
  rw[aq h];simp only[D8];by_cases c:w9 b a=ah
  ·have:=r9.1 c;subst this
   have d:¬(w9 b k=ah):=λq=>h (by have:=r9.1 q;subst this;exact r9.2 rfl)
   rw[aq d,bc c,bc c]
  rw[aq c,e,aq c]
def outs(es:List Ed)(b:Sp):List Sp:=(es.filter λe=>w9 b e.1).map (·.2)
def ins(es:List Ed)(b:Sp):List Sp:=(es.filter λe=>w9 b e.2).map (·.1)
theorem IJ(f:Ed->Sp×Sp)(b:Sp)(es:List Ed):D8 b (es.foldl (λL e=>vb (f e).1 (f e).2 L) [])=if(es.filter λe=>w9 b (f e).1)=[]then ae else aa ((es.filter λe=>w9 b (f e).1).map λe=>(f e).2):=by
 have:∀r:List Ed,D8 b ((r.reverse).foldl (λL e=>vb (f e).1 (f e).2 L) [])=if(r.reverse.filter λe=>w9 b (f e).1)=[]then ae else aa ((r.reverse.filter λe=>w9 b (f e).1).map λe=>(f e).2):=by
  intro r
  induction r with
  |nil=>rfl
  |cons e r c=>
   rw[oq,qu,Jy];simp only[yb,a5l,GM,c,Bl,List.filter_nil];by_cases h:w9 b (f e).1=ah
   ·simp only[h,da,List.append_eq_nil_iff,List.cons_ne_self,and_false,bp,fj,du,ic];split
    ·rename_i a;rw[a];rfl
    rfl
   simp only[h,bp,pt,gp]
 have h:=this es.reverse
 rwa[ue]at h
theorem IH(b:Sp)(es:List Ed)(h:∃e∈es,e.1=b):D8 b (xa es)=aa (outs es b):=by
 have:=IJ (λe=>(e.1,e.2)) b es;unfold xa outs;rw[this,aq];obtain⟨e,d,rfl⟩:=h;intro c;have:e∈es.filter λa=>w9 e.1 a.1:=ya.2 ⟨d,r9.2 rfl⟩;rw[c]at this;simp at this
theorem EP(b:Sp)(es:List Ed)(h:∃e∈es,e.2=b):D8 b (D5 es)=aa (ins es b)/\ins es b≠[]:=by
 have:=IJ (λe=>(e.2,e.1)) b es;obtain⟨e,g,rfl⟩:=h;have c:e∈es.filter λa=>w9 e.2 a.2:=ya.2 ⟨g,r9.2 rfl⟩
 have d:(es.filter λa=>w9 e.2 a.2)≠[]:=λf=>by rw[f]at c;simp at c
 unfold D5 ins;rw[this,aq d];exact⟨rfl,by simpa using d⟩
theorem Cq{es:List Ed}{b x:Sp}:x∈outs es b<->(b,x)∈es:=by
 unfold outs;rw[j6];constructor
 ·rintro⟨e,d,rfl⟩;obtain⟨a,c⟩:=ya.1 d;have:=r9.1 c;subst this;exact a
 intro h;exact⟨(b,x),ya.2 ⟨h,r9.2 rfl⟩,rfl⟩
theorem HU{es:List Ed}{b x:Sp}:x∈ins es b<->(x,b)∈es:=by
 unfold ins;rw[j6];constructor
 ·rintro⟨e,d,rfl⟩;obtain⟨a,c⟩:=ya.1 d;have:=r9.1 c;subst this;exact a
 intro h;exact⟨(x,b),ya.2 ⟨h,r9.2 rfl⟩,rfl⟩
theorem uA(b a:Sp):∀(r:List Sp) (h:Sp),r.foldl (xu b a) h∈h::r:=by
 intro r
 induction r with
 |nil=>intro h;simp
 |cons x t e=>
  intro h;rw[yb];have:=e (xu b a h x)
  have c:xu b a h x=h\/xu b a h x=x:=by unfold xu;split<;>simp
  rcases c with c|c<;>rw[c]at this|-
  ·rcases fa.1 this with d|d
   ·rw[d];simp
   simp[d]
  exact sD _ this
theorem DO(h:Sp)(r:List Sp)(a b:Sp):cJ (h::r) a b∈h::r:=uA b (dq a b) r h
def zt(es:List Ed):Prop:=(∀e∈es,∃f∈es,f.1=e.2)/\∀e∈es,∃f∈es,f.2=e.1
def Cc(es:List Ed)(e:Ed):Ed:=(e.2,cJ (outs es e.2) e.1 e.2)
theorem aJ{es:List Ed}(d:zt es){e:Ed}(g:e∈es):Cc es e∈es:=by
 obtain⟨f,i,c⟩:=d.1 e g;unfold Cc;have a:f.2∈outs es e.2:=Cq.2 (by rw[<-c];exact i)
 cases b:outs es e.2 with
 |nil=>rw[b]at a;simp at a
 |cons h r=>exact Cq.1 (by rw[b];exact DO h r e.1 e.2)
def Aj(es:List Ed):Nat->List Ed->Ed->List Sp×List Ed
 |0,u,_=>([],u)
 |n+1,u,e=>if Md u e then([],u)else((e.1::(Aj es n (u++[e]) (Cc es e)).1),(Aj es n (u++[e]) (Cc es e)).2)
theorem F3{u:List Ed}{e:Ed}:Md u e=ah<->e∈u:=by
 unfold Md;rw[Bm];constructor
 ·rintro⟨f,a,h⟩
  have:e=f:=by
   unfold X6 at h;simp only[dc,beq_iff_eq]at h;exact tq (tq h.1 h.2.1) (tq h.2.2.1 h.2.2.2)
  subst this;exact a
 intro h;exact⟨e,h,by simp[X6]⟩
theorem qW{α:Type}[DecidableEq α]:∀{u es:List α},u.Nodup->(∀x∈u,x∈es)->u.length<=es.length:=by
 intro u
 induction u with
 |nil=>intro es _ _;simp
 |cons x r b=>
  intro es a hs;rw[VM]at a;have c:=b (es:=es.erase x) a.2 λy hy=>(List.mem_erase_of_ne (λh=>by subst h;exact a.1 hy)).2 (hs y (by simp[hy]));have d:=List.length_erase_of_mem (hs x (by simp));have e:=List.length_pos_of_mem (hs x (by simp));simp only[cq];lia
def yn(es:List Ed)(x:List Ed×List (List Sp))(s:Ed):List Ed×List (List Sp):=
 if Md x.1 s then x else((Aj es (es.length+1) x.1 s).2,x.2++[Gs (xa es) (D5 es) (Aj es (es.length+1) x.1 s).1])
def yp(es:List Ed)(k:Nat):List Ed×List (List Sp):=(es.take k).foldl (yn es) ([],[])
theorem fP{es:List Ed}{k:Nat}(h:k<es.length):yp es (k+1)=yn es (yp es k) (es.getD k e0):=by
 unfold yp;rw[j3,qu];simp[h,cz]
end Go.PI
namespace Go.PI
open Go Go.Proofs
theorem Z0{es:List Ed}(g:zt es):∀(n:Nat) (u:List Ed) (e:Ed),u.Nodup->(∀x∈u,x∈es)->e∈es->
  (Aj es n u e).2.Nodup/\(∀x∈(Aj es n u e).2,x∈es)/\(Aj es n u e).1.length<=n/\∀p∈(Aj es n u e).1,∃f∈es,f.1=p:=by
 intro n
 induction n with
 |zero=>intro u e a b _;exact⟨a,b,by simp[Aj],by simp[Aj]⟩
 |succ n k=>
  intro u e a b c;unfold Aj;split
  ·exact⟨a,b,by simp,by simp⟩
  rename_i i;have j:e∉u:=λh=>i (F3.2 h)
  obtain⟨l,m,r,o⟩:=k (u++[e]) (Cc es e) (by
   rw[Xs]
   exact⟨a,by simp,λx hx y hy=>by simp at hy;subst hy;exact λq=>j (q▸hx)⟩) (λx hx=>by
   rcases jz.1 hx with hx|hx
   ·exact b x hx
   simp at hx;subst hx;exact c) (aJ g c)
  refine⟨l,m,by simp only[cq];lia,λp d=>?_⟩;rcases fa.1 d with rfl|d
  ·exact⟨e,c,rfl⟩
  exact o p d
theorem JO{es:List Ed}{n:Nat}{u:List Ed}{e:Ed}(h:Md u e=ag):(Aj es (n+1) u e).1≠[]:=by
 unfold Aj;rw[h];simp
theorem U1{es:List Ed}(e:zt es):∀k,k<=es.length->(yp es k).1.Nodup/\(∀x∈(yp es k).1,x∈es)/\(yp es k).2.length<=k/\∀l∈(yp es k).2,l.length<=es.length+1:=by
 intro k
 induction k with
 |zero=>intro _;simp[yp]
 |succ k g=>
  intro n;obtain⟨b,c,m,d⟩:=g (by lia);rw[fP (by lia)];unfold yn;split
  ·exact⟨b,c,by lia,d⟩
  have f:es.getD k e0∈es:=by
   have:es.getD k e0=es[k]'(by lia):=by simp[cz,show k<es.length by lia]
   rw[this];exact dj _
  obtain⟨h,i,j,o⟩:=Z0 e (es.length+1) _ _ b c f;refine⟨h,i,by simp only[dz,cq,ew];lia,λl a=>?_⟩;rcases jz.1 a with a|a
  ·exact d l a
  simp only[Q9]at a;subst a;unfold Gs;rw[Qu];exact jg (tu _ _) j
theorem iU(f:Ed->Sp×Sp)(es:List Ed):∀p∈es.foldl (λL e=>vb (f e).1 (f e).2 L) [],∀q∈p.2,∃e∈es,(f e).2=q:=by
 have put:∀(k v:Sp) (L:Adj) (Q:Sp->Prop),(∀p∈L,∀q∈p.2,Q q)->Q v->∀p∈vb k v L,∀q∈p.2,Q q:=by
  intro k v L Q
  induction L with
  |nil=>intro _ d p b q c;simp[vb]at b;subst b;simp at c;subst c;exact d
  |cons x r m=>
   obtain⟨a,l⟩:=x;intro h d p b q c;simp only[vb]at b;split at b
   ·rcases fa.1 b with rfl|b
    ·rcases jz.1 c with c|c
     ·exact h (a,l) (by simp) q c
     simp at c;subst c;exact d
    exact h p (by simp[b]) q c
   rcases fa.1 b with rfl|b
   ·exact h (a,l) (by simp) q c
   exact m (λp b=>h p (by simp[b])) d p b q c
 have:∀r:List Ed,∀p∈(r.reverse).foldl (λL e=>vb (f e).1 (f e).2 L) [],∀q∈p.2,∃e∈r,(f e).2=q:=by
  intro r
  induction r with
  |nil=>intro p b;simp at b
  |cons e r m=>
   rw[oq,qu];simp only[yb,a5l];exact put _ _ _ (λq=>∃g∈e::r,(f g).2=q) (λp b q c=>by obtain⟨g,i,j⟩:=m p b q c;exact⟨g,by simp[i],j⟩) ⟨e,by simp,rfl⟩
 intro p b q c;obtain⟨e,i,j⟩:=this es.reverse p (by rw[ue];exact b) q c;exact⟨e,by simpa using i,j⟩
theorem u0.x7{s:PS}{id sz:Nat}{dv:List (List D)}{v:V}{ids:List Nat}(h:u0 s id sz dv v)(c:ids≠[])(b:id∉ids):u0 (s.x7 ids) id sz dv (v.x7 s ids):=by
 rcases h with ⟨a,rfl⟩|⟨a,rfl,d⟩
 ·exact .inl ⟨a,rfl⟩
 refine .inr ⟨a,?_,?_⟩
 ·rw[aK c];simp only[V.x7,C.x7,aq b,C.toV]
 rw[L9 c b];simp only[Hm,d]
theorem a4w(s:PS)(ids:List Nat)(u:List Ed):(u.map cM).map (λe=>(e.1,C.x7 s ids e.2))=u.map cM:=by
 rw[JE];exact Nj λe _=>rfl
section
variable{P:Program}(A:Pr3 P){ρ:aed}
def nN(mo b:List (D×D))(es:List Ed)(a:List (List Sp))(i:Nat)(s':PS):Prop:=
 s'.base=0/\s'.tmp 2= .gz 2 (s'.ba 2) 0/\s'.di 2=aa (.loc [.d .cj])/\s'.tmp 3= .gz 3 (s'.ba 3) 0/\s'.di 3=aa (.loc [.d (.map mo),.d (.map b)])/\
 s'.tmp 4= .o8 12 (s'.ba 12)/\s'.tmp 13= .d (.gd 4 (es.map Ep))/\s'.tmp 14= .d (.int aj es.length)/\s'.tmp 15= .d (.int aj i)/\u0 s' 49 1 (a.map λl=>[uu l]) (s'.tmp 5)
theorem xI(L:afc P ρ)(hρ:ρ.f 6=A.ia)(es:List Ed)(d4:es.length<=1000)(hc:zt es)(B:∀e∈es,SmL e.1/\SmL e.2):
  iv P A.xf [T3 es] (.agg [if(yp es es.length).2=[]then .cj else kh (we (yp es es.length).2)]):=by
 refine ez A.mo A.X3 (by simp) ?_;show l7 P (Ik A.ve A.Ap A.qa A.ny) (ly _ _) _;have hn:=HB A es (by lia);obtain⟨mo,a1⟩:∃m,Tz (xa es)= .map m:=⟨_,rfl⟩;obtain⟨mi,a0⟩:∃m,Tz (D5 es)= .map m:=⟨_,rfl⟩;simp only[T3,a09,a1,a0]at hn;simp only[Ik,T3,go_sem,ab,reduceCtorEq];refine gq hn ?_;simp only[go_sem,ab,ak,reduceCtorEq];refine wv (λs'=>nN mo mi es (yp es es.length).2 es.length s') ?_ ?_
 ·refine gf es.length (λi s'=>nN mo mi es (yp es i).2 i s'/\s'.mp 12=aa ((yp es i).1.map cM)) ?_ ?_
  ·simp only[nN,go_sem,ab,al];exact⟨u0.nil,rfl⟩
  rintro i s' hi ⟨⟨t,v,b2,F,b3,w,c,f14,f15,acc⟩,j⟩;by_cases ju:(i:Int)<es.length
  ·have ep:i<es.length:=by lia
   have wi:=dr ((i:Int)+1) (by lia) (by lia);have hg:=Et ep
   have a8:es.getD i e0∈es:=by
    have:es.getD i e0=es[i]:=by simp[cz,ep]
    rw[this];exact dj _
   obtain⟨u1,u2,u3,u4⟩:=U1 hc i (by lia);have M:=fP ep;unfold yn at M
   generalize d6:es.getD i e0=s0 at*
   have o:=iR s0 (yp es i).1;simp only[Ep]at o;cases hm:Md (yp es i).1 s0
   ·rw[hm]at M o;simp only[gp,bp]at M o;simp only[go_sem,ab,ak,reduceCtorEq,PS.ents,cy,Lc,t,w,c,f14,f15,j,ju,hg,bn,aw,o];refine wv (λb=>nN mo mi es (yp es i).2 i b/\b.mp 12=aa ((Aj es (es.length+1) (yp es i).1 s0).2.map cM)/\u0 b 42 2 ((Aj es (es.length+1) (yp es i).1 s0).1.map Ci) (b.tmp 8)) ?_ ?_
    ·refine gf (es.length+1) (λk b=>∃(u:List Ed) (e:Ed) (ac:List Sp),nN mo mi es (yp es i).2 i b/\b.mp 12=aa (u.map cM)/\b.tmp 9= .gz 9 (b.ba 9) 0/\b.di 9=aa (.loc [.d (.int aj e.1.1),.d (.int aj e.1.2),.d (.int aj e.2.1),.d (.int aj e.2.2)])/\u0 b 42 2 (ac.map Ci) (b.tmp 8)/\
      u.Nodup/\(∀x∈u,x∈es)/\e∈es/\u.length=(yp es i).1.length+k/\ac.length=k/\Aj es (es.length+1) (yp es i).1 s0=(ac++(Aj es (es.length+1-k) u e).1,(Aj es (es.length+1-k) u e).2)) ?_ ?_
     ·refine⟨(yp es i).1,s0,[],?_⟩;simp only[nN,go_sem,ab,v,b2,F,b3,w,c,f14,f15,j];refine⟨acc.mono (by simp[ar]) (by simp[ar]),?_⟩;exact⟨u0.nil,u1,u2,a8,rfl⟩
     clear t v b2 F b3 w c f14 f15 acc j;rintro k b hk ⟨u,e,ac,⟨t,v,b2,F,b3,w,c,f14,f15,acc⟩,j,f9,b9,wE,v1,v2,v3,v4,v5,v6⟩;have d7:=qW v1 v2
     have c8:k<es.length+1:=by lia
     obtain⟨n,c9⟩:∃n,es.length+1-k=n+1:=⟨es.length-k,by lia⟩
     have d0:es.length+1-(k+1)=n:=by lia
     have N:=iR e u;simp only[Ep]at N
     have ht:Aj es (n+1) u e=if Md u e then([],u)else((e.1::(Aj es n (u++[e]) (Cc es e)).1),(Aj es n (u++[e]) (Cc es e)).2):=rfl
     rw[c9,ht]at v6;cases H:Md u e
     ·rw[H]at v6 N;simp only[gp,bp]at v6 N;have Ye:=QP e u H;simp only[Ep]at Ye;simp only[go_sem,ab,dw,ak,ao,cw,PS.ents,cy,Lc,t,w,j,f9,b9,N,Ye];refine r4 (dv:=ac.map Ci) (ys:=[Ci e.1]) (osz:=aa 2) ?_ ?_ rfl rfl ?_ (by simp) ?_
      ·simp only[go_sem,ab];exact wE.mono (by simp[ar]) (by simp[ar])
      ·simp only[go_sem,ab,pj];rfl
      ·simp only[al,cq,ew];lia
      intro K g;have Q:=g.acc (by simp);rw[g.tmp,de]at Q;simp only[gj]at Q;have G:=g.ba 2 (by simp[]);have z:=g.ba 3 (by simp[]);have S:=g.ba 9 (by simp[]);have TD:=g.ba 12 (by simp[]);have a5:=g.ba 49 (by simp[])
      have R:K.di 2=b.di 2:=by rw[g.di];simp[ar]
      have J:K.di 3=b.di 3:=by rw[g.di];simp[ar]
      have a6:K.di 9=b.di 9:=by rw[g.di];simp[ar]
      have b8:K.di 49=b.di 49:=by rw[g.di];simp[ar]
      have gm:K.mp 12=aa ((u++[e]).map cM):=by rw[g.mp];simp[ar]
      simp only[ar,ab,reduceIte]at G z S TD a5;obtain⟨fo,a7,a4⟩:=hc.1 e v3;have X:=IH e.2 es ⟨fo,a7,a4⟩
      obtain⟨hh,hr,Y⟩:∃hh hr,outs es e.2=hh::hr:=by
       cases ho:outs es e.2 with
       |nil=>have:=Cq.2 (show(e.2,fo.2)∈es by rw[<-a4];exact a7);rw[ho]at this;simp at this
       |cons a r=>exact⟨a,r,rfl⟩
      have gK:∀x∈hh::hr,SmL x:=λx hx=>(B _ (Cq.1 (by rw[Y];exact hx))).2;rw[Y]at X;have d1:=Wg es;obtain⟨ka,c7⟩:=Yv X;have d2:=d1.2 _ c7;simp only[cq]at d2;have a2:=a2m A (O:=xa es) (I:=D5 es) e.1 e.2 hh hr (B e v3).1 (B e v3).2 (gK hh (by simp)) (λq hq=>gK q (by simp[hq])) (by lia) X;rw[a1,a0]at a2;simp only[Aa]at a2
      have b6:Cc es e=(e.2,cJ (hh::hr) e.1 e.2):=by unfold Cc;rw[Y]
      simp only[go_sem,ab,dw,ft,fk,fp,ak,ao,g.tmp,g.base,F,b3,f9,b9,z,S,J,a6];refine Fw a2 ?_;simp only[nN,go_sem,ab,ak,ao,v,b2,F,b3,w,c,f14,f15,f9,b9,G,z,S,TD,R,J,a6,gm,c8]
      have b5:e∉u:=λh=>by rw[F3.2 h]at H;cases H
      refine⟨u++[e],Cc es e,ac++[e.1],acc.mono ?_ ?_,rfl,by rw[b6],?_,?_,?_,aJ hc v3,by simp only[dz,cq,ew];lia,by simp only[dz,cq,ew];lia,?_⟩
      ·simp only[ar,ab,reduceIte,a5]
      ·simp only[ar,ab,reduceIte,b8]
      ·rw[fj];exact Q.mono (by simp[ar]) (by simp[ar])
      ·rw[Xs];exact⟨v1,by simp,λx hx y hy=>by simp at hy;subst hy;exact λq=>b5 (q▸hx)⟩
      ·intro x hx;rcases jz.1 hx with hx|hx
       ·exact v2 x hx
       simp at hx;subst hx;exact v3
      rw[v6,d0];simp
     rw[H]at v6 N;simp only[da]at v6 N;simp only[nN,go_sem,ab,ak,reduceCtorEq,PS.ents,cy,Lc,t,v,b2,F,b3,w,c,f14,f15,j,f9,b9,N,v6,pt];exact⟨acc.mono rfl rfl,wE.mono rfl rfl⟩
    clear t v b2 F b3 w c f14 f15 acc j;rintro b ⟨⟨t,v,b2,F,b3,w,c,f14,f15,acc⟩,j,wE⟩;have Z:=JO (es:=es) (n:=es.length) hm;obtain⟨w1,w2,w3,w4⟩:=Z0 hc (es.length+1) _ _ u1 u2 a8
    generalize hT:Aj es (es.length+1) (yp es i).1 s0=T at*
    obtain⟨l,uf⟩:=T;simp only at Z w1 w2 w3 w4 M j wE;rcases wE with ⟨h0,_⟩|⟨_,f8,c0⟩
    ·exact absurd (by simpa using h0) Z
    simp only[go_sem];refine K5 [42] ?_
    have D:[42]≠[]:=by simp
    have n2:=Dl (s:=b) D 2;have n3:=Dl (s:=b) D 3;have n4:=Dl (s:=b) D 4;have n8:=Dl (s:=b) D 8;have a9:=Dl (s:=b) D 13;have b0:=Dl (s:=b) D 14;have b1:=Dl (s:=b) D 15;have n5:=Dl (s:=b) D 5;have b4:=L9 (s:=b) D (i:=2) (by simp);have a3:=L9 (s:=b) D (i:=3) (by simp);have nm:=vD (s:=b) D (i:=12) (by simp);have nv:=aK (s:=b) D;have yS:=T0 [42] b;have LY:=acc.x7 D (by simp)
    have b7:b.dv 42 (b.ba 42)=aa (2,l.map Ci):=by unfold PS.dv;rw[bc rfl,c0]
    rw[t]at yS;simp only[v,F,w,f8,c,f14,f15,V.x7,C.x7,C.toV,fa,kz,or_false,ab,bp,da,b7]at n2 n3 n4 n8 a9 b0 b1;simp only[Hm,b2,b3,du,ic,C.x7]at b4 a3;simp only[rH,j,jc,a4w]at nm;rw[<-n5]at LY
    generalize b.x7 [42]=s4 at*
    rw[<-nv]at n2 n3 n4
    have W:=HF A (O:=xa es) (I:=D5 es) l Z (by lia) (λp hp=>by
     obtain⟨f,hf,rfl⟩:=w4 p hp;refine⟨(B f hf).1,?_⟩;obtain⟨gg,c6,c5⟩:=hc.2 f hf;obtain⟨k1,k2⟩:=EP f.1 es ⟨gg,c6,c5⟩;obtain⟨a,li,c2⟩:=a5m k2
     exact⟨a,li,by rw[k1,c2]⟩) (λp hp=>⟨jg ((Wg es).2 p hp) (by lia),λq hq=>?_⟩) (λp hp q hq=>?_)
    ·rw[a1,a0]at W;simp only[uu]at W;have d5:(l.map Ci).length=l.length:=al _;simp only[go_sem,ab,ak,yS,n3,n8,a3];refine ir W ?_;have d3:∀(tm:Nat->V),u0 {s4 with tmp:=tm} 49 1 ((yp es i).2.map λl=>[uu l]) (s4.tmp 5):=λtm=>LY.mono rfl rfl;simp only[go_sem,ab,cw];refine r4 (dv:=(yp es i).2.map λl=>[uu l]) (ys:=[[uu (Gs (xa es) (D5 es) l)]]) (osz:=aa 1) ?_ ?_ rfl rfl ?_ (by simp) ?_
     ·simp only[go_sem,ab];exact LY.mono (by simp[ar]) (by simp[ar])
     ·simp only[go_sem,ab,pj];rfl
     ·simp only[al,cq,ew];lia
     intro K g;have Q:=g.acc (by simp);rw[g.tmp,de]at Q;simp only[gj]at Q;have G:=g.ba 2 (by simp[]);have z:=g.ba 3 (by simp[]);have TD:=g.ba 12 (by simp[])
     have R:K.di 2=s4.di 2:=by rw[g.di];simp[ar]
     have J:K.di 3=s4.di 3:=by rw[g.di];simp[ar]
     have gm:K.mp 12=s4.mp 12:=by rw[g.mp]
     simp only[ar,ab,reduceIte]at G z TD;simp only[nN,go_sem,ab,reduceCtorEq,g.tmp,g.base,n2,n3,n4,a9,b0,b1,b4,a3,nm,G,z,TD,R,J,gm,wi,ep,M];refine⟨by rw[mu];rfl,?_⟩;rw[fj];exact Q.mono rfl rfl
    ·obtain⟨e,he,rfl⟩:=iU (λe=>(e.1,e.2)) es p hp q hq;exact(B e he).2
    obtain⟨e,he,rfl⟩:=iU (λe=>(e.2,e.1)) es p hp q hq;exact(B e he).1
   rw[hm]at M o;simp only[da]at M o;simp only[nN,go_sem,ab,ak,reduceCtorEq,PS.ents,cy,Lc,t,v,b2,F,b3,w,c,f14,f15,j,ju,hg,bn,aw,o,wi,ep,M];exact⟨by rw[mu];rfl,acc.mono (by simp[ar]) (by simp[ar])⟩
  have:i=es.length:=by lia
  subst this;simp only[nN,go_sem,ab,reduceCtorEq,t,v,b2,F,b3,w,c,f14,f15,ju];exact acc.mono rfl rfl
 rintro s' ⟨t,v,b2,F,b3,w,c,f14,f15,acc⟩;obtain⟨_,_,c3,c4⟩:=U1 hc es.length (bm _)
 generalize(yp es es.length).2=E at*
 rcases acc with ⟨h0,f5⟩|⟨h0,f5,c1⟩
 ·have U:E=[]:=by simpa using h0
  rw[bc U];simp only[go_sem,t,f5];refine nh (eN A L hρ _ 1000) ?_;simp only[go_sem,ab,PS.ke,PS.mem,v,b2]
 have U:¬E=[]:=by simpa using h0
 rw[aq U];simp only[go_sem,t,f5,al];refine nh (xG A L hρ E (by lia) (λl hl=>jg (c4 l hl) (by lia)) (by simp only[PS.mem];exact c1) rfl 1000) ?_;have zN:(we E).length=E.length:=(C2 E).length_eq;simp only[go_sem,ab,PS.ke,PS.mem,Wa,v,b2,kh,al,zN,ff]
end
end Go.PI
