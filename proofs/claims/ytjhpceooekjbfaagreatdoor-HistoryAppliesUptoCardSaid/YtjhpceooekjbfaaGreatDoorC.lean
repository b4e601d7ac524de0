/- A part of the proof for HistoryApplies: PS28 to F11. Printed from longer texts. -/
import Derived.Test.YtjhpceooekjbfaaGreatDoorB
set_option linter.all false
set_option maxHeartbeats 64000000
open Go.PI.eh renaming seq->ay,region->bx,block->dh,loop->iq,exit->ij,skip->bq,ret->cd,both->M0
open Array renaming getD_eq_getD_getElem?->kl,getElem?_append_left->Bn,getElem?_eq_getElem->bz,mapM_eq_mapM_toList->sK,replicate->iK
open Bool renaming and_eq_false_iff->OI,and_eq_true->dc,and_false->sf,and_self->Iq,and_true->Ip,false->ag,false_and->fh,false_eq_true->gp,false_or->C0,not_false->Mz,not_true->a8s,or_eq_false_iff->K4,or_eq_true->Oi,or_false->R0,true->ah,true_and->rv,true_or->D1
open Eq renaming refl->il,trans->fy
open Go.Ending renaming returned->adl
open Go.Instr renaming loadAt->aeq,sureAddr->a5p
open Go.IntKind renaming i64->aj,wrap->Qy
open Go.Op renaming bytesLess->Ws
open Go.Result renaming andThen_ok->br
open Go.Sem renaming run_bind->df,run_map->af5,run_pure->fl
open Int renaming add_zero->JI,cast_ofNat_Int->a5o,natCast_nonneg->aw,natCast_zero->fZ,reduceLE->ft,reduceLT->dw,reduceNeg->cu,reduceToNat->fk,tmod_eq_emod_of_nonneg->a5n
open List renaming all_cons->X8,all_eq_false->iJ,all_eq_true->dg,all_nil->adh,append_assoc->uy,append_nil->pt,cons_append->qc,drop->afk,drop_zero->wK,eq_nil_of_length_eq_zero->jf,flatMap_append->adt,flatten_cons->VK,flatten_nil->acg,getD->cz,getD_cons_zero->a1t,getD_eq_getElem?_getD->Bj,getElem?_cons_succ->mq,getElem?_cons_zero->iw,getElem?_eq_getElem->bh,getElem?_eq_none->nQ,getElem?_map->dn,getElem?_range->Nk,getElem_mem->dj,length->Ae,length_append->dz,length_cons->cq,length_map->al,length_nil->ew,length_pos_iff->W8,length_range->a8u,length_take->ey,map->afi,map_append->fj,map_cons->du,map_eq_nil_iff->fw,map_nil->ic,mem_cons->fa,mem_flatMap->K3,mem_iff_getElem->j0,mem_map->j6,mem_of_getElem?->pw,mem_range->er,nil_append->ub,not_mem_nil->kz,range->fc,reduceReplicate->cw,size_toArray->Xr,sum_append->a8n,sum_cons->a1r,take->afl,take_add_one->j3,take_append_drop->Ej,take_length->fm,take_of_length_le->D0,take_succ_cons->adp,take_zero->My
open Nat renaming add_left_cancel_iff->i7,add_zero->Ad,le_of_lt->aep,le_refl->bm,le_trans->jg,mod_lt->Ht,mul_le_mul->ae0,reduceAdd->ak,reduceEqDiff->ab,reduceLeDiff->ao,reduceMul->fp,zero_add->gj,zero_le->aei,zero_mul->JC
open Option renaming bind_eq_some_iff->BS,getD_some->jj,map->afd,map_eq_some_iff->ax,none->ae,some->aa,toList_some->JA
open Option.some renaming injEq->av
open Prod.mk renaming inj->af2,injEq->db
namespace Go.PI
open Go Go.RowKit
section
variable{P:Program}{B0 nt:Nat}{w0 w w':World}{G0 G G':ix}{s s' s1 s2:PS}{E E':Env}{a:Act}
def enter(m:Mem)(args:List V)(b:Nat)(c:Nat->V×Value):PS:={tmp:=λt=>args.getD t .no,di:=m.di,ba:=m.ba,mp:=m.mp,base:=b,ctx:=c}
def Clean(m m':Mem):Prop:=∀i,(m'.di i=ae\/(m'.di i=m.di i/\m'.ba i=m.ba i))/\(m'.mp i=ae\/(m'.mp i=m.mp i/\m'.ba i=m.ba i))
def Q7(m:Mem):C->Prop
 | .d _=>True
 | .ref i ba _=>ba<=m.ba i
 | .o8 i ba=>ba<=m.ba i
 | .ptr i ba _=>ba<=m.ba i
def Im(m:Mem):V->Prop
 | .d _=>True
 | .ref i ba _=>ba<=m.ba i
 | .o8 i ba=>ba<=m.ba i
 | .gz i ba _=>ba<=m.ba i
 | .Iy i ba _ _ _=>ba<=m.ba i
 | .qb _ ids=>∀p∈ids,p.2<=m.ba p.1
 | .agg cs=>∀c∈cs,Q7 m c
 | .Bb cs=>∀c∈cs,Q7 m c
 | .Lm i ba _ _=>ba<=m.ba i
 | .Iz i ba _ _=>ba<=m.ba i
 | .win i ba _ _ _=>ba<=m.ba i
 | .no=>True
def Ni(m:Mem):B->Prop
 | .loc cs=>∀c∈cs,Q7 m c
 | .ru _ dv=>∀e∈dv,∀c∈e,Q7 m c
 |_=>True
theorem Q7.mono{m m':Mem}(h:∀i,m.ba i<=m'.ba i){c:C}(b:Q7 m c):Q7 m' c:=by
 cases c with
 |d x=>trivial
 |_=>exact jg b (h _)
theorem Im.mono{m m':Mem}(h:∀i,m.ba i<=m'.ba i){v:V}(b:Im m v):Im m' v:=by
 cases v with
 |d x=>trivial
 |no=>trivial
 |agg cs=>exact λc e=>(b c e).mono h
 |Bb cs=>exact λc e=>(b c e).mono h
 |qb f ids=>exact λp g=>jg (b p g) (h _)
 |Lm i ba l n=>exact jg (show ba<=m.ba i from b) (h _)
 |Iz i ba l n=>exact jg (show ba<=m.ba i from b) (h _)
 |win i ba l n o=>exact jg (show ba<=m.ba i from b) (h _)
 |_=>exact jg b (h _)
theorem bH{c:C}(h:CWf s c):Q7 s.mem c:=by cases c<;>exact h
theorem IW{v:V}(h:VWf s v):Im s.mem v:=by
 cases v with
 |agg cs=>exact λc b=>bH (h c b)
 |Bb cs=>exact λc b=>bH (h c b)
 |d x=>trivial
 |no=>trivial
 |Lm i ba l n=>exact(show ba<=s.ba i from h)
 |Iz i ba l n=>exact(show ba<=s.ba i from h)
 |win i ba l n o=>exact(show ba<=s.ba i from h)
 |ref i ba l=>exact(show ba<=s.ba i from h)
 |o8 i ba=>exact(show ba<=s.ba i from h)
 |gz i ba l=>exact(show ba<=s.ba i from h)
 |Iy i ba _ _ _=>exact(show ba<=s.ba i from h)
 |qb f ids=>exact(show∀p∈ids,p.2<=s.ba p.1 from h)
theorem zx.clean{m':Mem}(k:Clean s.mem m'){c:C}{v:Value}(h:zx G E s c v)(n:Q7 m' c)(l:s'.mem=m'):zx G E s' c v:=by
 have o:s'.di=m'.di:=by rw[<-l];rfl
 have ev:s'.ba=m'.ba:=by rw[<-l];rfl
 have p:s'.mp=m'.mp:=by rw[<-l];rfl
 cases c with
 |d x=>exact h
 |ref id ba len=>
  refine⟨by rw[ev];exact n,λe sz dv hb=>?_⟩;unfold PS.Ei at hb;rw[o]at hb;rw[ev]at e;rcases(k id).1 with f|⟨g,i⟩
  ·rw[f]at hb;cases hb
  exact h.2 (by rw[<-e,i];rfl) sz dv (by unfold PS.Ei;rw[<-hb,g];rfl)
 |o8 id ba=>
  refine⟨by rw[ev];exact n,λe j=>?_⟩;rw[p]at j;rw[ev]at e;rcases(k id).2 with f|⟨g,i⟩
  ·rw[f]at j;cases j
  exact h.2 (by rw[<-e,i];rfl) (by rw[g]at j;exact j)
 |ptr id ba off=>
  refine⟨by rw[ev];exact n,λe ⟨b,hb,m⟩=>?_⟩;rw[o]at hb;rw[ev]at e;rcases(k id).1 with f|⟨g,i⟩
  ·rw[f]at hb;cases hb
  exact h.2 (by rw[<-e,i];rfl) ⟨b,by rw[<-hb,g];rfl,m⟩
theorem j4.clean{m':Mem}(g:Clean s.mem m'){x:V}{v:Value}(h:j4 G E s x v)(j:Im m' x)(r:s'.mem=m'):j4 G E s' x v:=by
 have t:s'.di=m'.di:=by rw[<-r];rfl
 have ev:s'.ba=m'.ba:=by rw[<-r];rfl
 cases x with
 |d x=>exact h
 |no=>trivial
 |ref id ba len=>exact zx.clean (c:= .ref id ba len) g h j r
 |o8 id ba=>exact zx.clean (c:= .o8 id ba) g h j r
 |gz id ba off=>exact zx.clean (c:= .ptr id ba off) g h j r
 |Lm id ba len n=>
  refine⟨by rw[ev];exact j,λe ⟨b,hb,H⟩=>?_⟩;rw[t]at hb;rw[ev]at e;rcases(g id).1 with k|⟨m,q⟩
  ·rw[k]at hb;cases hb
  exact h.2 (by rw[<-e,q];rfl) ⟨b,by rw[<-hb,m];rfl,H⟩
 |Iz id ba n a=>
  refine⟨h.1,by rw[ev];exact j,λe sz dv hb=>?_⟩;unfold PS.Ei at hb;rw[t]at hb;rw[ev]at e;rcases(g id).1 with k|⟨m,q⟩
  ·rw[k]at hb;cases hb
  exact h.2.2 (by rw[<-e,q];rfl) sz dv (by unfold PS.Ei;rw[<-hb,m];rfl)
 |win id ba n o l=>
  refine⟨h.1,by rw[ev];exact j,λe sz dv hb=>?_⟩;unfold PS.Ei at hb;rw[t]at hb;rw[ev]at e;rcases(g id).1 with k|⟨m,q⟩
  ·rw[k]at hb;cases hb
  exact h.2.2 (by rw[<-e,q];rfl) sz dv (by unfold PS.Ei;rw[<-hb,m];rfl)
 |Iy id ba K i off=>
  refine⟨by rw[ev];exact j,λe sz dv hb=>?_⟩;unfold PS.Ei at hb;rw[t]at hb;rw[ev]at e;rcases(g id).1 with k|⟨m,q⟩
  ·rw[k]at hb;cases hb
  exact h.2 (by rw[<-e,q];rfl) sz dv (by unfold PS.Ei;rw[<-hb,m];rfl)
 |qb f ids=>
  refine⟨λp D=>by rw[ev];exact j p D,λy=>h.2 λp D=>?_⟩;obtain⟨I,b,A,J⟩:=y p D;rw[t]at A;rw[ev]at I;rcases(g p.1).1 with k|⟨m,q⟩
  ·rw[k]at A;cases A
  exact⟨by rw[<-I,q];rfl,b,by rw[<-A,m];rfl,J⟩
 |agg cs=>
  obtain⟨vs,B,e2,C⟩:=G6.1 h;exact G6.2 ⟨vs,B,e2,λi c u z F=>(C i c u z F).clean g (j c (pw z)) r⟩
 |Bb cs=>
  obtain⟨vs,B,e2,C⟩:=Lg.1 h;exact Lg.2 ⟨vs,B,e2,λi c u z F=>(C i c u z F).clean g (j c (pw z)) r⟩
theorem xW(h:jw B0 w0 nt G0 s G E a w){r:ResultVar}{x:K1}(e:GC P r=aa x){y:V}(c:uq s x=aa y):
  ∃v,(match r with| .tmp t=>pure (a.tmps.getD t undef)| .cell b t=>do loadVar t (<-asAddr (a.tmps.getD b undef)):Sem Value).run P w= .ok v w/\j4 G E s y v:=by
 cases r with
 |tmp t=>
  simp only[GC,av]at e;subst e;simp only[uq,av]at c;subst c;exact⟨_,rfl,h.tmp t⟩
 |cell b t=>
  simp only[GC]at e;split at e
  ·rename_i n g A B;split at e
   ·rename_i C
    injection e with e
    subst e;simp only[uq]at c;obtain⟨u,j,F⟩:=Yd h A B C c (h.tmp b);refine⟨u,?_,F⟩
    have D:∃ad,a.tmps.getD b undef= .pointer (aa ad):=by
     have hb:=h.tmp b;generalize s.tmp b=z at c hb
     cases z with
     |gz id ba off=>
      simp only[Cw]at c;split at c
      ·rename_i cs o;obtain⟨f,e2⟩:=xl o;exact⟨_,hb.2 f ⟨_,e2,rfl⟩⟩
      cases c
     |Iy id ba H i off=>
      simp only[Cw]at c;split at c
      ·rename_i sz dv l;obtain⟨f,e2⟩:=zn l;split at c
       ·split at c
        ·rename_i m;exact⟨_,(hb.2 f _ _ (yf e2)).2 m.1⟩
        cases c
       cases c
      split at c
      ·rename_i sz dv l;obtain⟨f,b,e2,p,_⟩:=Lb l;split at c
       ·split at c
        ·rename_i m;exact⟨_,(hb.2 f _ _ ((yf e2).trans p)).2 m.1⟩
        cases c
       cases c
      cases c
     |d z=>
      cases z with
      |ym cells off=>
       generalize a.tmps.getD b undef=q at hb;cases hb;exact⟨_,rfl⟩
      |_=>cases c
     |_=>cases c
    obtain⟨ad,k⟩:=D;show(do loadVar t (<-asAddr (a.tmps.getD b undef)):Sem Value).run P w=_;rw[k]at j|-;unfold aeq at j;simp only[df]at j|-;have f:(a5p (.pointer (aa ad))).run P w= .ok ad w:=rfl;have e2:(asAddr (.pointer (aa ad))).run P w= .ok ad w:=rfl;rw[f]at j;rw[e2];exact j
   cases e
  cases e
theorem toC_rel{y:V}{c:C}(h:y.toC=aa c){v:Value}(b:j4 G E s y v):zx G E s c v:=by
 cases y<;>simp only[V.toC,av,reduceCtorEq]at h<;>(subst h;exact b)
theorem LH(h:jw B0 w0 nt G0 s G E a w):∀{l:List ResultVar} {xs:List K1} {cs:List C},Ue P l=aa xs->K8 s xs=aa cs->
  ∃vs:List Value,vs.length=cs.length/\l.length=vs.length/\xs.length=cs.length/\(∀(i:Nat) (x:ResultVar) (v:Value),l[i]? =aa x->vs[i]? =aa v->(match x with| .tmp t=>pure (a.tmps.getD t undef)| .cell b t=>do loadVar t (<-asAddr (a.tmps.getD b undef)):Sem Value).run P w= .ok v w)/\
   ∀(i:Nat) (d:C) (v:Value),cs[i]? =aa d->vs[i]? =aa v->zx G E s d v:=by
 intro l
 induction l with
 |nil=>
  intro xs ds c e;simp only[Ue,av]at c;subst c;simp only[K8,av]at e;subst e;exact⟨[],rfl,rfl,rfl,by simp,by simp⟩
 |cons r l z=>
  intro xs ds c e;simp only[Ue]at c;split at c
  ·rename_i x y n o
   injection c with c
   subst c;simp only[K8]at e;split at e
   ·rename_i d m p q
    injection e with e
    subst e;obtain⟨vs,A,B,D,F,H⟩:=z o q;obtain⟨y,hy,k⟩:=BS.1 p;obtain⟨v,g,j⟩:=xW h n hy;refine⟨v::vs,by simp[A],by simp[B],by simp[D],λi x u hx f=>?_,λi d u hx f=>?_⟩
    ·cases i with
     |zero=>simp only[iw,av]at hx f;subst hx f;exact g
     |succ i=>simp only[mq]at hx f;exact F i x u hx f
    cases i with
    |zero=>simp only[iw,av]at hx f;subst hx f;exact toC_rel k j
    |succ i=>simp only[mq]at hx f;exact H i d u hx f
   cases e
  cases c
theorem jR(h:jw B0 w0 nt G0 s G E a w){f:Func}{xs:List K1}(d:Ue P f.results.toList=aa xs){r:V}(j:qz s xs=aa r):
  ∃v,(results f a.tmps).run P w= .ok v w/\j4 G E s r v:=by
 have g:∀{vs:List Value},f.results.toList.length=vs.length->(∀(i:Nat) (x:ResultVar) (v:Value),f.results.toList[i]? =aa x->vs[i]? =aa v->(match x with| .tmp t=>pure (a.tmps.getD t undef)| .cell b t=>do loadVar t (<-asAddr (a.tmps.getD b undef)):Sem Value).run P w= .ok v w)->
   (results f a.tmps).run P w= .ok (if L:vs.toArray.size=1 then vs.toArray[0]else .tuple vs.toArray) w:=by
  intro vs z A
  have D:=yW (P:=P) (λx:ResultVar=>(match x with| .tmp t=>pure (a.tmps.getD t undef)| .cell b t=>do loadVar t (<-asAddr (a.tmps.getD b undef)):Sem Value)) w f.results.toList vs z A
  have F:(f.results.mapM λ(x:ResultVar)=>(match x with| .tmp t=>pure (a.tmps.getD t undef)| .cell b t=>do loadVar t (<-asAddr (a.tmps.getD b undef)):Sem Value)).run P w= .ok vs.toArray w:=by
   rw[sK,af5,D];rfl
  unfold results;simp only[df]
  erw [F]
  simp only[br,fl]
 unfold qz at j;split at j
 ·rename_i x;generalize I:f.results.toList=l at d g
  match l,d with
  |[q],d=>
   simp only[Ue]at d;split at d
   ·rename_i M y m e
    injection e with e
    subst e
    injection d with d
    injection d with d _
    subst d;obtain⟨v,o,p⟩:=xW h m j
    have:=g (vs:=[v]) rfl (λi x u hx n=>by
     match i with
     |0=>simp at hx n;subst hx n;exact o
     |i+1=>simp at hx)
    exact⟨v,this,p⟩
   cases d
  |[],d=>cases d
  |q1::q2::r,d=>
   simp only[Ue]at d;split at d
   ·rename_i m e
    injection d with d
    injection d with _ d
    subst d;split at e
    ·injection e with e;cases e
    cases e
   cases d
 rename_i B;simp only[ax]at j;obtain⟨cs,C,rfl⟩:=j;obtain⟨vs,J,z,k,A,K⟩:=LH h d C;have:=g z A
 have m:¬vs.toArray.size=1:=by
  simp only[Xr];intro I
  match xs,k,B with
  |[x],_,B=>exact B x rfl
  |[],k,_=>simp at k;lia
  |_::_::_,k,_=>simp at k;lia
 rw[dif_neg m]at this;exact⟨_,this,Lg.2 ⟨_,rfl,by simpa using J,λi c u H n=>K i c u H (by simpa using n)⟩⟩
structure Leaves(m:Mem)(s:PS)(m':Mem)(r:V):Prop where
 clean:Clean s.mem m'
 ba:∀i,m.ba i<=m'.ba i
 cells:∀i b,m'.di i=aa b->m.di i=aa b\/Ni m' b
 mps:∀i es,m'.mp i=aa es->m.mp i=aa es\/∀e∈es,Q7 m' e.2
 wf:Im m' r
theorem NG(hm:P.follows .mixedOrders=ah){f:Nat}{an:Ann}{rc:eh}{rs:List K1}{n':Nat}(z:fu P f an=aa (rc,rs,n')){s:PS}{args:List V}{R:Mem->V->Prop}(hn:args.length<=n')(b:Nat)
  (h:∀c,(∀i,c (2*i+1)=s.ctx i)->l7 P rc (λe s'=>(e= .normal\/e= .ret)/\∃m' r,R m' r/\qz s' rs=aa r/\Leaves s.mem s' m' r) (enter s.mem args b c)):Fg P f s args R:=by
 unfold fu at z;split at z
 ·cases z
 rename_i S M;split at z
 ·cases z
 rename_i Zx;split at z
 ·cases z
 rename_i c hb;split at z
 ·rename_i a2 a3 h1 h2;simp only[av,db]at z;obtain⟨rfl,rfl,rfl⟩:=z;simp only[H9]at h;refine⟨by unfold B3;rw[M];simp[Zx,hb],λB0 w0 nt G0 G E a w vs o hl Iw=>?_⟩
  let m:Nat->V×Value:=λi=>if i%2=0 then(match s.tmp (i/2)with| .no=>(.no,.tuple #[])|x=>(x,a.tmps.getD (i/2) undef))else s.ctx (i/2)
  have L:∀i,m (2*i+1)=s.ctx i:=by
   intro i
   have h1:(2*i+1)%2=1:=by lia
   have h2:(2*i+1)/2=i:=by lia
   simp only[m,h1,h2,aq (show¬(1=0)by decide)]
  have U:Plain s.ctx->Plain m:=by
   intro q i v e;simp only[m]at e;split at e
   ·split at e
    ·exact(af2 e).2.symm
    rename_i J;exact absurd (af2 e).1 J
   exact q _ v e
  have mv:∀{x:V} {v:Value},j4 G E s x v->j4 G E (enter s.mem args b m) x v:=by
   intro x v hx;refine j4.move (ix.me G) (E':=E) ⟨λ_=>bm _,λ_ _ Uq _ h=>⟨Uq,h,bm _,λ_=>⟨rfl,rfl⟩⟩,λ_ b' _ h hv=>⟨⟨b',h,hv⟩,rfl⟩,λ_ _ h=>⟨h,rfl⟩⟩ hx
  have xv:jw B0 w0 S.ntmps G0 (enter s.mem args b m) G E {tmps:=vs++iK (S.ntmps-vs.size) undef,defers:=[]} w:=by
   refine⟨by simp;lia,rfl,o.base,o.below.Nl (λq i v e=>q (2*i+1) v ((L i).trans e)),o.gok,o.gle,o.Jt,λt=>?_,λi b' sv=>?_,o.inj,λi es C=>?_,o.Sn,λi=>?_,λi=>?_⟩
   ·show j4 G E _ (args.getD t .no) ((vs++iK (S.ntmps-vs.size) undef).getD t undef);by_cases ht:t<args.length
    ·rw[kl,Bn (by lia),bz (by lia)]
     have e:args.getD t .no=args[t]:=by simp[cz,ht]
     rw[e];exact mv (Iw t _ _ (bh ht) (bz (by lia)))
    have e:args.getD t .no= .no:=by rw[Bj,nQ (by lia)];rfl
    rw[e];trivial
   ·obtain⟨N,O,cells,et,k3,k4,B⟩:=o.di i b' sv;refine⟨N,O,cells,et,k3,k4,?_⟩
    cases b' with
    |arr sz dv=>exact B
    |loc cs=>exact⟨B.1,λj c u g I=>by
      have:=B.2 j c u g I
      exact mv this⟩
    |ru sz dv=>exact⟨B.1,B.2.1,λi e j c u C g I=>by
      have:=B.2.2 i e j c u C g I
      exact mv this⟩
    |Tj n=>exact B
   ·obtain⟨N,O,ents,clock,k3,k4,B,k6⟩:=o.mp i es C;exact⟨N,O,ents,clock,k3,k4,λj e x g hx=>⟨(B j e x g hx).1,mv (B j e x g hx).2⟩,k6⟩
   ·show j4 G E _ (m i).1 (m i).2;simp only[m];split
    ·have:=o.tmp (i/2);split
     ·trivial
     exact mv this
    exact mv (o.ctx _)
   show Xo (m i) _ _;simp only[m];split
   ·split
    ·exact Xo.nil
    rename_i J;intro b' a1 e;simp only[db]at e;exact absurd e.1 J
   exact o.tb _
  refine calls_of_wp M hb (wp_mono (Ys hm c h1 xv (tL (h m L))) λe a' w' hg=>?_);obtain⟨s',G',E',⟨⟨he,m',r,hR,SJ,⟨l,Q,Vj,W,hr⟩⟩,lE⟩,p⟩:=hg;obtain⟨v,N,O⟩:=jR p h2 SJ;have D:=o.wf
  have P1:jw B0 w0 nt G0 (s.ke m') G' E' a w':=by
   refine⟨o.size,o.defers,o.base,p.below.Nl (λq=>by rw[lE];exact U q),p.gok,p.gle,p.Jt,λt=>?_,λi b' sv=>?_,λi j X Y C g T=>?_,λi es C=>?_,λi j X Y C g T=>?_,λi=>?_,o.tb⟩
   ·have:=p.ctx (2*t);rw[lE]at this
    have Z:(enter s.mem args b m).ctx (2*t)=(match s.tmp t with| .no=>(.no,.tuple #[])|x=>(x,a.tmps.getD t undef)):=by
     show m (2*t)=_;simp only[m];rw[bc (by lia),show 2*t/2=t by lia]
    rw[Z]at this;by_cases J:s.tmp t= .no
    ·show j4 G' E' _ (s.tmp t) _;rw[J];trivial
    have e2:(match s.tmp t with| .no=>(V.no,Value.tuple #[])|x=>(x,a.tmps.getD t undef))=(s.tmp t,a.tmps.getD t undef):=by
     split
     ·rename_i e;exact absurd e J
     rfl
    rw[e2]at this;exact j4.clean l this ((IW (D.tmp t)).mono Q) rfl
   ·have d:m'.di i=aa b':=sv;rcases(l i).1 with F|⟨H,h4⟩
    ·rw[F]at d;cases d
    have a0:s'.di i=aa b':=H.symm.trans d;obtain⟨q1,q2,cells,et,q3,q4,q5⟩:=p.di i b' a0;refine⟨q1,q2,cells,et,q3,q4,?_⟩
    cases b' with
    |arr sz dv=>exact q5
    |loc cs=>
     refine⟨q5.1,λj c u g I=>?_⟩
     have y:Q7 m' c:=by
      rcases Vj i _ d with A|A
      ·exact(bH (D.loc i cs A c (pw g))).mono Q
      exact A c (pw g)
     exact zx.clean l (q5.2 j c u g I) y rfl
    |ru sz dv=>
     refine⟨q5.1,q5.2.1,λk e j c u hk g I=>?_⟩
     have y:Q7 m' c:=by
      rcases Vj i _ d with A|A
      ·exact(bH (D.ru i sz dv A e (pw hk) c (pw g))).mono Q
      exact A e (pw hk) c (pw g)
     exact zx.clean l (q5.2.2 k e j c u hk g I) y rfl
    |Tj n=>exact q5
   ·have un:∀{i b'},m'.di i=aa b'->s'.di i=aa b':=by
     intro i b' d;rcases(l i).1 with F|⟨H,h4⟩
     ·rw[F]at d;cases d
     exact H.symm.trans d
    exact p.inj i j X Y (un C) (un g) T
   ·have d:m'.mp i=aa es:=C;rcases(l i).2 with F|⟨H,h4⟩
    ·rw[F]at d;cases d
    obtain⟨q1,q2,ents,clock,q3,q4,q5,q6⟩:=p.mp i es (H.symm.trans d);refine⟨q1,q2,ents,clock,q3,q4,λj e x g hx=>⟨(q5 j e x g hx).1,?_⟩,q6⟩
    have y:Q7 m' e.2:=by
     rcases W i es d with A|A
     ·exact(bH (D.mp i es A e (pw g))).mono Q
     exact A e (pw g)
    exact zx.clean l (q5 j e x g hx).2 y rfl
   ·have un:∀{i b'},m'.mp i=aa b'->s'.mp i=aa b':=by
     intro i b' d;rcases(l i).2 with F|⟨H,h4⟩
     ·rw[F]at d;cases d
     exact H.symm.trans d
    exact p.Sn i j X Y (un C) (un g) T
   have:=p.ctx (2*i+1);rw[lE]at this
   have Z:(enter s.mem args b m).ctx (2*i+1)=s.ctx i:=by
    show m (2*i+1)=_;simp only[m];rw[aq (by lia),show(2*i+1)/2=i by lia]
   rw[Z]at this;exact j4.clean l this ((IW ((o.ctx i).wf)).mono Q) rfl
  have K:a'.defers=[]/\∃v,(results S a'.tmps).run P w'= .ok v w'/\∃v' G' E' m' r,adl v= .returned v'/\R m' r/\jw B0 w0 nt G0 (s.ke m') G' E' a w'/\j4 G' E' (s.ke m') r v':=
   ⟨p.defers,v,N,v,G',E',m',r,rfl,hR,P1,j4.clean l O hr rfl⟩
  rcases he with rfl|rfl
  ·exact K
  exact K
 cases z
theorem aO(k:P.follows .mixedOrders=ah){f:Nat}{an:Ann}{g:eh}{i:List K1}{d:Nat}(j:fu P f an=aa (g,i,d)){s:PS}{args:List V}{R:Mem->V->Prop}(l:args.length<=d)(b:Nat)
  (h:∀c,l7 P g (λe s'=>(e= .normal\/e= .ret)/\∃m' r,R m' r/\qz s' i=aa r/\Leaves s.mem s' m' r) (enter s.mem args b c)):Fg P f s args R:=NG k j l b λc _=>h c
theorem mz(B:P.follows .mixedOrders=ah){f:Nat}{an:Ann}{q:eh}{t:List K1}{o:Nat}(z:fu P f an=aa (q,t,o)){m m':Mem}{args:List V}{r:V}(C:args.length<=o)(b:Nat)
  (h:∀c,l7 P q (λe s=>(e= .normal\/e= .ret)/\qz s t=aa r/\Clean s.mem m') (enter m args b c))(F:∀i,m.ba i<=m'.ba i)
  (x:∀i b,m'.di i=aa b->m.di i=aa b\/Ni m' b)(d:∀i es,m'.mp i=aa es->m.mp i=aa es\/∀e∈es,Q7 m' e.2)(D:Im m' r):sl P f m args m' r:=by
 have k:∀s:PS,s.mem=m->Fg P f s args (λn p=>n=m'/\p=r):=by
  rintro s rfl;exact aO B z C b λc=>H8 (λe s' ⟨g,j,l⟩=>⟨g,m',r,⟨rfl,rfl⟩,j,⟨l,F,x,d,D⟩⟩) (h c)
 refine⟨(k ((start []).ke m) rfl).1,λs B0 w0 nt G0 G E a w vs hs y A u=>((k s hs).2 B0 w0 nt G0 G E a w vs y A u).mono ?_⟩;rintro e w' ⟨v,G',E',n,p,g,⟨rfl,rfl⟩,j,l⟩;exact⟨v,G',E',g,j,l⟩
theorem sl.toR{f:Nat}{s:PS}{args:List V}{m':Mem}{r:V}(h:sl P f s.mem args m' r):Fg P f s args (λj k=>j=m'/\k=r):=
 ⟨h.1,λB0 w0 nt G0 G E a w vs g i b=>(h.2 s B0 w0 nt G0 G E a w vs rfl g i b).mono λ_ _ ⟨v,G',E',c,d,e⟩=>⟨v,G',E',m',r,c,⟨rfl,rfl⟩,d,e⟩⟩
theorem nI.toE{f:Nat}{s:PS}{ds:List D}{R:D->Prop}(h:nI P f ds R):Fg P f s (ds.map .d) (λt v=>t=s.mem/\∃x,v= .d x/\R x):=by
 refine⟨h.1,λB0 w0 nt G0 G E a w vs c p g=>(h.2 G w vs c.gok (by simpa using p) λi x v hx q=>g i (.d x) v (by simp[hx]) q).mono ?_⟩;rintro e w' ⟨v,G',r,j,k,l,b,m,n,o⟩;exact⟨v,G',E,s.mem,.d r,j,⟨rfl,r,rfl,k⟩,c.nC (n.Nl λ_=>trivial) l m b.1 b.2,o⟩
theorem QS(C:P.follows .mixedOrders=ah){f:Nat}{an:Ann}{k:eh}{l:List K1}{nt:Nat}(b:fu P f an=aa (k,l,nt)){args:List D}{R:D->Prop}(F:args.length<=nt)
  (h:l7 P k (λe s=>(e= .normal\/e= .ret)/\∃r,bY s l=aa r/\R r) (start args)):nI P f args R:=by
 unfold fu at b;split at b
 ·cases b
 rename_i q g;split at b
 ·cases b
 rename_i p;split at b
 ·cases b
 rename_i c hb;split at b
 ·rename_i O Q t u;simp only[av,db]at b;obtain⟨rfl,rfl,rfl⟩:=b;simp only[H9]at h;refine⟨by unfold B3;rw[g];simp[p,hb],λG w vs x B H=>?_⟩;refine calls_of_wp g hb (wp_mono (Ys C c t (pX x B H F) (tL h)) λe a' w' A=>?_);obtain⟨s',G',E',⟨⟨z,r,o,y⟩,N⟩,j⟩:=A;obtain⟨v,n,I,J,K,L,M⟩:=Xg j u o
  have d:a'.defers=[]/\∃v,(results q a'.tmps).run P w'= .ok v w'/\∃m G' r,adl v= .returned m/\R r/\G.le G'/\G.same G' w.heap.size/\GOk G' w'/\Bel True w.heap.size w w'/\iz G' r m:=
   ⟨j.defers,v,I,v,n,r,rfl,y,J,K,L,j.below.Nl (λ_=>by rw[N];intro i v e;exact(af2 e).2.symm),M⟩
  rcases z with rfl|rfl
  ·exact d
  exact d
 cases b
end
end Go.PI
namespace Go.PI
def Z1(P:Program)(b:eh)(Q:Exit->PS->Prop):Exit->PS->Prop
 | .normal,s=>l7 P b Q s
 |e,s=>Q e s
def dZ(id:Nat)(Q:Exit->PS->Prop):Exit->PS->Prop
 | .exit i,s=>if i=id then Q .normal s else Q (.exit i) s
 |e,s=>Q e s
def ri(d:Nat)(o:lg):RI:=⟨aa d,o,ae,[]⟩
def rm(d x:Nat):RI:=⟨aa d,.kf (.t x),ae,[]⟩
def rn(o:lg):RI:=⟨ae,o,ae,[]⟩
def rg(d t:Nat)(b:Bool)(o:lg):RI:=⟨aa d,o,aa (t,b),[]⟩
def rq(l:List RI)(c:eh):eh:= .seq (.region l ag []) c
def rl(d n:Nat)(a:Bool)(x:Nat):RI:=⟨aa d,.load n a (.t x),ae,[]⟩
def rk(d x:Nat):RI:=⟨aa d,.Zq (.t x),ae,[]⟩
def rf(d o x:Nat):RI:=⟨aa d,.Ai o (.t x),ae,[]⟩
def rx(d x i:Nat):RI:=⟨aa d,.ext (.t x) i,ae,[]⟩
def ci(n:Int):ov:= .c (.int aj n)
def wi(d n a b:Nat):RI:=⟨aa d,.xn n (.t a) (.t b),ae,[]⟩
def wc(d:Nat)(n:Int):RI:=⟨aa d,.kf (.c (.int aj n)),ae,[]⟩
def wd(d:Nat)(o:BinOp)(a:Nat)(n:Int):RI:=⟨aa d,.bin o (.t a) (.c (.int aj n)),ae,[]⟩
def wb(d:Nat)(o:BinOp)(a b:Nat):RI:=⟨aa d,.bin o (.t a) (.t b),ae,[]⟩
def ws(n a b:Nat):RI:=⟨ae,.store n (.t a) (.t b),ae,[]⟩
def wn(d a:Nat):RI:=⟨aa d,.len .gd (.t a),ae,[]⟩
def wa(d n k a:Nat)(i:Int):RI:=⟨aa d,.y9 n k (.t a) (.c (.int aj i)),ae,[]⟩
def wf(d:Nat)(b:Bool):RI:=⟨aa d,.kf (.c (.bool b)),ae,[]⟩
def wo(d:Nat):RI:=⟨aa d,.kf (.c .cj),ae,[]⟩
def wp(d a b:Nat):RI:=⟨aa d,.pick (.t a) (.t b) (.c (.bool ag)),ae,[]⟩
def wq(d a b:Nat):RI:=⟨aa d,.pick (.t a) (.c (.bool ah)) (.t b),ae,[]⟩
def wx(d n a:Nat):RI:=⟨aa d,.box n (.t a),ae,[]⟩
def wm(d t:Nat)(b:Bool)(a:Nat):RI:=⟨aa d,.kf (.t a),aa (t,b),[]⟩
def wl(d t:Nat)(b:Bool)(n:Nat)(c:Bool)(a:Nat):RI:=⟨aa d,.load n c (.t a),aa (t,b),[]⟩
def wt(a:Nat)(x y:eh):eh:= .cond (.t a) x y
theorem aba{d n a b:Nat}:wi d n a b=⟨aa d,.xn n (.t a) (.t b),ae,[]⟩:=fy rfl (il _)
theorem abd{d:Nat}{n:Int}:wc d n=⟨aa d,.kf (.c (.int aj n)),ae,[]⟩:=fy rfl (il _)
theorem abc{d:Nat}{o:BinOp}{a:Nat}{n:Int}:wd d o a n=⟨aa d,.bin o (.t a) (.c (.int aj n)),ae,[]⟩:=fy rfl (il _)
theorem abe{d:Nat}{o:BinOp}{a b:Nat}:wb d o a b=⟨aa d,.bin o (.t a) (.t b),ae,[]⟩:=fy rfl (il _)
theorem ab3{n a b:Nat}:ws n a b=⟨ae,.store n (.t a) (.t b),ae,[]⟩:=fy rfl (il _)
theorem ab7{d a:Nat}:wn d a=⟨aa d,.len .gd (.t a),ae,[]⟩:=fy rfl (il _)
theorem abf{d n k a:Nat}{i:Int}:wa d n k a i=⟨aa d,.y9 n k (.t a) (.c (.int aj i)),ae,[]⟩:=fy rfl (il _)
theorem abb{d:Nat}{b:Bool}:wf d b=⟨aa d,.kf (.c (.bool b)),ae,[]⟩:=fy rfl (il _)
theorem ab6{d:Nat}:wo d=⟨aa d,.kf (.c .cj),ae,[]⟩:=fy rfl (il _)
theorem ab5{d a b:Nat}:wp d a b=⟨aa d,.pick (.t a) (.t b) (.c (.bool ag)),ae,[]⟩:=fy rfl (il _)
theorem ab4{d a b:Nat}:wq d a b=⟨aa d,.pick (.t a) (.c (.bool ah)) (.t b),ae,[]⟩:=fy rfl (il _)
theorem ab1{d n a:Nat}:wx d n a=⟨aa d,.box n (.t a),ae,[]⟩:=fy rfl (il _)
theorem ab8{d t:Nat}{b:Bool}{a:Nat}:wm d t b a=⟨aa d,.kf (.t a),aa (t,b),[]⟩:=fy rfl (il _)
theorem ab9{d t:Nat}{b:Bool}{n:Nat}{c:Bool}{a:Nat}:wl d t b n c a=⟨aa d,.load n c (.t a),aa (t,b),[]⟩:=fy rfl (il _)
theorem ab2{a:Nat}{x y:eh}:wt a x y= .cond (.t a) x y:=fy rfl (il _)
theorem abk{d n:Nat}{a:Bool}{x:Nat}:rl d n a x=⟨aa d,.load n a (.t x),ae,[]⟩:=fy rfl (il _)
theorem abl{d x:Nat}:rk d x=⟨aa d,.Zq (.t x),ae,[]⟩:=fy rfl (il _)
theorem abo{d o x:Nat}:rf d o x=⟨aa d,.Ai o (.t x),ae,[]⟩:=fy rfl (il _)
theorem abg{d x i:Nat}:rx d x i=⟨aa d,.ext (.t x) i,ae,[]⟩:=fy rfl (il _)
theorem abp{n:Int}:ci n= .c (.int aj n):=fy rfl (il _)
theorem abm{d:Nat}{o:lg}:ri d o=⟨aa d,o,ae,[]⟩:=fy rfl (il _)
theorem abj{d x:Nat}:rm d x=⟨aa d,.kf (.t x),ae,[]⟩:=fy rfl (il _)
theorem abi{o:lg}:rn o=⟨ae,o,ae,[]⟩:=fy rfl (il _)
theorem abn{d t:Nat}{b:Bool}{o:lg}:rg d t b o=⟨aa d,o,aa (t,b),[]⟩:=fy rfl (il _)
theorem abh{l:List RI}{c:eh}:rq l c= .seq (.region l ag []) c:=fy rfl (il _)
def ly(a:List K1)(r:D):Exit->PS->Prop:=λe s=>(e= .normal\/e= .ret)/\bY s a=aa r
def cif(v:V)(A B:Prop):Prop:=
 match v with
 | .d (.bool x)=>if x then A else B
 |_=>False
def goV(P:Program)(r:List RI)(K:PS->Prop)(d:Option Nat)(s:PS)(x:Option V):Prop:=
 match x with
 |some v=>mc P r (s.put d v) K
 |none=>False
def goE(P:Program)(r:List RI)(K:PS->Prop)(d:Option Nat)(s:PS)(x:Option nJ):Prop:=
 match x with
 |some (ids,e)=>mc P r (e.app d (s.vz ids)) K
 |none=>False
def Bo(P:Program)(r:List RI)(K:PS->Prop)(s:PS):Prop:=mc P r s K
section
variable{P:Program}{Q:Exit->PS->Prop}{K:PS->Prop}{s:PS}{r:List RI}{d:Option Nat}{af:List Nat}
theorem jB{a b:eh}:l7 P (.seq a b) Q s=l7 P a (Z1 P b Q) s:=by
 rw[Qg]
 congr 1
 funext e s'
 cases e<;>rfl
theorem VS{id:Nat}{c:eh}:l7 P (.block id c) Q s=l7 P c (dZ id Q) s:=by
 rw[bS]
 congr 1
 funext e s'
 cases e<;>rfl
theorem OL{c:ov}{a b:eh}:l7 P (.cond c a b) Q s=cif (c.ev s) (l7 P a Q s) (l7 P b Q s):=fy rfl (il _)
theorem N0{b:eh}:Z1 P b Q .normal s=l7 P b Q s:=fy rfl (il _)
theorem JQ{b:eh}{i:Nat}:Z1 P b Q (.exit i) s=Q (.exit i) s:=fy rfl (il _)
theorem wV{b:eh}:Z1 P b Q .ret s=Q .ret s:=fy rfl (il _)
theorem vW{id:Nat}:dZ id Q .normal s=Q .normal s:=fy rfl (il _)
theorem nB{id i:Nat}:dZ id Q (.exit i) s=if i=id then Q .normal s else Q (.exit i) s:=fy rfl (il _)
theorem NX{id:Nat}:dZ id Q .ret s=Q .ret s:=fy rfl (il _)
theorem EY{a:List K1}{x:D}:ly a x .normal s=(bY s a=aa x):=by simp[ly]
theorem vI{a:List K1}{x:D}:ly a x .ret s=(bY s a=aa x):=by simp[ly]
theorem BF{x:Bool}{A B:Prop}:cif (.d (.bool x)) A B=if x then A else B:=fy rfl (il _)
theorem aI{v:V}:goV P r K d s (aa v)=mc P r (s.put d v) K:=fy rfl (il _)
theorem Dk{ids:List Nat}{e:my}:goE P r K d s (aa (ids,e))=mc P r (e.app d (s.vz ids)) K:=fy rfl (il _)
theorem QK:Bo P r K s=mc P r s K:=fy rfl (il _)
theorem RB{x:ov}:mc P (⟨d,.kf x,ae,af⟩::r) s K=mc P r (s.put d (x.ev s)) K:=fy rfl (il _)
theorem RE{n:Nat}{g:Bool}{x:ov}:mc P (⟨d,.load n g x,ae,af⟩::r) s K=goV P r K d s (Cw s n g (x.ev s)):=by
 show(match(Cw s n g (x.ev s)).map my.uk with|some (ids,e)=>_|none=>_)=_
 cases Cw s n g (x.ev s)<;>rfl
theorem RG{n:Nat}{x i:ov}:mc P (⟨d,.xn n x i,ae,af⟩::r) s K=goV P r K d s (match i.ev s with| .d (.int _ k)=>Ld s n k (x.ev s)|_=>ae):=by
 show(match(match i.ev s with| .d (.int _ k)=>(Ld s n k (x.ev s)).map my.uk|_=>ae)with|some (ids,e)=>_|none=>_)=_
 cases b:i.ev s with
 |d z=>cases z with
  |int k a=>simp only;cases Ld s n a (x.ev s)<;>rfl
  |_=>rfl
 |_=>rfl
theorem RF{k:TK}{x:ov}:mc P (⟨d,.len k x,ae,af⟩::r) s K=goV P r K d s ((Pz s k (x.ev s)).map λn=> .d (.int aj n)):=by
 show(match(Pz s k (x.ev s)).map (λn=>my.uk (.d (.int aj n)))with|some (ids,e)=>_|none=>_)=_
 cases Pz s k (x.ev s)<;>rfl
def a88(op:BinOp):V->V->Option V
 | .d a,.d b=>(pN op a b).map .d
 |_,_=>ae
theorem vX{op:BinOp}{a b:D}:a88 op (.d a) (.d b)=(pN op a b).map .d:=fy rfl (il _)
theorem yL{op:BinOp}{x y:ov}:mc P (⟨d,.bin op x y,ae,af⟩::r) s K=goV P r K d s (a88 op (x.ev s) (y.ev s)):=by
 show(match(match x.ev s,y.ev s with| .d a,.d b=>(pN op a b).map λr=>my.uk (.d r)|_,_=>ae)with|some (ids,e)=>_|none=>_)=_
 cases hx:x.ev s with
 |d a=>
  cases hy:y.ev s with
  |d b=>simp only[vX];cases pN op a b<;>rfl
  |_=>rfl
 |_=>rfl
theorem DJ{c:ov}{a:ov}{b:ov}:mc P (⟨d,(.pick c a b),ae,af⟩::r) s K=goE P r K d s ((lg.pick c a b).qi (s.base+d.getD 0) s):=fy rfl (il _)
theorem HM{z:List D}:mc P (⟨d,(.alloc z),ae,af⟩::r) s K=goE P r K d s ((lg.alloc z).qi (s.base+d.getD 0) s):=fy rfl (il _)
theorem a6j{n:Nat}{x:ov}:mc P (⟨d,(.box n x),ae,af⟩::r) s K=goE P r K d s ((lg.box n x).qi (s.base+d.getD 0) s):=fy rfl (il _)
theorem HJ{n:Nat}{a:ov}{x:ov}:mc P (⟨d,(.store n a x),ae,af⟩::r) s K=goE P r K d s ((lg.store n a x).qi (s.base+d.getD 0) s):=fy rfl (il _)
theorem YA{x:ov}:mc P (⟨d,(.Zq x),ae,af⟩::r) s K=goE P r K d s ((lg.Zq x).qi (s.base+d.getD 0) s):=fy rfl (il _)
theorem a6f{o:Nat}{x:ov}:mc P (⟨d,(.Ai o x),ae,af⟩::r) s K=goE P r K d s ((lg.Ai o x).qi (s.base+d.getD 0) s):=fy rfl (il _)
theorem a3m{l:Nat}{n:Nat}{x:ov}{i:ov}:mc P (⟨d,(.y9 l n x i),ae,af⟩::r) s K=goE P r K d s ((lg.y9 l n x i).qi (s.base+d.getD 0) s):=fy rfl (il _)
theorem a3l{x:ov}{i:ov}:mc P (⟨d,(.dB x i),ae,af⟩::r) s K=goE P r K d s ((lg.dB x i).qi (s.base+d.getD 0) s):=fy rfl (il _)
theorem a3o{o:Nat}{n:Nat}{g:Bool}{x:ov}:mc P (⟨d,(.iE o n g x),ae,af⟩::r) s K=goE P r K d s ((lg.iE o n g x).qi (s.base+d.getD 0) s):=fy rfl (il _)
theorem a6h{ks:List LK}{n:Bool}{x:ov}{y:ov}:mc P (⟨d,(.eqs ks n x y),ae,af⟩::r) s K=goE P r K d s ((lg.eqs ks n x y).qi (s.base+d.getD 0) s):=fy rfl (il _)
theorem YD{k:TK}{n:Bool}{x:ov}:mc P (⟨d,(.Kt k n x),ae,af⟩::r) s K=goE P r K d s ((lg.Kt k n x).qi (s.base+d.getD 0) s):=fy rfl (il _)
theorem a6k{n:Bool}{x:ov}{y:ov}:mc P (⟨d,(.beq n x y),ae,af⟩::r) s K=goE P r K d s ((lg.beq n x y).qi (s.base+d.getD 0) s):=fy rfl (il _)
theorem a9q{op:UnOp}{x:ov}:mc P (⟨d,(.un op x),ae,af⟩::r) s K=goE P r K d s ((lg.un op x).qi (s.base+d.getD 0) s):=fy rfl (il _)
theorem a3q{k:IntKind}{x:ov}:mc P (⟨d,(.conv k x),ae,af⟩::r) s K=goE P r K d s ((lg.conv k x).qi (s.base+d.getD 0) s):=fy rfl (il _)
theorem YF{x:ov}:mc P (⟨d,(.fO x),ae,af⟩::r) s K=goE P r K d s ((lg.fO x).qi (s.base+d.getD 0) s):=fy rfl (il _)
theorem YK{z:List D}{ps:List (Nat×Nat×ov)}:mc P (⟨d,(.build z ps),ae,af⟩::r) s K=goE P r K d s ((lg.build z ps).qi (s.base+d.getD 0) s):=fy rfl (il _)
theorem a3s{a:Bool}{n:Nat}{sz:Nat}{z:List D}{ps:List (Nat×Nat×ov)}:mc P (⟨d,(.xz a n sz z ps),ae,af⟩::r) s K=goE P r K d s ((lg.xz a n sz z ps).qi (s.base+d.getD 0) s):=fy rfl (il _)
theorem Gv{sz:Nat}{b:Nat}{x:ov}{y:ov}:mc P (⟨d,(.app sz b x y),ae,af⟩::r) s K=goE P r K d s ((lg.app sz b x y).qi (s.base+d.getD 0) s):=fy rfl (il _)
theorem XZ{n:Nat}{x:ov}{lo:Option ov}{a:Option ov}:mc P (⟨d,(.slice n x lo a),ae,af⟩::r) s K=goE P r K d s ((lg.slice n x lo a).qi (s.base+d.getD 0) s):=fy rfl (il _)
theorem YB:mc P (⟨d,.Ks,ae,af⟩::r) s K=goE P r K d s (lg.Ks.qi (s.base+d.getD 0) s):=fy rfl (il _)
theorem RD{a:KK}{z:D}{x:ov}{i:ov}{ok:Bool}:mc P (⟨d,(.lookup a z x i ok),ae,af⟩::r) s K=goE P r K d s ((lg.lookup a z x i ok).qi (s.base+d.getD 0) s):=fy rfl (il _)
theorem a3i{a:KK}{x:ov}{k:ov}{v:ov}:mc P (⟨d,(.cK a x k v),ae,af⟩::r) s K=goE P r K d s ((lg.cK a x k v).qi (s.base+d.getD 0) s):=fy rfl (il _)
theorem YC{f:Nat}{j9:List ov}:mc P (⟨d,(.Oj f j9),ae,af⟩::r) s K=goE P r K d s ((lg.Oj f j9).qi (s.base+d.getD 0) s):=fy rfl (il _)
theorem a6g{x:ov}{i:Nat}:mc P (⟨d,(.ext x i),ae,af⟩::r) s K=goE P r K d s ((lg.ext x i).qi (s.base+d.getD 0) s):=fy rfl (il _)
theorem RC{mx:Bool}{x:ov}{y:ov}:mc P (⟨d,(.Fm mx x y),ae,af⟩::r) s K=goE P r K d s ((lg.Fm mx x y).qi (s.base+d.getD 0) s):=fy rfl (il _)
theorem RL{n:Nat}:mc P (⟨d,(.zr n),ae,af⟩::r) s K=goE P r K d s ((lg.zr n).qi (s.base+d.getD 0) s):=fy rfl (il _)
theorem a3j{g:Nat}{n:Nat}{x:ov}:mc P (⟨d,(.init g n x),ae,af⟩::r) s K=goE P r K d s ((lg.init g n x).qi (s.base+d.getD 0) s):=fy rfl (il _)
theorem RK{f:Nat}{args:List ov}:mc P (⟨d,.call f args,ae,af⟩::r) s K=Gt P f (args.map (·.ev s)) [] ag d s (Bo P r K):=fy rfl (il _)
theorem GB{f:Nat}{args:List V}{j9 ds:List D}{own:Bool}{x:D}(a:Ln s args=aa ds)(b:iv P f (ds++j9) x)(c:x.flat=ah\/(own=ag/\args.all V.isD=ah))(e:mc P r (s.put d (.d x)) K):Gt P f args j9 own d s (Bo P r K):=
 ⟨ds,x,a,b.toC,c,e⟩
theorem Ic{f:Nat}{x:D}(a:iv P f [] x)(b:mc P r (s.put d (.d x)) K):Gt P f [] [] ag d s (Bo P r K):=⟨[],x,rfl,a.toC,.inr ⟨rfl,rfl⟩,b⟩
theorem gq{f:Nat}{a x:D}(b:iv P f [a] x)(c:mc P r (s.put d (.d x)) K):Gt P f [.d a] [] ag d s (Bo P r K):=⟨[a],x,rfl,b.toC,.inr ⟨rfl,rfl⟩,c⟩
theorem ir{f:Nat}{a b x:D}(c:iv P f [a,b] x)(e:mc P r (s.put d (.d x)) K):Gt P f [.d a,.d b] [] ag d s (Bo P r K):=⟨[a,b],x,rfl,c.toC,.inr ⟨rfl,rfl⟩,e⟩
theorem Fw{f:Nat}{a b c x:D}(e:iv P f [a,b,c] x)(g:mc P r (s.put d (.d x)) K):Gt P f [.d a,.d b,.d c] [] ag d s (Bo P r K):=⟨[a,b,c],x,rfl,e.toC,.inr ⟨rfl,rfl⟩,g⟩
theorem cF{op:lg}{t:Nat}{b:Bool}(h:s.tmp t= .d (.bool b)):mc P (⟨d,op,aa (t,b),af⟩::r) s K=mc P (⟨d,op,ae,af⟩::r) s K:=by
 have e:wanted (⟨d,op,aa (t,b),af⟩:RI) s=aa true:=by unfold wanted;simp[h]
 rw[Cb,e,Cb];rfl
theorem LW{op:lg}{t:Nat}{b:Bool}(h:s.tmp t= .d (.bool !b)):mc P (⟨d,op,aa (t,b),af⟩::r) s K=mc P r (s.put d (.d (.Bb []))) K:=by
 have e:wanted (⟨d,op,aa (t,b),af⟩:RI) s=aa false:=by unfold wanted;simp only[h];cases b<;>rfl
 rw[Cb,e]
theorem LV{op:lg}{t:Nat}{b:Bool}(h:s.tmp t= .d (.Bb [])):mc P (⟨d,op,aa (t,b),af⟩::r) s K=mc P r (s.put d (.d (.Bb []))) K:=by
 have e:wanted (⟨d,op,aa (t,b),af⟩:RI) s=aa false:=by unfold wanted;simp only[h]
 rw[Cb,e]
theorem wO{c:ov}{a b:eh}(h:c.ev s= .d (.bool ah)):l7 P (.cond c a b) Q s=l7 P a Q s:=by
 rw[OL,h,BF,bc rfl]
theorem wP{c:ov}{a b:eh}(h:c.ev s= .d (.bool ag)):l7 P (.cond c a b) Q s=l7 P b Q s:=by
 rw[OL,h,BF,aq (by decide)]
theorem a2h{b:Nat}:sh b []=[]:=rfl
theorem WG{b i:Nat}{l:List Nat}:sh b (i::l)=(b+i)::sh b l:=rfl
theorem GK:s8 []=[]:=rfl
theorem BM{o:RI}{l:List RI}:s8 (o::l)=o.s8++s8 l:=rfl
theorem V4{ops:List RI}:l7 P (.region ops ag []) Q s=mc P ops s (Q .normal):=fy rfl (il _)
theorem QI{ops:List RI}:l7 P (.region ops ah []) Q s=mc P ops (s.vz (sh s.base (s8 ops))) (Q .normal):=fy rfl (il _)
theorem RA{n:Nat}{x j k:ov}:mc P (⟨d,(.slice3 n x j k),ae,af⟩::r) s K=goE P r K d s ((lg.slice3 n x j k).qi (s.base+d.getD 0) s):=fy rfl (il _)
theorem a3k{l n:Nat}{g:Bool}{x i:ov}:mc P (⟨d,(.kX l n g x i),ae,af⟩::r) s K=goE P r K d s ((lg.kX l n g x i).qi (s.base+d.getD 0) s):=fy rfl (il _)
def AS(P:Program)(f:Nat)(args:List V)(d:Option Nat)(s:PS)(K:PS->Prop):Prop:=∃m' x,sl P f s.mem args m' x/\K ((s.ke m').put d x)
def a1e(P:Program)(f:Nat)(args:List V)(d:Option Nat)(s:PS)(K:PS->Prop):Prop:=∃x,OG P f s args x/\K (s.put d (.d x))
theorem YJ{f:Nat}{args:List ov}:mc P (⟨d,.Aq f args,ae,af⟩::r) s K=AS P f (args.map (·.ev s)) d s (Bo P r K):=fy rfl (il _)
theorem YI{f:Nat}{args:List ov}:mc P (⟨d,.Xm f args,ae,af⟩::r) s K=a1e P f (args.map (·.ev s)) d s (Bo P r K):=fy rfl (il _)
theorem nh{f:Nat}{args:List V}{m':Mem}{x:V}(a:sl P f s.mem args m' x)(b:mc P r ((s.ke m').put d x) K):AS P f args d s (Bo P r K):=⟨m',x,a,b⟩
theorem fM{f:Nat}{args:List V}{x:D}(a:OG P f s args x)(b:mc P r (s.put d (.d x)) K):a1e P f args d s (Bo P r K):=⟨x,a,b⟩
def IL(P:Program)(c:Option D)(own:Bool)(args:List V)(d:Option Nat)(s:PS)(K:PS->Prop):Prop:=
 match c with
 |some (.qb g j9)=>Gt P g args j9 own d s K
 |_=>False
theorem NN{g:Nat}{j9:List D}{own:Bool}{args:List V}:IL P (aa (.qb g j9)) own args d s K=Gt P g args j9 own d s K:=fy rfl (il _)
theorem YG{f:ov}{args:List ov}:mc P (⟨d,.zq f args,ae,af⟩::r) s K=IL P (snap s (f.ev s)) (!(f.ev s).isD) (args.map (·.ev s)) d s (Bo P r K):=by
 show(match snap s (f.ev s)with|some (.qb g j9)=>Gt P g (args.map λx:ov=>x.ev s) j9 (!(f.ev s).isD) d s (Bo P r K)|_=>False)=_
 unfold IL;split<;>rfl
theorem mX{f:Nat}{j9:List D}{a x:D}(b:iv P f (a::j9) x)(c:mc P r (s.put d (.d x)) K):Gt P f [.d a] j9 ag d s (Bo P r K):=⟨[a],x,rfl,b.toC,.inr ⟨rfl,rfl⟩,c⟩
theorem Q2{f:Nat}{j9:List D}{a b x:D}(c:iv P f (a::b::j9) x)(e:mc P r (s.put d (.d x)) K):Gt P f [.d a,.d b] j9 ag d s (Bo P r K):=⟨[a,b],x,rfl,c.toC,.inr ⟨rfl,rfl⟩,e⟩
def tS(P:Program)(f:Nat)(args:List V)(d:Option Nat)(s:PS)(K:PS->Prop):Prop:=∃R,Fg P f s args R/\∀m' x,R m' x->K ((s.ke m').put d x)
theorem YH{f:Nat}{args:List ov}:mc P (⟨d,.ua f args,ae,af⟩::r) s K=tS P f (args.map (·.ev s)) d s (Bo P r K):=fy rfl (il _)
theorem ml{f:Nat}{args:List V}{R:Mem->V->Prop}(a:Fg P f s args R)(b:∀m' x,R m' x->mc P r ((s.ke m').put d x) K):tS P f args d s (Bo P r K):=⟨R,a,b⟩
def FM(P:Program)(v:V)(args:List V)(d:Option Nat)(s:PS)(K:PS->Prop):Prop:=
 match v with
 | .d (.qb g j9)=>tS P g (args++j9.map .d) d s K
 |_=>False
theorem mO{g:Nat}{j9:List D}{args:List V}:FM P (.d (.qb g j9)) args d s K=tS P g (args++j9.map .d) d s K:=fy rfl (il _)
theorem yK{f:ov}{args:List ov}:mc P (⟨d,.Q3 f args,ae,af⟩::r) s K=FM P (f.ev s) (args.map (·.ev s)) d s (Bo P r K):=by
 show(match f.ev s with| .d (.qb g j9)=>∃R,Fg P g s ((args.map λx:ov=>x.ev s)++j9.map V.d) R/\∀m' x,R m' x->Bo P r K ((s.ke m').put d x)|_=>False)=_
 unfold FM;split<;>rfl
theorem RH{n sz:Nat}{z:List D}{ps:List (Nat×Nat×ov)}:mc P (⟨d,(.dT n sz z ps),ae,af⟩::r) s K=goE P r K d s ((lg.dT n sz z ps).qi (s.base+d.getD 0) s):=fy rfl (il _)
theorem QZ{n:Nat}{x j:ov}:mc P (⟨d,(.P9 n x j),ae,af⟩::r) s K=goE P r K d s ((lg.P9 n x j).qi (s.base+d.getD 0) s):=fy rfl (il _)
theorem a3u{sz b:Nat}{z:List D}{x y:ov}:mc P (⟨d,(.iG sz b z x y),ae,af⟩::r) s K=goE P r K d s ((lg.iG sz b z x y).qi (s.base+d.getD 0) s):=fy rfl (il _)
theorem a3r{x:ov}:mc P (⟨d,(.vQ x),ae,af⟩::r) s K=goE P r K d s ((lg.vQ x).qi (s.base+d.getD 0) s):=fy rfl (il _)
theorem a3t{l n:Nat}{x:ov}:mc P (⟨d,(.vY l n x),ae,af⟩::r) s K=goE P r K d s ((lg.vY l n x).qi (s.base+d.getD 0) s):=fy rfl (il _)
theorem a3p{n:Nat}{x j k:ov}:mc P (⟨d,(.Iz n x j k),ae,af⟩::r) s K=goE P r K d s ((lg.Iz n x j k).qi (s.base+d.getD 0) s):=fy rfl (il _)
theorem a3g{n:Nat}{x:ov}{lo a mx:Option ov}:mc P (⟨d,(.Ot n x lo a mx),ae,af⟩::r) s K=goE P r K d s ((lg.Ot n x lo a mx).qi (s.base+d.getD 0) s):=fy rfl (il _)
theorem a3h{x:ov}:mc P (⟨d,(.trim x),ae,af⟩::r) s K=goE P r K d s ((lg.trim x).qi (s.base+d.getD 0) s):=fy rfl (il _)
theorem a6i{z:List D}{x:ov}:mc P (⟨d,(.clr z x),ae,af⟩::r) s K=goE P r K d s ((lg.clr z x).qi (s.base+d.getD 0) s):=fy rfl (il _)
def a1d(P:Program)(a:KK)(sz b:Nat)(x k y:V)(ts:List Nat)(d:Option Nat)(s:PS)(K:PS->Prop):Prop:=∃id s',II s id a sz b x k y ts s'/\K (s'.put d .no)
theorem a3n{a:KK}{sz b:Nat}{x k y:ov}{ts:List Nat}:mc P (⟨d,(.dP a sz b x k y ts),ae,af⟩::r) s K=a1d P a sz b (x.ev s) (k.ev s) (y.ev s) ts d s (Bo P r K):=fy rfl (il _)
theorem BW{a b:eh}:l7 P (.both a b) Q s=(l7 P a Q s/\l7 P b Q s):=fy rfl (il _)
theorem K5(ids:List Nat)(h:Q .normal (s.x7 ids)):l7 P .freeze Q s:=⟨ids,h⟩
theorem jW{n:Nat}{v:V}:s.put (aa n) v={s with tmp:=lu s.tmp n v}:=fy rfl (il _)
theorem QN{v:V}:s.put ae v=s:=fy rfl (il _)
theorem AL{n:Nat}:(ov.t n).ev s=s.tmp n:=fy rfl (il _)
theorem a7r{x:D}:(ov.c x).ev s= .d x:=fy rfl (il _)
end
section
variable{P:Program}{Q:Exit->PS->Prop}{K:PS->Prop}{s:PS}{r:List RI}{d:Option Nat}{af:List Nat}
def MX(n k:Nat)(I:Nat->PS->Prop)(Q:Exit->PS->Prop):Exit->PS->Prop
 | .normal,s=>k<n/\I (k+1) s
 |e,s=>Q e s
theorem lS{n k:Nat}{I:Nat->PS->Prop}:MX n k I Q .normal s=(k<n/\I (k+1) s):=fy rfl (il _)
theorem TG{n k i:Nat}{I:Nat->PS->Prop}:MX n k I Q (.exit i) s=Q (.exit i) s:=fy rfl (il _)
theorem a03{n k:Nat}{I:Nat->PS->Prop}:MX n k I Q .ret s=Q .ret s:=fy rfl (il _)
theorem gf{c:eh}(n:Nat)(I:Nat->PS->Prop)(o:I 0 s)(h:∀k s',k<=n->I k s'->l7 P c (MX n k I Q) s'):l7 P (.loop c) Q s:=by
 refine QG (λs'=>∃k,k<=n/\I k s') (λs'=>leastOf λj=>∃k,k<=n/\n-k=j/\I k s') ⟨0,aei _,o⟩ ?_;rintro s' ⟨m,f,b⟩;obtain⟨⟨k,t,u,q⟩,_⟩:=leastOf_spec (p:=λj=>∃k,k<=n/\n-k=j/\I k s') ⟨n-m,m,f,rfl,b⟩;refine H8 (λe i l=>?_) (h k s' t q)
 cases e with
 |normal=>
  obtain⟨g,a⟩:=l;refine⟨⟨k+1,g,a⟩,?_⟩;have:=(leastOf_spec (p:=λj=>∃k,k<=n/\n-k=j/\I k i) ⟨n-(k+1),k+1,g,rfl,a⟩).2 _ ⟨k+1,g,rfl,a⟩;lia
 |_=>exact l
def u0(s:PS)(id sz:Nat)(dv:List (List D))(v:V):Prop:=
 (dv=[]/\v= .d .cj)\/(dv≠[]/\v= .ref id (s.ba id) dv.length/\s.di id=aa (.arr sz dv))
theorem u0.nil{id sz:Nat}:u0 s id sz [] (.d .cj):= .inl ⟨rfl,rfl⟩
theorem u0.mono{s s':PS}{id sz:Nat}{dv:List (List D)}{v:V}(h:u0 s id sz dv v)(e:s'.ba id=s.ba id)(hb:s'.di id=s.di id):u0 s' id sz dv v:=by
 rcases h with ⟨a,b⟩|⟨a,b,c⟩
 ·exact .inl ⟨a,b⟩
 exact .inr ⟨a,by rw[e];exact b,by rw[hb];exact c⟩
structure Grown(s s':PS)(d id sz:Nat)(dv:List (List D)):Prop where
 tmp:s'.tmp=lu s.tmp d (.ref id (s'.ba id) dv.length)
 di:s'.di=lu s.di id (aa (.arr sz dv))
 ba:∀j,j≠id->s'.ba j=s.ba j
 mp:s'.mp=s.mp
 base:s'.base=s.base
theorem Grown.acc{s s':PS}{d id sz:Nat}{dv:List (List D)}(h:Grown s s' d id sz dv)(a:dv≠[]):u0 s' id sz dv (s'.tmp d):=
 .inr ⟨a,by rw[h.tmp,de],by rw[h.di,de]⟩
theorem r4{d sz b:Nat}{x y:ov}{dv ys:List (List D)}{osz:Option Nat}(hx:u0 s (s.base+d) sz dv (x.ev s))(hy:pj s (y.ev s)=aa (ys,osz))(c:osz.getD sz=sz)
  (k:(ys.all λe=>e.all D.one)=ah)(hb:(dv.length+ys.length)*b<=2^47)(i:ys≠[])(h:∀s',Grown s s' d (s.base+d) sz (dv++ys)->mc P r s' K):
  mc P (⟨aa d,.app sz b x y,ae,af⟩::r) s K:=by
 rw[Gv];have m:0<ys.length:=W8.2 i;rcases hx with ⟨rfl,hx⟩|⟨l,hx,a⟩
 ·simp only[lg.qi,hx,hy,c,jj];rw[bc trivial,aq (by lia),bc (by simpa using hb),Dk];refine h _ ⟨?_,?_,?_,rfl,rfl⟩
  ·simp[my.app,PS.put,PS.vz,de]
  ·simp[my.app,PS.put,PS.vz]
  intro j f;simp[my.app,PS.put,PS.vz,ie _ _ _ _ f]
 have g:s.dv (s.base+d) (s.ba (s.base+d))=aa (sz,dv):=by
  unfold PS.dv;rw[bc rfl,a]
 simp only[lg.qi,hx,hy,c,jj,g];rw[bc trivial,bc ⟨k,trivial,trivial,hb⟩,Dk];refine h _ ⟨?_,?_,?_,rfl,rfl⟩
 ·simp[my.app,PS.put,PS.vz]
 ·simp[my.app,PS.put,PS.vz]
 intro j f;simp[my.app,PS.put,PS.vz]
def RQ(M:PS->Prop)(Q:Exit->PS->Prop):Exit->PS->Prop
 | .normal,s=>M s
 |e,s=>Q e s
theorem DQ{M:PS->Prop}:RQ M Q .normal s=M s:=fy rfl (il _)
theorem RP{M:PS->Prop}{i:Nat}:RQ M Q (.exit i) s=Q (.exit i) s:=fy rfl (il _)
theorem YQ{M:PS->Prop}:RQ M Q .ret s=Q .ret s:=fy rfl (il _)
theorem jV{c b:eh}(M:PS->Prop)(a:l7 P c (RQ M Q) s)(f:∀s',M s'->l7 P b Q s'):l7 P c (Z1 P b Q) s:=
 H8 (λe s' h=>by cases e<;>first|exact f s' h|exact h) a
theorem Zd{l:List RI}(M:PS->Prop)(a:mc P l s M)(b:∀s',M s'->K s'):mc P l s K:=qM b a
theorem wv{c b:eh}{i:Nat}(M:PS->Prop)(g:l7 P c (dZ i (RQ M Q)) s)(f:∀s',M s'->l7 P b Q s'):l7 P c (dZ i (Z1 P b Q)) s:=
 H8 (λe s' h=>by
  cases e with
  |exit j=>
   rw[nB]at h|-;split
   ·rename_i a;rw[bc a]at h;exact f s' h
   rename_i a;rw[aq a]at h;exact h
  |normal=>exact f s' h
  |_=>exact h) g
def Hm(s:PS)(ids:List Nat)(j:Nat):Option B:=match s.di j with
 |some (.loc cs)=>aa (.loc (cs.map (C.x7 s ids)))
 |some (.ru sz dv)=>aa (Zn (.ru sz (dv.map λe=>e.map (C.x7 s ids))))
 |b=>b
def rH(s:PS)(ids:List Nat)(j:Nat):Option (List (D×C)):=(s.mp j).map λes=>es.map λe=>(e.1,C.x7 s ids e.2)
theorem vC(i:Nat):s.x7 [i]={s with tmp:=λt=>(s.tmp t).x7 s [i],di:=lu (Hm s [i]) i ae,mp:=lu (rH s [i]) i ae}:=rfl
theorem aL{ids:List Nat}(h:ids≠[]):s.x7 ids=PS.vz ids {s with tmp:=λt=>(s.tmp t).x7 s ids,di:=Hm s ids,mp:=rH s ids}:=by
 cases ids with
 |nil=>exact absurd rfl h
 |cons i r=>rfl
theorem Dl{ids:List Nat}(h:ids≠[])(t:Nat):(s.x7 ids).tmp t=(s.tmp t).x7 s ids:=by rw[aL h,iO]
theorem L9{ids:List Nat}(h:ids≠[]){i:Nat}(a:i∉ids):(s.x7 ids).di i=Hm s ids i:=by rw[aL h,(cB _ _ _).1,aq a]
theorem vD{ids:List Nat}(h:ids≠[]){i:Nat}(a:i∉ids):(s.x7 ids).mp i=rH s ids i:=by rw[aL h,(cB _ _ _).2,aq a]
theorem iN(ids:List Nat):∀(s:PS),(s.vz ids).ba=s.ba:=by
 induction ids with
 |nil=>intro s;rfl
 |cons i r a=>intro s;exact a _
theorem aK{ids:List Nat}(h:ids≠[]):(s.x7 ids).ba=s.ba:=by rw[aL h,iN]
theorem KZ{ops:List RI}{a:List Nat}:l7 P (.region ops ah a) Q s=mc P ops ((s.x7 (sh s.base a)).vz (sh s.base (s8 ops))) (Q .normal):=fy rfl (il _)
theorem iv.Nl{f:Nat}{args:List D}{r a:D}(h:iv P f args r)(j:∀G v,iz G r v->iz G a v):iv P f args a:=by
 refine⟨h.1,λG w vs b g i=>(h.2 G w vs b g i).mono ?_⟩;rintro e w' ⟨v,G',c,k,l,m,n,o⟩;exact⟨v,G',c,k,l,m,n,j _ _ o⟩
theorem iv.split{f sz:Nat}{b:List D}{r:D}(j:iv P f (.cj::b) r)(k:iv P f (.Pa::b) r):iv P f (.gd sz []::b) r:=by
 refine⟨j.1,λG w vs g e l=>?_⟩
 have m:vs.size=b.length+1:=by simpa using e
 have h:=l 0 (.gd sz []) vs[0] rfl (bz (by lia))
 have a:∀y:D,iz G y vs[0]->∀(i:Nat) (x:D) (v:Value),(y::b)[i]? =aa x->vs[i]? =aa v->iz G x v:=by
  intro y hy i x v hx c
  cases i with
  |zero=>
   simp only[iw,av]at hx;rw[bz (by lia)]at c
   injection c with c
   subst hx c;exact hy
  |succ i=>exact l (i+1) x v hx c
 generalize n:vs[0]=v0 at h a
 cases h with
 |Y3=>exact j.2 G w vs g (by simpa using e) (a _ .cj)
 |gd=>exact k.2 G w vs g (by simpa using e) (a _ .Pa)
 |bN=>exact k.2 G w vs g (by simpa using e) (a _ .Pa)
theorem Mc{sz:Nat}:∀G v,iz G .cj v->iz G (.gd sz []) v:=by
 intro G v h;cases h;exact .Y3
end
attribute [go_sem] aba abd abc abe ab3 ab7 abf abb ab6 ab5 ab4 ab1 ab8 ab9 ab2 abk abl abo abg abp a1t List.getD_cons_succ abm abj abi abn abh du ic xS V4 QI jB wO wP VS QH tK N0 JQ wV vW nB NX vI EY V6 cF LW LV RB DJ RF yL RG RE a6j HM a3m a3l a3k YK HJ YA a6f a3o a6h YD a6k a9q a3q YF a3s XZ RA RH QZ a3g a3h a6i a3u a3r a3t a3p a3n YB RD a3i YC a6g RC RL a3j RK YJ YI YG NN YH yK mO aI Dk jW QN AL a7r ar BM GK RI.s8 a2h WG PS.vz QK mJ Wx Sk aQ PS.K2 B.Ei mkt V.ent PS.elc a8s Mz iw mq lg.qi V.cells afi Ae my.app PS.put my.uk T2 PS.cs PS.dv Option.getD afd Option.bind Cw Ac Pz Ld afk afl mkv mkd Mj C.toV V.toC vX pN fC GS bY CZ eP Zg a5o Int.le_refl Int.toNat_zero JC gj Ad and_self or_true true_or true_and and_true Kr Nc patch List.append qc ub pt X8 adh C.one D.one Iq Ip rv bm cq ew wK My List.drop_succ_cons adp Qh Rs gp Bool.true_eq_false ne_eq not_false_eq_true not_true_eq_false decide_true decide_false JA Option.toList_none start gt_iff_lt ge_iff_le Ln snap V.isD D.flat D.scalar av D.bool.injEq D.int.injEq V.live C3 Ps da bp isNil lS TG a03 DQ RP YQ Nat.lt_irrefl Int.lt_irrefl eq_self i7 Po Xk chunks VK acg
def Rh:eh:=
 rq [wx 3 2 0,wx 4 2 1,wx 5 2 2,wc 6 0] (rq [wa 7 2 1 4 0,rl 8 1 ag 7,wa 9 2 1 3 0,
 rl 10 1 ag 9,wb 11 .sub 8 10,wa 12 2 1 5 1,rl 13 1 ag 12,wa 14 2 1 3 1,rl 15 1 ag 14,
 wb 16 .sub 13 15,wb 17 .mul 11 16,wa 18 2 1 4 1,rl 19 1 ag 18,wa 20 2 1 3 1,rl 21 1 ag 20,
 wb 22 .sub 19 21,wa 23 2 1 5 0,rl 24 1 ag 23,wa 25 2 1 3 0,rl 26 1 ag 25,wb 27 .sub 24 26,
 wb 28 .mul 22 27,wb 29 .sub 17 28,rm 6 29] cd)
def Ke:eh:=
 rq [wc 2 0] (ay (dh 0 (rq [rm 4 0,wd 5 .lss 4 0,rm 3 5] (wt 3 (rq [wc 2 (-1)] cd) (rq [rm 7 0,
 wd 8 .gtr 7 0,rm 6 8] (wt 6 (rq [wc 2 1] cd) bq))))) (rq [wc 2 0] cd))
def Re:eh:=
 rq [wx 2 2 0,wx 3 2 1,ri 4 (.alloc [.int aj 0,.int aj 0])] (rq [wa 5 2 1 2 0,rl 6 1 ag 5,
 wa 7 2 1 3 0,rl 8 1 ag 7,wb 9 .sub 6 8,wa 10 2 1 2 1,rl 11 1 ag 10,wa 12 2 1 3 1,
 rl 13 1 ag 12,wb 14 .sub 11 13,ri 15 (.build [.int aj 0,.int aj 0] [(0,1,.t 9),(1,1,.t 14)]),ws 2 4 15] cd)
def G8:eh:=
 rq [wx 1 2 0,wf 2 ag] (rq [wa 3 2 1 1 0,rl 4 1 ag 3,wd 5 .geq 4 (-500),rm 6 5,
 rg 7 6 ah (.y9 2 1 (.t 1) (ci 0)),wl 8 6 ah 1 ag 7,rg 9 6 ah (.bin .leq (.t 8) (ci 500)),wp 10 6 9,rm 11 10,
 rg 12 11 ah (.y9 2 1 (.t 1) (ci 1)),wl 13 11 ah 1 ag 12,rg 14 11 ah (.bin .geq (.t 13) (ci (-500))),
 wp 15 11 14,rm 16 15,rg 17 16 ah (.y9 2 1 (.t 1) (ci 1)),wl 18 16 ah 1 ag 17,
 rg 19 16 ah (.bin .leq (.t 18) (ci 500)),wp 20 16 19,rm 2 20] cd)
def Y4(pn:Nat):eh:=
 rq [wx 2 4 0,wx 3 2 1,wf 4 ag] (ay (rq [rf 5 0 2,rl 6 2 ah 5,rf 7 2 2,rl 8 2 ah 7,rl 9 2 ah 3,
 ri 10 (.call pn [.t 6,.t 8,.t 9]),wd 11 .neq 10 0] (wt 11 (rq [wf 4 ag] cd) bq)) (rq [rf 12 0 2,
 wa 13 2 1 12 0,rl 14 1 ag 13,rf 15 2 2,wa 16 2 1 15 0,rl 17 1 ag 16,ri 18 (.Fm ag (.t 14) (.t 17)),
 wa 19 2 1 3 0,rl 20 1 ag 19,wb 21 .leq 18 20,rm 22 21,rg 23 22 ah (.y9 2 1 (.t 3) (ci 0)),wl 24 22 ah 1 ag 23,
 rg 25 22 ah (.Ai 0 (.t 2)),rg 26 22 ah (.y9 2 1 (.t 25) (ci 0)),wl 27 22 ah 1 ag 26,rg 28 22 ah (.Ai 2 (.t 2)),
 rg 29 22 ah (.y9 2 1 (.t 28) (ci 0)),wl 30 22 ah 1 ag 29,rg 31 22 ah (.Fm ah (.t 27) (.t 30)),rg 32 22 ah (.bin .leq (.t 24) (.t 31)),
 wp 33 22 32,rm 34 33,rg 35 34 ah (.Ai 0 (.t 2)),rg 36 34 ah (.y9 2 1 (.t 35) (ci 1)),wl 37 34 ah 1 ag 36,
 rg 38 34 ah (.Ai 2 (.t 2)),rg 39 34 ah (.y9 2 1 (.t 38) (ci 1)),wl 40 34 ah 1 ag 39,rg 41 34 ah (.Fm ag (.t 37) (.t 40)),
 rg 42 34 ah (.y9 2 1 (.t 3) (ci 1)),wl 43 34 ah 1 ag 42,rg 44 34 ah (.bin .leq (.t 41) (.t 43)),wp 45 34 44,
 rm 46 45,rg 47 46 ah (.y9 2 1 (.t 3) (ci 1)),wl 48 46 ah 1 ag 47,rg 49 46 ah (.Ai 0 (.t 2)),rg 50 46 ah (.y9 2 1 (.t 49) (ci 1)),
 wl 51 46 ah 1 ag 50,rg 52 46 ah (.Ai 2 (.t 2)),rg 53 46 ah (.y9 2 1 (.t 52) (ci 1)),wl 54 46 ah 1 ag 53,
 rg 55 46 ah (.Fm ah (.t 51) (.t 54)),rg 56 46 ah (.bin .leq (.t 48) (.t 55)),wp 57 46 56,rm 4 57] cd))
def M4(pn Bx:Nat):eh:=
 rq [wx 2 4 0,wx 3 4 1,wf 4 ag] (ay (bx [rf 5 0 2,rl 6 2 ah 5,rf 7 2 2,rl 8 2 ah 7,rf 9 0 3,rl 10 2 ah 9,
 ri 11 (.call pn [.t 6,.t 8,.t 10]),ri 12 (.call Bx [.t 11]),rf 13 0 2,rl 14 2 ah 13,rf 15 2 2,rl 16 2 ah 15,rf 17 2 3,rl 18 2 ah 17,
 ri 19 (.call pn [.t 14,.t 16,.t 18]),ri 20 (.call Bx [.t 19]),wb 21 .mul 12 20,wd 22 .lss 21 0,rm 23 22,
 rg 24 23 ah (.Ai 0 (.t 3)),wl 25 23 ah 2 ah 24,rg 26 23 ah (.Ai 2 (.t 3)),wl 27 23 ah 2 ah 26,rg 28 23 ah (.Ai 0 (.t 2)),
 wl 29 23 ah 2 ah 28,rg 30 23 ah (.call pn [.t 25,.t 27,.t 29]),rg 31 23 ah (.call Bx [.t 30]),
 rg 32 23 ah (.Ai 0 (.t 3)),wl 33 23 ah 2 ah 32,rg 34 23 ah (.Ai 2 (.t 3)),wl 35 23 ah 2 ah 34,rg 36 23 ah (.Ai 2 (.t 2)),
 wl 37 23 ah 2 ah 36,rg 38 23 ah (.call pn [.t 33,.t 35,.t 37]),rg 39 23 ah (.call Bx [.t 38]),
 rg 40 23 ah (.bin .mul (.t 31) (.t 39)),rg 41 23 ah (.bin .lss (.t 40) (ci 0)),wp 42 23 41,rm 4 42] ah []) cd)
def Kf:eh:=
 rq [wx 2 2 0,wx 3 2 1,wc 4 0] (rq [wa 7 2 1 2 0,rl 8 1 ag 7,wa 9 2 1 3 1,rl 10 1 ag 9,
 wb 11 .mul 8 10,wa 12 2 1 2 1,rl 13 1 ag 12,wa 14 2 1 3 0,rl 15 1 ag 14,wb 16 .mul 13 15,
 wb 17 .sub 11 16,rm 5 17] (rq [wa 18 2 1 2 0,rl 19 1 ag 18,wa 20 2 1 3 0,rl 21 1 ag 20,
 wb 22 .mul 19 21,wa 23 2 1 2 1,rl 24 1 ag 23,wa 25 2 1 3 1,rl 26 1 ag 25,wb 27 .mul 24 26,
 wb 28 .add 22 27,rm 6 28] (ay (dh 0 (rq [rm 30 5,wd 31 .lss 30 0,
 rm 29 31] (wt 29 (rq [wc 4 0] cd) (rq [rm 33 5,wd 34 .gtr 33 0,
 rm 32 34] (wt 32 (rq [wc 4 2] cd) (rq [rm 36 6,wd 37 .lss 36 0,
 rm 35 37] (wt 35 (rq [wc 4 1] cd) bq))))))) (rq [wc 4 3] cd))))
def Ph(zf:Nat):eh:=
 rq [wx 3 2 0,wx 4 2 1,wx 5 2 2,wf 6 ag] (ay (bx [rl 9 2 ah 3,rl 10 2 ah 4,
 ri 11 (.call zf [.t 9,.t 10]),rl 12 2 ah 3,rl 13 2 ah 5,ri 14 (.call zf [.t 12,.t 13]),rm 7 11,
 rm 8 14] ah []) (ay (rq [rm 15 7,rm 16 8,wb 17 .neq 15 16] (wt 17 (rq [rm 18 7,rm 19 8,wb 20 .lss 18 19,
 rm 6 20] cd) bq)) (rq [wa 21 2 1 4 0,rl 22 1 ag 21,wa 23 2 1 5 1,rl 24 1 ag 23,wb 25 .mul 22 24,
 wa 26 2 1 4 1,rl 27 1 ag 26,wa 28 2 1 5 0,rl 29 1 ag 28,wb 30 .mul 27 29,wb 31 .sub 25 30,
 wd 32 .lss 31 0,rm 6 32] cd)))
def Rg:eh:=
 rq [wo 2] (rq [wo 3] (ay (rq [wc 4 0] (dh 0 (iq (ay (rq [rm 6 4,rm 7 0,wn 8 7,
 wb 9 .lss 6 8] (wt 9 bq (ij 0))) (ay (dh 1 (rq [wc 5 0] (dh 2 (iq (ay (rq [rm 12 5,rm 13 0,rm 14 4,
 wi 15 1 13 14,rl 16 1 ag 15,wn 17 16,
 wb 18 .lss 12 17] (wt 18 bq (ij 2))) (ay (dh 3 (bx [rm 21 3,rm 22 0,rm 23 4,wi 24 1 22 23,rl 25 1 ag 24,
 rm 26 5,wi 27 2 25 26,rl 28 2 ah 27,rm 29 0,rm 30 4,wi 31 1 29 30,rl 32 1 ag 31,rm 33 5,wd 34 .add 33 1,rm 35 0,
 rm 36 4,wi 37 1 35 36,rl 38 1 ag 37,wn 39 38,wb 40 .rem 34 39,wi 41 2 32 40,rl 42 2 ah 41,
 ri 43 (.build [.int aj 0,.int aj 0,.int aj 0,.int aj 0] [(0,2,.t 28),(2,2,.t 42)]),
 ri 44 (.xz ag 1 4 [.int aj 0,.int aj 0,.int aj 0,.int aj 0] [(0,4,.t 43)]),ri 45 (.app 4 32 (.t 21) (.t 44)),rm 3 45] ah [])) (bx [rm 19 5,
 wd 20 .add 19 1,rm 5 20] ag []))))))) (bx [rm 10 4,wd 11 .add 10 1,rm 4 11] ag [])))))) (rq [rm 46 3,rm 2 46] cd)))
def Tf(pn:Nat):eh:=
 rq [wc 4 0] (rq [rm 13 0,rm 14 1,wi 15 4 13 14,rl 16 4 ah 15,ri 5 (.alloc [.int aj 0,.int aj 0,.int aj 0,.int aj 0]),
 ws 4 5 16] (ay (rq [rf 17 0 5,wa 18 2 1 17 0,rl 19 1 ag 18,rf 20 2 5,wa 21 2 1 20 0,rl 22 1 ag 21,
 wb 23 .eql 19 22] (wt 23 (rq [wo 6] (ay (rq [wc 7 0] (dh 0 (iq (ay (rq [rm 24 7,rm 25 0,
 wn 26 25,wb 27 .lss 24 26] (wt 27 bq (ij 0))) (ay (dh 1 (bx [rm 30 6,rm 31 0,rm 32 7,
 wi 33 4 31 32,rf 34 0 33,wa 35 2 1 34 1,rl 36 1 ag 35,ri 37 (.un .neg (.t 36)),rm 38 0,rm 39 7,wi 40 4 38 39,
 rf 41 0 40,wa 42 2 1 41 0,rl 43 1 ag 42,ri 44 (.build [.int aj 0,.int aj 0] [(0,1,.t 37),(1,1,.t 43)]),rm 45 0,rm 46 7,
 wi 47 4 45 46,rf 48 2 47,wa 49 2 1 48 1,rl 50 1 ag 49,ri 51 (.un .neg (.t 50)),rm 52 0,rm 53 7,wi 54 4 52 53,
 rf 55 2 54,wa 56 2 1 55 0,rl 57 1 ag 56,ri 58 (.build [.int aj 0,.int aj 0] [(0,1,.t 51),(1,1,.t 57)]),
 ri 59 (.build [.int aj 0,.int aj 0,.int aj 0,.int aj 0] [(0,2,.t 44),(2,2,.t 58)]),
 ri 60 (.xz ag 1 4 [.int aj 0,.int aj 0,.int aj 0,.int aj 0] [(0,4,.t 59)]),ri 61 (.app 4 32 (.t 30) (.t 60)),rm 6 61] ah [])) (bx [rm 28 7,
 wd 29 .add 28 1,rm 7 29] ag [])))))) (bx [rm 62 6,rm 63 6,rm 64 1,wi 65 4 63 64,rl 66 4 ah 65,rm 0 62,
 ws 4 5 66] ah [61]))) bq)) (rq [rf 67 0 5,wa 68 2 1 67 0,rl 69 1 ag 68,rf 70 2 5,wa 71 2 1 70 0,
 rl 72 1 ag 71,wb 73 .add 69 72,rf 74 0 5,wa 75 2 1 74 1,rl 76 1 ag 75,rf 77 2 5,wa 78 2 1 77 1,
 rl 79 1 ag 78,wb 80 .add 76 79,ri 81 (.build [.int aj 0,.int aj 0] [(0,1,.t 73),(1,1,.t 80)]),ri 8 (.alloc [.int aj 0,.int aj 0]),
 ws 2 8 81] (rq [wc 9 0] (ay (rq [wc 10 0] (dh 2 (iq (ay (rq [rm 82 10,rm 83 0,wn 84 83,
 wb 85 .lss 82 84] (wt 85 bq (ij 2))) (ay (dh 3 (ay (bx [rm 88 0,rm 89 10,wi 90 4 88 89,rf 91 0 90,
 wa 92 2 1 91 0,rl 93 1 ag 92,ri 94 (.bin .mul (ci 2) (.t 93)),rm 95 0,rm 96 10,wi 97 4 95 96,rf 98 0 97,
 wa 99 2 1 98 1,rl 100 1 ag 99,ri 101 (.bin .mul (ci 2) (.t 100)),ri 102 (.build [.int aj 0,.int aj 0] [(0,1,.t 94),(1,1,.t 101)]),
 rm 103 0,rm 104 10,wi 105 4 103 104,rf 106 2 105,wa 107 2 1 106 0,rl 108 1 ag 107,ri 109 (.bin .mul (ci 2) (.t 108)),rm 110 0,
 rm 111 10,wi 112 4 110 111,rf 113 2 112,wa 114 2 1 113 1,rl 115 1 ag 114,ri 116 (.bin .mul (ci 2) (.t 115)),
 ri 117 (.build [.int aj 0,.int aj 0] [(0,1,.t 109),(1,1,.t 116)]),ri 11 (.zr 2),ri 12 (.zr 2),rn (.init 11 2 (.t 102)),
 rn (.init 12 2 (.t 117))] ah []) (ay (rq [rm 118 10,rm 119 1,
 wb 120 .eql 118 119] (wt 120 (ij 3) bq)) (dh 4 (rq [wa 122 2 1 11 0,rl 123 1 ag 122,
 wa 124 2 1 8 0,rl 125 1 ag 124,wb 126 .leq 123 125,rm 127 126,rg 128 127 ah (.y9 2 1 (.t 8) (ci 0)),
 wl 129 127 ah 1 ag 128,rg 130 127 ah (.y9 2 1 (.t 12) (ci 0)),wl 131 127 ah 1 ag 130,
 rg 132 127 ah (.bin .lss (.t 129) (.t 131)),wp 133 127 132,rm 134 133,wl 135 134 ah 2 ah 11,
 wl 136 134 ah 2 ah 12,wl 137 134 ah 2 ah 8,rg 138 134 ah (.call pn [.t 135,.t 136,.t 137]),
 rg 139 134 ah (.bin .lss (.t 138) (ci 0)),wp 140 134 139,rm 121 140] (wt 121 (bx [rm 141 9,
 wd 142 .sub 141 1,rm 9 142] ag []) (rq [wa 144 2 1 12 0,rl 145 1 ag 144,wa 146 2 1 8 0,rl 147 1 ag 146,
 wb 148 .leq 145 147,rm 149 148,rg 150 149 ah (.y9 2 1 (.t 8) (ci 0)),wl 151 149 ah 1 ag 150,
 rg 152 149 ah (.y9 2 1 (.t 11) (ci 0)),wl 153 149 ah 1 ag 152,rg 154 149 ah (.bin .lss (.t 151) (.t 153)),
 wp 155 149 154,rm 156 155,wl 157 156 ah 2 ah 11,wl 158 156 ah 2 ah 12,
 wl 159 156 ah 2 ah 8,rg 160 156 ah (.call pn [.t 157,.t 158,.t 159]),rg 161 156 ah (.bin .gtr (.t 160) (ci 0)),
 wp 162 156 161,rm 143 162] (wt 143 (bx [rm 163 9,wd 164 .add 163 1,
 rm 9 164] ag []) bq)))))))) (bx [rm 86 10,wd 87 .add 86 1,rm 10 87] ag [])))))) (ay (rq [rf 165 0 5,wa 166 2 1 165 0,
 rl 167 1 ag 166,rf 168 2 5,wa 169 2 1 168 0,rl 170 1 ag 169,wb 171 .gtr 167 170] (wt 171 (bx [rm 172 9,
 wd 173 .add 172 1,rm 9 173] ag []) bq)) (rq [rm 174 9,rm 4 174] cd)))))))
def Rc(xx Fa:Nat):eh:=
 rq [wf 4 ag] (ay (rq [wc 5 0] (dh 0 (iq (ay (rq [rm 13 5,rm 14 0,wn 15 14,
 wb 16 .lss 13 15] (wt 16 bq (ij 0))) (ay (dh 1 (rq [rm 19 0,rm 20 5,wi 21 1 19 20,rl 22 1 ag 21,
 wn 23 22,rm 6 23] (rq [wc 7 0] (dh 2 (iq (ay (rq [rm 24 7,rm 25 6,
 wb 26 .lss 24 25] (wt 26 bq (ij 2))) (ay (dh 3 (ay (bx [rm 29 0,rm 30 5,wi 31 1 29 30,rl 32 1 ag 31,
 rm 33 7,wd 34 .add 33 1,rm 35 6,wb 36 .rem 34 35,wi 37 2 32 36,rl 38 2 ah 37,rm 39 0,rm 40 5,
 wi 41 1 39 40,rl 42 1 ag 41,rm 43 7,wd 44 .add 43 2,rm 45 6,wb 46 .rem 44 45,wi 47 2 42 46,
 rl 48 2 ah 47,ri 8 (.zr 2),ri 9 (.zr 2),rn (.init 8 2 (.t 38)),rn (.init 9 2 (.t 48))] ah []) (ay (bx [rm 49 0,rm 50 5,wi 51 1 49 50,
 rl 52 1 ag 51,rm 53 7,wi 54 2 52 53,rl 55 2 ah 54,rl 56 2 ah 8,ri 57 (.call xx [.t 55,.t 56]),ri 10 (.zr 2),
 rn (.init 10 2 (.t 57))] ah []) (rq [wc 11 0] (dh 4 (iq (ay (rq [rm 58 11,rm 59 1,wn 60 59,
 wb 61 .lss 58 60] (wt 61 bq (ij 4))) (ay (dh 5 (rq [ri 64 (.build [.int aj 0,.int aj 0] []),
 ri 12 (.alloc [.int aj 0,.int aj 0]),ws 2 12 64] (ay (rq [rl 65 2 ah 8] (dh 6 (rq [rm 67 1,rm 68 11,wi 69 4 67 68,
 rf 70 0 69,rl 71 2 ah 70,ri 72 (.eqs [.int,.int] ag (.t 65) (.t 71)),rm 66 72] (wt 66 (bx [rm 73 1,rm 74 11,wi 75 4 73 74,rf 76 2 75,
 rl 77 2 ah 76,rl 78 2 ah 8,ri 79 (.call xx [.t 77,.t 78]),ws 2 12 79] ah []) (rq [rm 81 1,rm 82 11,
 wi 83 4 81 82,rf 84 2 83,rl 85 2 ah 84,ri 86 (.eqs [.int,.int] ag (.t 65) (.t 85)),rm 80 86] (wt 80 (bx [rm 87 1,rm 88 11,
 wi 89 4 87 88,rf 90 0 89,rl 91 2 ah 90,rl 92 2 ah 8,ri 93 (.call xx [.t 91,.t 92]),
 ws 2 12 93] ah []) (ij 5))))))) (ay (bx [rl 94 2 ah 12,rl 95 2 ah 10,ri 96 (.eqs [.int,.int] ah (.t 94) (.t 95)),rm 97 96,
 wl 98 97 ah 2 ah 12,wl 99 97 ah 2 ah 9,wl 100 97 ah 2 ah 8,rg 101 97 ah (.call xx [.t 99,.t 100]),
 rg 102 97 ah (.eqs [.int,.int] ah (.t 98) (.t 101)),wp 103 97 102,rm 104 103,wl 105 104 ah 2 ah 10,
 wl 106 104 ah 2 ah 12,wl 107 104 ah 2 ah 9,wl 108 104 ah 2 ah 8,
 rg 109 104 ah (.call xx [.t 107,.t 108]),rg 110 104 ah (.call Fa [.t 105,.t 106,.t 109]),
 wp 111 104 110] ah []) (wt 111 (rq [wf 4 ag] cd) bq))))) (bx [rm 62 11,
 wd 63 .add 62 1,rm 11 63] ag []))))))))) (bx [rm 27 7,wd 28 .add 27 1,rm 7 28] ag [])))))))) (bx [rm 17 5,
 wd 18 .add 17 1,rm 5 18] ag [])))))) (rq [wf 4 ah] cd))
def Rf(Gd Ec Mg Ce I6 Gc:Nat):eh:=
 rq [wf 2 ag] (rq [wc 3 0] (ay (rq [wc 4 0] (dh 0 (iq (ay (rq [rm 10 4,rm 11 0,wn 12 11,
 wb 13 .lss 10 12] (wt 13 bq (ij 0))) (ay (dh 1 (rq [rm 16 3,rm 17 0,rm 18 4,wi 19 1 17 18,rl 20 1 ag 19,
 wn 21 20,wb 22 .add 16 21,rm 3 22] (ay (rq [rm 23 0,rm 24 4,wi 25 1 23 24,rl 26 1 ag 25,
 wn 27 26,wd 28 .lss 27 3,rm 29 28,wm 30 29 ag 3,rg 31 29 ag (.bin .gtr (.t 30) (ci 60)),
 wq 32 29 31] (wt 32 (rq [wf 2 ag] cd) bq)) (rq [wc 5 0] (dh 2 (iq (ay (rq [rm 33 5,
 rm 34 0,rm 35 4,wi 36 1 34 35,rl 37 1 ag 36,wn 38 37,
 wb 39 .lss 33 38] (wt 39 bq (ij 2))) (ay (dh 3 (rq [rm 42 0,rm 43 4,wi 44 1 42 43,rl 45 1 ag 44,rm 46 5,
 wi 47 2 45 46,rl 48 2 ah 47,ri 49 (.call Gd [.t 48]),
 ri 50 (.un .not (.t 49))] (wt 50 (rq [wf 2 ag] cd) bq))) (bx [rm 40 5,wd 41 .add 40 1,
 rm 5 41] ag []))))))))) (bx [rm 14 4,wd 15 .add 14 1,rm 4 15] ag [])))))) (rq [rm 51 0,ri 52 (.call Ec [.t 51]),
 rm 6 52] (ay (rq [wc 7 0] (dh 4 (iq (ay (rq [rm 53 7,rm 54 6,wn 55 54,
 wb 56 .lss 53 55] (wt 56 bq (ij 4))) (ay (dh 5 (ay (ay (bx [rm 59 6,rm 60 7,wi 61 4 59 60,rf 62 0 61,
 rl 63 2 ah 62,rm 64 6,rm 65 7,wi 66 4 64 65,rf 67 2 66,rl 68 2 ah 67,
 ri 69 (.eqs [.int,.int] ag (.t 63) (.t 68))] ah []) (wt 69 (rq [wf 2 ag] cd) bq)) (rq [wc 8 0] (dh 6 (iq (ay (rq [rm 70 8,
 rm 71 6,wn 72 71,wb 73 .lss 70 72] (wt 73 bq (ij 6))) (ay (dh 7 (ay (ay (bx [rm 76 6,rm 77 8,
 wi 78 4 76 77,rf 79 0 78,rl 80 2 ah 79,rm 81 6,rm 82 7,wi 83 4 81 82,rf 84 0 83,rl 85 2 ah 84,
 ri 86 (.eqs [.int,.int] ah (.t 80) (.t 85)),rm 87 86,wm 88 87 ah 6,wm 89 87 ah 8,rg 90 87 ah (.xn 4 (.t 88) (.t 89)),
 rg 91 87 ah (.Ai 0 (.t 90)),wl 92 87 ah 2 ah 91,wm 93 87 ah 6,wm 94 87 ah 7,rg 95 87 ah (.xn 4 (.t 93) (.t 94)),
 rg 96 87 ah (.Ai 2 (.t 95)),wl 97 87 ah 2 ah 96,rg 98 87 ah (.eqs [.int,.int] ah (.t 92) (.t 97)),
 wp 99 87 98,rm 100 99,wm 101 100 ah 6,wm 102 100 ah 7,rg 103 100 ah (.xn 4 (.t 101) (.t 102)),
 wl 104 100 ah 4 ah 103,wm 105 100 ah 6,wm 106 100 ah 8,rg 107 100 ah (.xn 4 (.t 105) (.t 106)),
 rg 108 100 ah (.Ai 0 (.t 107)),wl 109 100 ah 2 ah 108,rg 110 100 ah (.call Mg [.t 104,.t 109]),
 wp 111 100 110,rm 112 111,wm 113 112 ag 6,wm 114 112 ag 7,rg 115 112 ag (.xn 4 (.t 113) (.t 114)),
 wl 116 112 ag 4 ah 115,wm 117 112 ag 6,wm 118 112 ag 8,rg 119 112 ag (.xn 4 (.t 117) (.t 118)),
 wl 120 112 ag 4 ah 119,rg 121 112 ag (.call Ce [.t 116,.t 120]),
 wq 122 112 121] ah []) (wt 122 (rq [wf 2 ag] cd) bq)) (ay (bx [rm 123 7,rm 124 8,
 wb 125 .neq 123 124,rm 126 125,wm 127 126 ah 6,wm 128 126 ah 7,rg 129 126 ah (.xn 4 (.t 127) (.t 128)),
 wl 130 126 ah 4 ah 129,wm 131 126 ah 6,wm 132 126 ah 8,rg 133 126 ah (.xn 4 (.t 131) (.t 132)),
 wl 134 126 ah 4 ah 133,rg 135 126 ah (.eqs [.int,.int,.int,.int] ag (.t 130) (.t 134)),wm 136 126 ah 135,
 wm 137 136 ag 6,wm 138 136 ag 7,rg 139 136 ag (.xn 4 (.t 137) (.t 138)),rg 140 136 ag (.Ai 0 (.t 139)),
 wl 141 136 ag 2 ah 140,wm 142 136 ag 6,wm 143 136 ag 8,rg 144 136 ag (.xn 4 (.t 142) (.t 143)),
 rg 145 136 ag (.Ai 2 (.t 144)),wl 146 136 ag 2 ah 145,rg 147 136 ag (.eqs [.int,.int] ag (.t 141) (.t 146)),wm 148 136 ag 147,
 wm 149 148 ah 6,wm 150 148 ah 7,rg 151 148 ah (.xn 4 (.t 149) (.t 150)),rg 152 148 ah (.Ai 2 (.t 151)),
 wl 153 148 ah 2 ah 152,wm 154 148 ah 6,wm 155 148 ah 8,rg 156 148 ah (.xn 4 (.t 154) (.t 155)),
 rg 157 148 ah (.Ai 0 (.t 156)),wl 158 148 ah 2 ah 157,rg 159 148 ah (.eqs [.int,.int] ag (.t 153) (.t 158)),
 rg 160 136 ag (.pick (.t 148) (.t 159) (.c (.bool ag))),rg 161 126 ah (.pick (.t 136) (.c (.bool ah)) (.t 160)),
 wp 162 126 161] ah []) (wt 162 (rq [wf 2 ag] cd) bq)))) (bx [rm 74 8,
 wd 75 .add 74 1,rm 8 75] ag [])))))))) (bx [rm 57 7,wd 58 .add 57 1,
 rm 7 58] ag [])))))) (ay (rq [wc 9 0] (dh 8 (iq (ay (rq [rm 163 9,rm 164 6,wn 165 164,
 wb 166 .lss 163 165] (wt 166 bq (ij 8))) (ay (dh 9 (rq [rm 169 6,rm 170 9,ri 171 (.call I6 [.t 169,.t 170]),
 wd 172 .neq 171 1] (wt 172 (rq [wf 2 ag] cd) bq))) (bx [rm 167 9,wd 168 .add 167 1,
 rm 9 168] ag [])))))) (rq [rm 173 0,rm 174 6,ri 175 (.call Gc [.t 173,.t 174]),rm 2 175] cd))))))
def Kc:eh:=
 rq [wf 2 ag] (rq [rm 3 0,wd 4 .geq 3 (-1000000),rm 5 4,wm 6 5 ah 0,rg 7 5 ah (.bin .leq (.t 6) (ci 1000000)),
 wp 8 5 7,rm 2 8] cd)
def Kd:eh:=
 rq [wf 2 ag] (ay (rq [rm 5 0,ri 6 (.len .str (.t 5)),wd 7 .lss 6 1,rm 8 7,wm 9 8 ag 0,
 rg 10 8 ag (.len .str (.t 9)),rg 11 8 ag (.bin .gtr (.t 10) (ci 20)),
 wq 12 8 11] (wt 12 (rq [wf 2 ag] cd) bq)) (ay (rq [wc 3 0] (dh 0 (iq (ay (rq [rm 13 3,
 rm 14 0,ri 15 (.len .str (.t 14)),wb 16 .lss 13 15] (wt 16 bq (ij 0))) (ay (dh 1 (rq [rm 19 0,rm 20 3,
 ri 21 (.dB (.t 19) (.t 20)),ri 22 (.bin .geq (.t 21) (.c (.int .u8 97))),rm 23 22,wm 24 23 ah 0,wm 25 23 ah 3,
 rg 26 23 ah (.dB (.t 24) (.t 25)),rg 27 23 ah (.bin .leq (.t 26) (.c (.int .u8 122))),wp 28 23 27,rm 4 28] (rq [rm 29 4,
 ri 30 (.un .not (.t 29)),rm 31 30,wm 32 31 ah 3,rg 33 31 ah (.bin .eql (.t 32) (ci 0)),wm 34 31 ah 33,wm 35 34 ag 0,
 wm 36 34 ag 3,rg 37 34 ag (.dB (.t 35) (.t 36)),rg 38 34 ag (.bin .lss (.t 37) (.c (.int .u8 48))),
 rg 39 31 ah (.pick (.t 34) (.c (.bool ah)) (.t 38)),wm 40 31 ah 39,wm 41 40 ag 0,wm 42 40 ag 3,
 rg 43 40 ag (.dB (.t 41) (.t 42)),rg 44 40 ag (.bin .gtr (.t 43) (.c (.int .u8 57))),rg 45 31 ah (.pick (.t 40) (.c (.bool ah)) (.t 44)),
 wp 46 31 45] (wt 46 (rq [wf 2 ag] cd) bq)))) (bx [rm 17 3,
 wd 18 .add 17 1,rm 3 18] ag [])))))) (rq [wf 2 ah] cd)))
def Er(um v8:Nat):eh:=
 rq [wf 2 ag] (ay (rq [rm 4 0,wn 5 4,
 wd 6 .gtr 5 20] (wt 6 (rq [wf 2 ag] cd) bq)) (ay (rq [wc 3 0] (dh 0 (iq (ay (rq [rm 7 3,
 rm 8 0,wn 9 8,wb 10 .lss 7 9] (wt 10 bq (ij 0))) (ay (dh 1 (ay (bx [rm 13 0,rm 14 3,
 wi 15 2 13 14,rf 16 0 15,rl 17 1 ag 16,ri 18 (.call um [.t 17]),ri 19 (.un .not (.t 18)),rm 20 19,wm 21 20 ag 0,
 wm 22 20 ag 3,rg 23 20 ag (.xn 2 (.t 21) (.t 22)),rg 24 20 ag (.Ai 1 (.t 23)),wl 25 20 ag 1 ag 24,
 rg 26 20 ag (.call v8 [.t 25]),rg 27 20 ag (.un .not (.t 26)),wq 28 20 27,rm 29 28,wm 30 29 ag 3,
 rg 31 29 ag (.bin .gtr (.t 30) (ci 0)),wm 32 29 ag 31,wm 33 32 ah 0,wm 34 32 ah 3,rg 35 32 ah (.bin .sub (.t 34) (ci 1)),
 rg 36 32 ah (.xn 2 (.t 33) (.t 35)),rg 37 32 ah (.Ai 0 (.t 36)),wl 38 32 ah 1 ag 37,wm 39 32 ah 0,wm 40 32 ah 3,
 rg 41 32 ah (.xn 2 (.t 39) (.t 40)),rg 42 32 ah (.Ai 0 (.t 41)),wl 43 32 ah 1 ag 42,rg 44 32 ah (.bin .geq (.t 38) (.t 43)),
 rg 45 29 ag (.pick (.t 32) (.t 44) (.c (.bool ag))),
 wq 46 29 45] ah []) (wt 46 (rq [wf 2 ag] cd) bq))) (bx [rm 11 3,
 wd 12 .add 11 1,rm 3 12] ag [])))))) (rq [wf 2 ah] cd)))
def Jb(v8 um:Nat):eh:=
 rq [wx 1 3 0,wf 2 ag] (rq [rf 3 1 1,rl 4 1 ag 3,ri 5 (.call v8 [.t 4]),rm 6 5,rg 7 6 ah (.Ai 2 (.t 1)),
 wl 8 6 ah 1 ag 7,rg 9 6 ah (.call v8 [.t 8]),wp 10 6 9,rm 11 10,rg 12 11 ah (.Ai 0 (.t 1)),
 wl 13 11 ah 1 ag 12,rg 14 11 ah (.call um [.t 13]),wm 15 11 ah 14,rg 16 15 ag (.Ai 0 (.t 1)),
 wl 17 15 ag 1 ag 16,rg 18 15 ag (.bin .eql (.t 17) (.c (.str ⟨#[]⟩))),wm 19 15 ag 18,rg 20 19 ah (.Ai 1 (.t 1)),
 wl 21 19 ah 1 ag 20,rg 22 19 ah (.bin .eql (.t 21) (ci 0)),rg 23 15 ag (.pick (.t 19) (.t 22) (.c (.bool ag))),
 rg 24 11 ah (.pick (.t 15) (.c (.bool ah)) (.t 23)),wp 25 11 24,rm 2 25] cd)
def Ra:eh:=
 rq [wo 0] (rq [ri 1 (.xz ag 14 1 [.str ⟨#[]⟩] [(0,1,.c (.str ⟨#[98,111,120]⟩)),(1,1,.c (.str ⟨#[112,114,105,115,109]⟩)),(2,1,.c (.str ⟨#[115,108,97,110,116]⟩)),(3,1,.c (.str ⟨#[112,121,114,97,109,105,100]⟩)),(4,1,.c (.str ⟨#[117,110,105,111,110]⟩)),(5,1,.c (.str ⟨#[105,110,116,101,114,115,101,99,116]⟩)),(6,1,.c (.str ⟨#[115,117,98,116,114,97,99,116]⟩)),(7,1,.c (.str ⟨#[99,108,105,112]⟩)),(8,1,.c (.str ⟨#[115,104,105,102,116]⟩)),(9,1,.c (.str ⟨#[115,121,109,109,101,116,114,121]⟩)),(10,1,.c (.str ⟨#[115,99,97,108,101]⟩)),(11,1,.c (.str ⟨#[115,117,109]⟩)),(12,1,.c (.str ⟨#[99,111,114,101]⟩)),(13,1,.c (.str ⟨#[114,101,112,101,97,116]⟩))]),
 rm 0 1] cd)
def Hy(Eb:Nat):eh:=
 rq [ri 2 (.kf (.c (.str ⟨#[]⟩)))] (ay (rq [rm 3 0,wd 4 .lss 3 0,rm 5 4,wm 6 5 ag 0,rg 7 5 ag (.call Eb []),
 rg 8 5 ag (.len .gd (.t 7)),rg 9 5 ag (.bin .geq (.t 6) (.t 8)),
 wq 10 5 9] (wt 10 (rq [ri 2 (.kf (.c (.str ⟨#[]⟩)))] cd) bq)) (rq [ri 11 (.call Eb []),rm 12 0,
 wi 13 1 11 12,rl 14 1 ag 13,rm 2 14] cd))
def Pg:eh:=
 rq [wc 2 0] (rq [ri 3 (.xz ag 14 1 [.int aj 0] [(0,1,ci 6),(1,1,ci 2),(2,1,ci 4),(3,1,ci 4),(4,1,ci 0),(5,1,ci 0),(6,1,ci 0),(7,1,ci 4),(8,1,ci 3),(9,1,ci 1),(10,1,ci 2),(11,1,ci 6),(12,1,ci 6),(13,1,ci 4)]),
 rm 4 0,wi 5 1 3 4,rl 6 1 ag 5,rm 2 6] cd)
def Pf:eh:=
 rq [wc 2 0] (rq [ri 3 (.xz ag 14 1 [.int aj 0] [(0,1,ci 0),(1,1,ci 0),(2,1,ci 0),(3,1,ci 0),(4,1,ci 2),(5,1,ci 2),(6,1,ci 2),(7,1,ci 1),(8,1,ci 1),(9,1,ci 1),(10,1,ci 1),(11,1,ci 1),(12,1,ci 1),(13,1,ci 1)]),
 rm 4 0,wi 5 1 3 4,rl 6 1 ag 5,rm 2 6] cd)
def Rb(Cd F9 An Ge:Nat):eh:=
 rq [wx 1 3 0,wf 2 ag] (ay (ay (bx [rf 4 0 1,rl 5 1 ag 4,ri 6 (.call Cd [.t 5]),
 ri 7 (.bin .eql (.t 6) (.c (.str ⟨#[]⟩))),rm 8 7,rg 9 8 ag (.Ai 1 (.t 1)),wl 10 8 ag 1 ag 9,rg 11 8 ag (.len .gd (.t 10)),
 rg 12 8 ag (.Ai 0 (.t 1)),wl 13 8 ag 1 ag 12,rg 14 8 ag (.call F9 [.t 13]),rg 15 8 ag (.bin .neq (.t 11) (.t 14)),
 wq 16 8 15] ah []) (wt 16 (rq [wf 2 ag] cd) bq)) (ay (rq [wc 3 0] (dh 0 (iq (ay (rq [rm 17 3,
 rf 18 1 1,rl 19 1 ag 18,wn 20 19,wb 21 .lss 17 20] (wt 21 bq (ij 0))) (ay (dh 1 (rq [rf 24 1 1,
 rl 25 1 ag 24,rm 26 3,wi 27 3 25 26,rl 28 3 ah 27,ri 29 (.call An [.t 28]),
 ri 30 (.un .not (.t 29))] (wt 30 (rq [wf 2 ag] cd) bq))) (bx [rm 22 3,wd 23 .add 22 1,
 rm 3 23] ag [])))))) (ay (rq [rf 31 0 1,rl 32 1 ag 31,wd 33 .eql 32 1,rm 34 33,rg 35 34 ag (.Ai 0 (.t 1)),
 wl 36 34 ag 1 ag 35,rg 37 34 ag (.bin .eql (.t 36) (ci 2)),wq 38 34 37,rm 39 38,rg 40 39 ag (.Ai 0 (.t 1)),
 wl 41 39 ag 1 ag 40,rg 42 39 ag (.bin .eql (.t 41) (ci 3)),wq 43 39 42] (wt 43 (rq [rf 44 2 1,
 rl 45 1 ag 44,ri 46 (.call Ge [.t 45]),rm 2 46] cd) bq)) (rq [rf 47 2 1,rl 48 1 ag 47,wn 49 48,
 wd 50 .eql 49 0,rm 2 50] cd))))
def Nw(yv qy:Nat):eh:=
 rq [wx 2 3 0,wo 4,wc 5 0] (ay (dh 0 (rq [rl 13 3 ah 2,ri 14 (.call yv [.t 13]),ri 15 (.un .not (.t 14)),
 rm 12 15] (wt 12 (rq [wo 4,wc 5 220] cd) (rq [rm 17 1,ri 18 (.call qy [.t 17]),ri 19 (.un .not (.t 18)),
 rm 16 19] (wt 16 (rq [wo 4,
 wc 5 1] cd) bq))))) (rq [wo 6] (ay (rq [wc 7 0] (dh 1 (iq (ay (rq [rm 20 7,rf 21 1 2,rl 22 1 ag 21,
 wn 23 22,wb 24 .lss 20 23] (wt 24 bq (ij 1))) (ay (dh 2 (rq [rf 27 1 2,rl 28 1 ag 27,rm 29 7,
 wi 30 3 28 29,rl 31 3 ah 30,ri 8 (.alloc [.str ⟨#[]⟩,.int aj 0,.int aj 0]),ws 3 8 31] (ay (bx [rf 32 2 8,
 rl 33 1 ag 32,rf 34 0 8,rl 35 1 ag 34,ri 36 (.bin .eql (.t 35) (.c (.str ⟨#[]⟩))),rm 9 33,
 rm 10 36] ah []) (ay (rq [wc 11 0] (dh 3 (iq (ay (rq [rm 37 11,rm 38 1,wn 39 38,
 wb 40 .lss 37 39] (wt 40 bq (ij 3))) (ay (dh 4 (ay (bx [rm 43 1,rm 44 11,wi 45 2 43 44,rf 46 0 45,
 rl 47 1 ag 46,rf 48 0 8,rl 49 1 ag 48,wb 50 .eql 47 49] ah []) (wt 50 (bx [rf 51 1 8,rl 52 1 ag 51,rm 53 1,rm 54 11,
 wi 55 2 53 54,rf 56 1 55,rl 57 1 ag 56,wb 58 .mul 52 57,rf 59 2 8,rl 60 1 ag 59,wb 61 .add 58 60,rm 9 61,
 wf 10 ah] ah []) bq))) (bx [rm 41 11,wd 42 .add 41 1,rm 11 42] ag [])))))) (ay (rq [rm 62 10,
 ri 63 (.un .not (.t 62))] (wt 63 (rq [wo 4,wc 5 4] cd) bq)) (bx [rm 64 6,rm 65 9,
 ri 66 (.xz ag 1 1 [.int aj 0] [(0,1,.t 65)]),ri 67 (.app 1 8 (.t 64) (.t 66)),rm 6 67] ag [])))))) (bx [rm 25 7,wd 26 .add 25 1,
 rm 7 26] ag [])))))) (rq [rm 68 6,rm 4 68,wc 5 0] cd))))
def R9:eh:=
 rq [wx 2 2 0,wc 4 0] (ay (rq [wc 5 0] (dh 0 (iq (ay (rq [rm 6 5,rf 7 1 2,rl 8 1 ag 7,wn 9 8,
 wb 10 .lss 6 9] (wt 10 bq (ij 0))) (ay (dh 1 (rq [rf 13 1 2,rl 14 1 ag 13,rm 15 5,wi 16 5 14 15,rf 17 0 16,
 rl 18 1 ag 17,rm 19 1,wb 20 .eql 18 19] (wt 20 (rq [rm 21 5,rm 4 21] cd) bq))) (bx [rm 11 5,wd 12 .add 11 1,
 rm 5 12] ag [])))))) (rq [wc 4 (-1)] cd))
def V9:eh:=
 rq [wf 4 ag] (ay (rq [wc 5 0] (dh 0 (iq (ay (rq [rm 6 5,rm 7 0,wn 8 7,
 wb 9 .lss 6 8] (wt 9 bq (ij 0))) (ay (dh 1 (rq [rm 12 0,rm 13 5,wi 14 1 12 13,rl 15 1 ag 14,rm 16 1,
 wb 17 .eql 15 16] (wt 17 (rq [wf 4 ah] cd) bq))) (bx [rm 10 5,wd 11 .add 10 1,
 rm 5 11] ag [])))))) (rq [wf 4 ag] cd))
def R6(C8:Nat):eh:=
 rq [wx 2 5 0,wf 4 ag] (ay (rq [wc 5 0] (dh 0 (iq (ay (rq [rm 6 5,rf 7 4 2,rl 8 1 ag 7,
 wn 9 8,wb 10 .lss 6 9] (wt 10 bq (ij 0))) (ay (dh 1 (rq [rm 13 1,rf 14 4 2,rl 15 1 ag 14,rm 16 5,
 wi 17 1 15 16,rl 18 1 ag 17,ri 19 (.call C8 [.t 13,.t 18]),
 ri 20 (.un .not (.t 19))] (wt 20 (rq [wf 4 ag] cd) bq))) (bx [rm 11 5,wd 12 .add 11 1,
 rm 5 12] ag [])))))) (rq [wf 4 ah] cd))
def R8(C8 Gb:Nat):eh:=
 rq [wx 1 2 0,
 wo 2] (rq [wo 3] (dh 0 (iq (dh 1 (rq [ri 4 (.kf (.c (.str ⟨#[]⟩)))] (ay (rq [wc 5 0] (dh 2 (iq (ay (rq [rm 7 5,
 rf 8 1 1,rl 9 1 ag 8,wn 10 9,wb 11 .lss 7 10] (wt 11 bq (ij 2))) (ay (dh 3 (rq [rf 14 1 1,rl 15 1 ag 14,
 rm 16 5,wi 17 5 15 16,rl 18 5 ah 17,ri 6 (.alloc [.str ⟨#[]⟩,.int aj 0,.cj,.cj,.cj]),ws 5 6 18] (rq [rm 19 3,rf 20 0 6,
 rl 21 1 ag 20,ri 22 (.call C8 [.t 19,.t 21]),ri 23 (.un .not (.t 22)),rm 24 23,wl 25 24 ah 5 ah 6,wm 26 24 ah 3,
 rg 27 24 ah (.call Gb [.t 25,.t 26]),wp 28 24 27,rm 29 28,wm 30 29 ah 4,
 rg 31 29 ah (.bin .eql (.t 30) (.c (.str ⟨#[]⟩))),wm 32 29 ah 31,rg 33 32 ag (.Ai 0 (.t 6)),wl 34 32 ag 1 ag 33,
 wm 35 32 ag 4,rg 36 32 ag (.bin .lss (.t 34) (.t 35)),rg 37 29 ah (.pick (.t 32) (.c (.bool ah)) (.t 36)),
 wp 38 29 37] (wt 38 (bx [rf 39 0 6,rl 40 1 ag 39,rm 4 40] ag []) bq)))) (bx [rm 12 5,
 wd 13 .add 12 1,rm 5 13] ag [])))))) (ay (rq [rm 41 4,ri 42 (.bin .eql (.t 41) (.c (.str ⟨#[]⟩)))] (wt 42 (rq [rm 43 3,
 rm 2 43] cd) bq)) (bx [rm 44 3,rm 45 4,ri 46 (.xz ag 1 1 [.str ⟨#[]⟩] [(0,1,.t 45)]),ri 47 (.app 1 16 (.t 44) (.t 46)),rm 3 47] ag []))))))))
def R7(qy um yv F8 je Bg Ea:Nat):eh:=
 rq [wx 1 2 0,wf 2 ag] (ay (rq [rf 8 0 1,rl 9 1 ag 8,ri 10 (.call qy [.t 9]),ri 11 (.un .not (.t 10)),rm 12 11,
 rg 13 12 ag (.Ai 1 (.t 1)),wl 14 12 ag 1 ag 13,rg 15 12 ag (.len .gd (.t 14)),rg 16 12 ag (.bin .gtr (.t 15) (ci 20)),
 wq 17 12 16] (wt 17 (rq [wf 2 ag] cd) bq)) (ay (rq [wc 3 0] (dh 0 (iq (ay (rq [rm 18 3,
 rf 19 1 1,rl 20 1 ag 19,wn 21 20,wb 22 .lss 18 21] (wt 22 bq (ij 0))) (ay (dh 1 (rq [rf 25 1 1,
 rl 26 1 ag 25,rm 27 3,wi 28 5 26 27,rl 29 5 ah 28,ri 4 (.alloc [.str ⟨#[]⟩,.int aj 0,.cj,.cj,.cj]),
 ws 5 4 29] (ay (ay (bx [rf 30 0 4,rl 31 1 ag 30,ri 32 (.call um [.t 31]),ri 33 (.un .not (.t 32)),rm 34 33,
 wm 35 34 ag 3,rg 36 34 ag (.bin .gtr (.t 35) (ci 0)),wm 37 34 ag 36,rg 38 37 ah (.Ai 1 (.t 1)),wl 39 37 ah 1 ag 38,
 wm 40 37 ah 3,rg 41 37 ah (.bin .sub (.t 40) (ci 1)),rg 42 37 ah (.xn 5 (.t 39) (.t 41)),rg 43 37 ah (.Ai 0 (.t 42)),
 wl 44 37 ah 1 ag 43,rg 45 37 ah (.Ai 0 (.t 4)),wl 46 37 ah 1 ag 45,rg 47 37 ah (.bin .geq (.t 44) (.t 46)),
 rg 48 34 ag (.pick (.t 37) (.t 47) (.c (.bool ag))),wq 49 34 48,rm 50 49,rg 51 50 ag (.Ai 1 (.t 4)),
 wl 52 50 ag 3 ah 51,rg 53 50 ag (.call yv [.t 52]),rg 54 50 ag (.un .not (.t 53)),wq 55 50 54,
 rm 56 55,rg 57 56 ag (.Ai 4 (.t 4)),wl 58 56 ag 1 ag 57,rg 59 56 ag (.len .gd (.t 58)),rg 60 56 ag (.Ai 1 (.t 4)),
 rg 61 56 ag (.Ai 0 (.t 60)),wl 62 56 ag 1 ag 61,rg 63 56 ag (.call F8 [.t 62]),rg 64 56 ag (.bin .neq (.t 59) (.t 63)),
 wq 65 56 64] ah []) (wt 65 (rq [wf 2 ag] cd) bq)) (ay (rq [wc 5 0] (dh 2 (iq (ay (rq [rm 66 5,
 rf 67 4 4,rl 68 1 ag 67,wn 69 68,wb 70 .lss 66 69] (wt 70 bq (ij 2))) (ay (dh 3 (ay (bx [rl 73 2 ah 1,
 rf 74 4 4,rl 75 1 ag 74,rm 76 5,wi 77 1 75 76,rl 78 1 ag 77,ri 79 (.call je [.t 73,.t 78]),
 wd 80 .lss 79 0] ah []) (wt 80 (rq [wf 2 ag] cd) bq))) (bx [rm 71 5,wd 72 .add 71 1,
 rm 5 72] ag [])))))) (rq [rf 82 1 4,rl 83 3 ah 82,rf 84 0 1,rl 85 1 ag 84,ri 86 (.call Bg [.t 83,.t 85]),rm 81 86,rx 87 81 0,rx 88 81 1,rm 6 87,
 rm 7 88] (rq [rm 89 7,wd 90 .neq 89 0] (wt 90 (rq [wf 2 ag] cd) bq))))))) (bx [rm 23 3,
 wd 24 .add 23 1,rm 3 24] ag [])))))) (ay (bx [rl 91 2 ah 1,ri 92 (.call Ea [.t 91]),wn 93 92,rf 94 1 1,
 rl 95 1 ag 94,wn 96 95,wb 97 .eql 93 96,rm 2 97] ah []) cd)))
def Ro:eh:=
 rq [wx 1 1 0,wo 2] (rq [wo 3] (ay (rq [wc 4 0] (dh 0 (iq (ay (rq [rm 7 4,rf 8 0 1,rl 9 1 ag 8,
 wn 10 9,
 wb 11 .lss 7 10] (wt 11 bq (ij 0))) (ay (dh 1 (rq [wo 5] (ay (rq [wc 6 0] (dh 2 (iq (ay (rq [rm 14 6,
 rf 15 0 1,rl 16 1 ag 15,rm 17 4,wi 18 1 16 17,rl 19 1 ag 18,wn 20 19,
 wb 21 .lss 14 20] (wt 21 bq (ij 2))) (ay (dh 3 (bx [rm 24 5,rf 25 0 1,rl 26 1 ag 25,rm 27 4,
 wi 28 1 26 27,rl 29 1 ag 28,rm 30 6,wi 31 2 29 30,rl 32 2 ah 31,
 ri 33 (.xz ag 1 2 [.int aj 0,.int aj 0] [(0,2,.t 32)]),ri 34 (.app 2 16 (.t 24) (.t 33)),rm 5 34] ag [])) (bx [rm 22 6,
 wd 23 .add 22 1,rm 6 23] ag [])))))) (bx [rm 35 3,rm 36 5,ri 37 (.xz ag 1 1 [.cj] [(0,1,.t 36)]),ri 38 (.app 1 24 (.t 35) (.t 37)),
 rm 3 38] ag [])))) (bx [rm 12 4,wd 13 .add 12 1,rm 4 13] ag [])))))) (rq [rm 39 3,rm 2 39] cd)))
def Rp:eh:=
 rq [wx 1 1 0,wf 2 ag] (rq [rf 5 0 1,rl 6 1 ag 5,wn 7 6,
 rm 3 7] (ay (rq [wc 4 0] (dh 0 (iq (ay (rq [rm 8 4,rf 9 0 1,rl 10 1 ag 9,wn 11 10,
 wb 12 .lss 8 11] (wt 12 bq (ij 0))) (ay (dh 1 (bx [rm 15 3,rf 16 0 1,rl 17 1 ag 16,rm 18 4,wi 19 1 17 18,
 rl 20 1 ag 19,wn 21 20,wb 22 .add 15 21,rm 3 22] ag [])) (bx [rm 13 4,wd 14 .add 13 1,
 rm 4 14] ag [])))))) (rq [rm 23 3,wd 24 .leq 23 100,rm 2 24] cd)))
def Rm(Eg:Nat):eh:=
 rq [wx 1 3 0,ri 2 (.alloc [.int aj 0,.cj,.cj])] (ay (bx [rf 7 0 1,rl 8 1 ag 7,rf 9 2 1,rl 10 1 ah 9,ri 11 (.call Eg [.t 10]),
 ri 12 (.build [.int aj 0,.cj,.cj] [(0,1,.t 8),(2,1,.t 11)]),ri 3 (.zr 3),
 rn (.init 3 3 (.t 12))] ah []) (ay (rq [wc 4 0] (dh 0 (iq (ay (rq [rm 13 4,rf 14 1 1,rl 15 1 ag 14,wn 16 15,
 wb 17 .lss 13 16] (wt 17 bq (ij 0))) (ay (dh 1 (rq [rf 20 1 1,rl 21 1 ag 20,rm 22 4,wi 23 3 21 22,
 rl 24 3 ah 23,ri 5 (.alloc [.str ⟨#[]⟩,.int aj 0,.int aj 0]),ws 3 5 24] (rq [rf 25 1 3,rl 26 1 ag 25,rm 6 26] (bx [rm 27 6,
 rf 28 0 5,rl 29 1 ag 28,rf 30 1 5,rl 31 1 ag 30,rf 32 2 5,rl 33 1 ag 32,
 ri 34 (.build [.str ⟨#[]⟩,.int aj 0,.int aj 0] [(0,1,.t 29),(1,1,.t 31),(2,1,.t 33)]),
 ri 35 (.xz ag 1 3 [.str ⟨#[]⟩,.int aj 0,.int aj 0] [(0,3,.t 34)]),ri 36 (.app 3 32 (.t 27) (.t 35)),rf 37 1 3,
 ws 1 37 36] ag [])))) (bx [rm 18 4,wd 19 .add 18 1,rm 4 19] ag [])))))) (rq [rl 38 3 ah 3,
 ws 3 2 38] cd)))
def Pl:eh:=
 rq [wo 2] (rq [wo 3] (ay (rq [wc 4 0] (dh 0 (iq (ay (rq [rm 5 4,rm 6 0,wn 7 6,
 wb 8 .lss 5 7] (wt 8 bq (ij 0))) (ay (dh 1 (bx [rm 11 3,rm 12 0,rm 13 4,wi 14 2 12 13,rf 15 0 14,
 rl 16 1 ag 15,rm 17 0,rm 18 4,wi 19 2 17 18,rf 20 1 19,rl 21 1 ag 20,ri 22 (.build [.str ⟨#[]⟩,.int aj 0] [(0,1,.t 16),(1,1,.t 21)]),
 ri 23 (.xz ag 1 2 [.str ⟨#[]⟩,.int aj 0] [(0,2,.t 22)]),ri 24 (.app 2 24 (.t 11) (.t 23)),rm 3 24] ah [])) (bx [rm 9 4,
 wd 10 .add 9 1,rm 4 10] ag [])))))) (rq [rm 25 3,rm 2 25] cd)))
def Oz:eh:=
 rq [wf 4 ag] (ay (rq [rm 6 0,wn 7 6,rm 8 1,wn 9 8,
 wb 10 .neq 7 9] (wt 10 (rq [wf 4 ag] cd) bq)) (ay (rq [wc 5 0] (dh 0 (iq (ay (rq [rm 11 5,
 rm 12 0,wn 13 12,wb 14 .lss 11 13] (wt 14 bq (ij 0))) (ay (dh 1 (ay (bx [rm 17 0,rm 18 5,
 wi 19 1 17 18,rl 20 1 ag 19,rm 21 1,rm 22 5,wi 23 1 21 22,rl 24 1 ag 23,
 wb 25 .neq 20 24] ah []) (wt 25 (rq [wf 4 ag] cd) bq))) (bx [rm 15 5,wd 16 .add 15 1,
 rm 5 16] ag [])))))) (rq [wf 4 ah] cd)))
def Rn(Gh:Nat):eh:=
 rq [wx 2 3 0,wf 4 ag] (ay (rq [wc 5 0] (dh 0 (iq (ay (rq [rm 7 5,rm 8 1,wn 9 8,
 wb 10 .lss 7 9,rm 11 10,wm 12 11 ah 5,rg 13 11 ah (.bin .lss (.t 12) (ci 40)),
 wp 14 11 13] (wt 14 bq (ij 0))) (ay (dh 1 (rq [rm 17 1,rm 18 5,wi 19 2 17 18,rf 20 0 19,
 rl 21 1 ag 20,ri 22 (.len .str (.t 21)),wd 23 .gtr 22 100] (wt 23 (rq [wf 4 ag] cd) bq))) (bx [rm 15 5,
 wd 16 .add 15 1,rm 5 16] ag [])))))) (ay (rq [wc 6 0] (dh 2 (iq (ay (rq [rm 24 6,rf 25 1 2,rl 26 1 ag 25,
 wn 27 26,wb 28 .lss 24 27,rm 29 28,wm 30 29 ah 6,rg 31 29 ah (.bin .lss (.t 30) (ci 40)),
 wp 32 29 31] (wt 32 bq (ij 2))) (ay (dh 3 (rq [rf 35 1 2,rl 36 1 ag 35,rm 37 6,
 wi 38 3 36 37,rf 39 0 38,rl 40 1 ag 39,ri 41 (.len .str (.t 40)),
 wd 42 .gtr 41 100] (wt 42 (rq [wf 4 ag] cd) bq))) (bx [rm 33 6,wd 34 .add 33 1,
 rm 6 34] ag [])))))) (rq [rm 43 1,wn 44 43,wd 45 .leq 44 40,rm 46 45,rg 47 46 ah (.Ai 1 (.t 2)),
 wl 48 46 ah 1 ag 47,rg 49 46 ah (.len .gd (.t 48)),rg 50 46 ah (.bin .leq (.t 49) (ci 40)),wp 51 46 50,
 rm 52 51,rg 53 52 ah (.Ai 2 (.t 2)),wl 54 52 ah 1 ah 53,rg 55 52 ah (.call Gh [.t 54]),
 wp 56 52 55,rm 4 56] cd)))
def Rk(Cs uo:Nat):eh:=
 rq [wx 1 2 0,ri 2 (.alloc [.cj,.cj])] (rq [rf 6 0 1,rl 7 1 ag 6,ri 8 (.call Cs [.t 7]),ri 9 (.build [.cj,.cj] [(0,1,.t 8)]),
 ri 3 (.alloc [.cj,.cj]),ws 2 3 9] (ay (rq [wc 4 0] (dh 0 (iq (ay (rq [rm 10 4,rf 11 1 1,rl 12 1 ag 11,
 wn 13 12,wb 14 .lss 10 13] (wt 14 bq (ij 0))) (ay (dh 1 (rq [rf 17 1 3,rl 18 1 ag 17,
 rm 5 18] (bx [rm 19 5,rf 20 1 1,rl 21 1 ag 20,rm 22 4,wi 23 5 21 22,rl 24 5 ah 23,ri 25 (.call uo [.t 24]),
 ri 26 (.xz ag 1 5 [.str ⟨#[]⟩,.int aj 0,.cj,.cj,.cj] [(0,5,.t 25)]),ri 27 (.app 5 96 (.t 19) (.t 26)),rf 28 1 3,
 ws 1 28 27] ag []))) (bx [rm 15 4,wd 16 .add 15 1,rm 4 16] ag [])))))) (rq [rl 29 2 ah 3,
 ws 2 2 29] cd)))
def Ti(Ef:Nat):eh:=
 rq [wx 1 5 0,ri 2 (.alloc [.str ⟨#[]⟩,.int aj 0,.cj,.cj,.cj])] (ay (bx [rf 3 0 1,rl 4 1 ag 3,rf 5 1 1,rl 6 3 ah 5,
 ri 7 (.call Ef [.t 6]),rf 8 4 1,rl 9 1 ag 8,ri 10 (.build [.str ⟨#[]⟩,.int aj 0,.cj,.cj,.cj] [(0,1,.t 4),(1,3,.t 7),(4,1,.t 9)]),
 ws 5 2 10] ah []) cd)
def Mp(Gg:Nat):eh:=
 rq [wx 1 2 0,wf 2 ag] (ay (rq [rf 6 1 1,rl 7 1 ag 6,wn 8 7,
 wd 9 .gtr 8 25] (wt 9 (rq [wf 2 ag] cd) bq)) (ay (rq [wc 3 0] (dh 0 (iq (ay (rq [rm 10 3,
 rf 11 1 1,rl 12 1 ag 11,wn 13 12,wb 14 .lss 10 13] (wt 14 bq (ij 0))) (ay (dh 1 (rq [rf 17 1 1,
 rl 18 1 ag 17,rm 19 3,wi 20 5 18 19,rl 21 5 ah 20,ri 4 (.alloc [.str ⟨#[]⟩,.int aj 0,.cj,.cj,.cj]),
 ws 5 4 21] (ay (rq [rf 22 1 4,rl 23 3 ah 22,rf 24 0 1,rl 25 1 ag 24,ri 26 (.call Gg [.t 23,.t 25]),ri 27 (.un .not (.t 26)),
 rm 28 27,rg 29 28 ag (.Ai 0 (.t 4)),wl 30 28 ag 1 ag 29,rg 31 28 ag (.len .str (.t 30)),rg 32 28 ag (.bin .gtr (.t 31) (ci 100)),
 wq 33 28 32,rm 34 33,rg 35 34 ag (.Ai 4 (.t 4)),wl 36 34 ag 1 ag 35,rg 37 34 ag (.len .gd (.t 36)),
 rg 38 34 ag (.bin .gtr (.t 37) (ci 10)),
 wq 39 34 38] (wt 39 (rq [wf 2 ag] cd) bq)) (rq [wc 5 0] (dh 2 (iq (ay (rq [rm 40 5,
 rf 41 4 4,rl 42 1 ag 41,wn 43 42,wb 44 .lss 40 43] (wt 44 bq (ij 2))) (ay (dh 3 (rq [rf 47 4 4,
 rl 48 1 ag 47,rm 49 5,wi 50 1 48 49,rl 51 1 ag 50,ri 52 (.len .str (.t 51)),
 wd 53 .gtr 52 100] (wt 53 (rq [wf 2 ag] cd) bq))) (bx [rm 45 5,wd 46 .add 45 1,
 rm 5 46] ag []))))))))) (bx [rm 15 3,wd 16 .add 15 1,rm 3 16] ag [])))))) (rq [wf 2 ah] cd)))
def Rl(uo I9:Nat):eh:=
 rq [wx 2 2 0,wx 3 2 1,wf 4 ag] (ay (rq [rf 14 0 2,rl 15 1 ag 14,wn 16 15,rf 17 0 3,rl 18 1 ag 17,
 wn 19 18,wb 20 .neq 16 19,rm 21 20,rg 22 21 ag (.Ai 1 (.t 2)),wl 23 21 ag 1 ag 22,
 rg 24 21 ag (.len .gd (.t 23)),rg 25 21 ag (.Ai 1 (.t 3)),wl 26 21 ag 1 ag 25,rg 27 21 ag (.len .gd (.t 26)),
 rg 28 21 ag (.bin .neq (.t 24) (.t 27)),
 wq 29 21 28] (wt 29 (rq [wf 4 ag] cd) bq)) (ay (rq [wc 5 0] (dh 0 (iq (ay (rq [rm 30 5,
 rf 31 0 2,rl 32 1 ag 31,wn 33 32,wb 34 .lss 30 33] (wt 34 bq (ij 0))) (ay (dh 1 (ay (bx [rf 37 0 2,
 rl 38 1 ag 37,rm 39 5,wi 40 2 38 39,rf 41 0 40,rl 42 1 ag 41,rf 43 0 3,rl 44 1 ag 43,rm 45 5,wi 46 2 44 45,rf 47 0 46,
 rl 48 1 ag 47,wb 49 .neq 42 48,rm 50 49,rg 51 50 ag (.Ai 0 (.t 2)),wl 52 50 ag 1 ag 51,wm 53 50 ag 5,
 rg 54 50 ag (.xn 2 (.t 52) (.t 53)),rg 55 50 ag (.Ai 1 (.t 54)),wl 56 50 ag 1 ag 55,rg 57 50 ag (.Ai 0 (.t 3)),
 wl 58 50 ag 1 ag 57,wm 59 50 ag 5,rg 60 50 ag (.xn 2 (.t 58) (.t 59)),rg 61 50 ag (.Ai 1 (.t 60)),
 wl 62 50 ag 1 ag 61,rg 63 50 ag (.bin .neq (.t 56) (.t 62)),
 wq 64 50 63] ah []) (wt 64 (rq [wf 4 ag] cd) bq))) (bx [rm 35 5,
 wd 36 .add 35 1,rm 5 36] ag [])))))) (ay (rq [wc 6 0] (dh 2 (iq (ay (rq [rm 65 6,rf 66 1 2,rl 67 1 ag 66,
 wn 68 67,wb 69 .lss 65 68] (wt 69 bq (ij 2))) (ay (dh 3 (ay (bx [rf 72 1 2,rl 73 1 ag 72,rm 74 6,
 wi 75 5 73 74,rl 76 5 ah 75,ri 77 (.call uo [.t 76]),rf 78 1 3,rl 79 1 ag 78,rm 80 6,wi 81 5 79 80,rl 82 5 ah 81,
 ri 7 (.zr 5),ri 8 (.zr 5),rn (.init 7 5 (.t 77)),rn (.init 8 5 (.t 82))] ah []) (ay (rq [rf 83 0 7,rl 84 1 ag 83,rf 85 0 8,rl 86 1 ag 85,
 wb 87 .neq 84 86,rm 88 87,rg 89 88 ag (.Ai 4 (.t 7)),wl 90 88 ag 1 ag 89,rg 91 88 ag (.Ai 4 (.t 8)),
 wl 92 88 ag 1 ag 91,rg 93 88 ag (.call I9 [.t 90,.t 92]),rg 94 88 ag (.un .not (.t 93)),
 wq 95 88 94,rm 96 95,rg 97 96 ag (.Ai 1 (.t 7)),rg 98 96 ag (.Ai 0 (.t 97)),wl 99 96 ag 1 ag 98,
 rg 100 96 ag (.Ai 1 (.t 8)),rg 101 96 ag (.Ai 0 (.t 100)),wl 102 96 ag 1 ag 101,rg 103 96 ag (.bin .neq (.t 99) (.t 102)),
 wq 104 96 103,rm 105 104,rg 106 105 ag (.Ai 1 (.t 7)),rg 107 105 ag (.Ai 1 (.t 106)),
 wl 108 105 ag 1 ag 107,rg 109 105 ag (.len .gd (.t 108)),rg 110 105 ag (.Ai 1 (.t 8)),rg 111 105 ag (.Ai 1 (.t 110)),
 wl 112 105 ag 1 ag 111,rg 113 105 ag (.len .gd (.t 112)),rg 114 105 ag (.bin .neq (.t 109) (.t 113)),
 wq 115 105 114,rm 116 115,rg 117 116 ag (.Ai 1 (.t 7)),rg 118 116 ag (.Ai 2 (.t 117)),
 wl 119 116 ag 1 ag 118,rg 120 116 ag (.len .gd (.t 119)),rg 121 116 ag (.Ai 1 (.t 8)),rg 122 116 ag (.Ai 2 (.t 121)),
 wl 123 116 ag 1 ag 122,rg 124 116 ag (.len .gd (.t 123)),rg 125 116 ag (.bin .neq (.t 120) (.t 124)),
 wq 126 116 125] (wt 126 (rq [wf 4 ag] cd) bq)) (ay (rq [wc 9 0] (dh 4 (iq (ay (rq [rm 127 9,
 rf 128 1 7,rf 129 1 128,rl 130 1 ag 129,wn 131 130,
 wb 132 .lss 127 131] (wt 132 bq (ij 4))) (ay (dh 5 (ay (bx [rf 135 1 7,rf 136 1 135,rl 137 1 ag 136,rm 138 9,
 wi 139 3 137 138,rl 140 3 ah 139,rf 141 1 8,rf 142 1 141,rl 143 1 ag 142,rm 144 9,wi 145 3 143 144,rl 146 3 ah 145,
 ri 147 (.eqs [.str,.int,.int] ah (.t 140) (.t 146))] ah []) (wt 147 (rq [wf 4 ag] cd) bq))) (bx [rm 133 9,
 wd 134 .add 133 1,rm 9 134] ag [])))))) (rq [wc 10 0] (dh 6 (iq (ay (rq [rm 148 10,rf 149 1 7,rf 150 2 149,rl 151 1 ag 150,
 wn 152 151,wb 153 .lss 148 152] (wt 153 bq (ij 6))) (ay (dh 7 (ay (bx [rf 156 1 7,rf 157 2 156,
 rl 158 1 ag 157,rm 159 10,wi 160 1 158 159,rl 161 1 ag 160,rf 162 1 8,rf 163 2 162,rl 164 1 ag 163,rm 165 10,
 wi 166 1 164 165,rl 167 1 ag 166,rm 11 161,rm 12 167] ah []) (ay (rq [rm 168 11,wn 169 168,rm 170 12,
 wn 171 170,
 wb 172 .neq 169 171] (wt 172 (rq [wf 4 ag] cd) bq)) (rq [wc 13 0] (dh 8 (iq (ay (rq [rm 173 13,
 rm 174 11,wn 175 174,wb 176 .lss 173 175] (wt 176 bq (ij 8))) (ay (dh 9 (ay (bx [rm 179 11,rm 180 13,
 wi 181 2 179 180,rl 182 2 ah 181,rm 183 12,rm 184 13,wi 185 2 183 184,rl 186 2 ah 185,
 ri 187 (.eqs [.int,.int] ah (.t 182) (.t 186))] ah []) (wt 187 (rq [wf 4 ag] cd) bq))) (bx [rm 177 13,
 wd 178 .add 177 1,rm 13 178] ag []))))))))) (bx [rm 154 10,wd 155 .add 154 1,rm 10 155] ag [])))))))))) (bx [rm 70 6,
 wd 71 .add 70 1,rm 6 71] ag [])))))) (rq [wf 4 ah] cd))))
def Th:eh:=
 rq [ri 0 (.alloc [.cj,.cj])] (rq [ri 2 (.build [.str ⟨#[]⟩,.int aj 0,.int aj 0] []),ri 3 (.build [.str ⟨#[]⟩,.int aj 0,.int aj 0] []),
 ri 4 (.build [.str ⟨#[]⟩,.int aj 0,.int aj 0] []),ri 5 (.build [.str ⟨#[]⟩,.int aj 0,.int aj 0] [(0,1,.c (.str ⟨#[119]⟩)),(1,1,ci 1)]),
 ri 6 (.build [.str ⟨#[]⟩,.int aj 0,.int aj 0] [(2,1,ci 1)]),ri 7 (.build [.str ⟨#[]⟩,.int aj 0,.int aj 0] [(2,1,ci 1)]),
 ri 8 (.xz ag 6 3 [.str ⟨#[]⟩,.int aj 0,.int aj 0] [(0,3,.t 2),(3,3,.t 3),(6,3,.t 4),(9,3,.t 5),(12,3,.t 6),(15,3,.t 7)]),
 rm 1 8] (rq [ri 9 (.build [.str ⟨#[]⟩,.int aj 0] [(0,1,.c (.str ⟨#[119]⟩)),(1,1,ci 2)]),ri 10 (.xz ag 1 2 [.str ⟨#[]⟩,.int aj 0] [(0,2,.t 9)]),
 rm 11 1,ri 12 (.build [.int aj 0,.cj,.cj] [(0,1,ci 0),(1,1,.t 11)]),
 ri 13 (.build [.str ⟨#[]⟩,.int aj 0,.cj,.cj,.cj] [(0,1,.c (.str ⟨#[97]⟩)),(1,3,.t 12)]),ri 14 (.build [.str ⟨#[]⟩,.int aj 0,.int aj 0] []),
 ri 15 (.build [.str ⟨#[]⟩,.int aj 0,.int aj 0] []),ri 16 (.build [.str ⟨#[]⟩,.int aj 0,.int aj 0] []),
 ri 17 (.build [.str ⟨#[]⟩,.int aj 0,.int aj 0] [(2,1,ci 1)]),ri 18 (.build [.str ⟨#[]⟩,.int aj 0,.int aj 0] [(2,1,ci 1)]),
 ri 19 (.build [.str ⟨#[]⟩,.int aj 0,.int aj 0] [(2,1,ci 2)]),
 ri 20 (.xz ag 6 3 [.str ⟨#[]⟩,.int aj 0,.int aj 0] [(0,3,.t 14),(3,3,.t 15),(6,3,.t 16),(9,3,.t 17),(12,3,.t 18),(15,3,.t 19)]),
 ri 21 (.build [.int aj 0,.cj,.cj] [(0,1,ci 0),(1,1,.t 20)]),
 ri 22 (.build [.str ⟨#[]⟩,.int aj 0,.cj,.cj,.cj] [(0,1,.c (.str ⟨#[98]⟩)),(1,3,.t 21)]),ri 23 (.build [.int aj 0,.cj,.cj] [(0,1,ci 4)]),
 ri 24 (.xz ag 2 1 [.str ⟨#[]⟩] [(0,1,.c (.str ⟨#[98]⟩)),(1,1,.c (.str ⟨#[97]⟩))]),
 ri 25 (.build [.str ⟨#[]⟩,.int aj 0,.cj,.cj,.cj] [(0,1,.c (.str ⟨#[99]⟩)),(1,3,.t 23),(4,1,.t 24)]),
 ri 26 (.xz ag 3 5 [.str ⟨#[]⟩,.int aj 0,.cj,.cj,.cj] [(0,5,.t 13),(5,5,.t 22),(10,5,.t 25)]),
 ri 27 (.build [.cj,.cj] [(0,1,.t 10),(1,1,.t 26)]),ws 2 0 27] cd))
def E0(vp:Nat):eh:=
 rq [wx 1 9 0,wf 2 ag] (rq [rf 3 1 1,rl 4 1 ag 3,ri 5 (.len .str (.t 4)),wd 6 .leq 5 100,rm 7 6,
 rg 8 7 ah (.Ai 2 (.t 1)),wl 9 7 ah 1 ag 8,rg 10 7 ah (.len .str (.t 9)),rg 11 7 ah (.bin .leq (.t 10) (ci 100)),
 wp 12 7 11,rm 13 12,rg 14 13 ah (.Ai 4 (.t 1)),wl 15 13 ah 5 ah 14,
 rg 16 13 ah (.xz ag 1 5 [.str ⟨#[]⟩,.int aj 0,.cj,.cj,.cj] [(0,5,.t 15)]),rg 17 13 ah (.build [.cj,.cj] [(1,1,.t 16)]),
 rg 18 13 ah (.call vp [.t 17]),wp 19 13 18,rm 2 19] cd)
def Hz:eh:=
 rq [wf 2 ag] (rq [rm 3 0,wd 4 .geq 3 (-1000000),rm 5 4,wm 6 5 ah 0,rg 7 5 ah (.bin .leq (.t 6) (ci 1000000)),
 wp 8 5 7,rm 2 8] cd)
def F0:eh:=
 rq [wf 2 ag] (ay (rq [rm 5 0,ri 6 (.len .str (.t 5)),wd 7 .lss 6 1,rm 8 7,wm 9 8 ag 0,
 rg 10 8 ag (.len .str (.t 9)),rg 11 8 ag (.bin .gtr (.t 10) (ci 20)),
 wq 12 8 11] (wt 12 (rq [wf 2 ag] cd) bq)) (ay (rq [rm 13 0,ri 14 (.len .str (.t 13)),
 wc 15 0] (dh 0 (iq (rq [wb 16 .lss 15 14] (ay (wt 16 bq (ij 0)) (ay (dh 1 (rq [rm 17 15,rm 3 17] (rq [rm 18 0,
 rm 19 3,ri 20 (.dB (.t 18) (.t 19)),rm 4 20] (rq [rm 21 4,ri 22 (.bin .lss (.t 21) (.c (.int .u8 97))),rm 23 22,wm 24 23 ag 4,
 rg 25 23 ag (.bin .gtr (.t 24) (.c (.int .u8 122))),wq 26 23 25,rm 27 26,wm 28 27 ah 3,
 rg 29 27 ah (.bin .eql (.t 28) (ci 0)),wm 30 27 ah 29,wm 31 30 ag 4,rg 32 30 ag (.bin .lss (.t 31) (.c (.int .u8 48))),
 rg 33 27 ah (.pick (.t 30) (.c (.bool ah)) (.t 32)),wm 34 27 ah 33,wm 35 34 ag 4,rg 36 34 ag (.bin .gtr (.t 35) (.c (.int .u8 57))),
 rg 37 27 ah (.pick (.t 34) (.c (.bool ah)) (.t 36)),
 wp 38 27 37] (wt 38 (rq [wf 2 ag] cd) bq))))) (bx [wd 39 .add 15 1,
 rm 15 39] ag []))))))) (rq [wf 2 ah] cd)))
def Cz(lb ss:Nat):eh:=
 rq [wc 2 0] (ay (rq [rm 5 0,wn 6 5,
 wd 7 .gtr 6 20] (wt 7 (rq [wc 2 1] cd) bq)) (ay (rq [rm 8 0,wn 9 8,
 wc 10 0] (dh 0 (iq (rq [wb 11 .lss 10 9] (ay (wt 11 bq (ij 0)) (ay (dh 1 (rq [rm 12 10,
 wi 13 2 8 10,rl 14 2 ah 13,ri 4 (.alloc [.str ⟨#[]⟩,.int aj 0]),rm 3 12,ws 2 4 14] (ay (bx [rf 15 0 4,
 rl 16 1 ag 15,ri 17 (.call lb [.t 16]),ri 18 (.un .not (.t 17)),rm 19 18,rg 20 19 ag (.Ai 1 (.t 4)),wl 21 19 ag 1 ag 20,
 rg 22 19 ag (.call ss [.t 21]),rg 23 19 ag (.un .not (.t 22)),wq 24 19 23,rm 25 24,wm 26 25 ag 3,
 rg 27 25 ag (.bin .gtr (.t 26) (ci 0)),wm 28 25 ag 27,wm 29 28 ah 0,wm 30 28 ah 3,rg 31 28 ah (.bin .sub (.t 30) (ci 1)),
 rg 32 28 ah (.xn 2 (.t 29) (.t 31)),rg 33 28 ah (.Ai 0 (.t 32)),wl 34 28 ah 1 ag 33,rg 35 28 ah (.Ai 0 (.t 4)),
 wl 36 28 ah 1 ag 35,rg 37 28 ah (.bin .geq (.t 34) (.t 36)),rg 38 25 ag (.pick (.t 28) (.t 37) (.c (.bool ag))),
 wq 39 25 38] ah []) (wt 39 (rq [wc 2 1] cd) bq)))) (bx [wd 40 .add 10 1,
 rm 10 40] ag []))))))) (rq [wc 2 0] cd)))
def O6(Dd po:Nat):eh:=
 rq [wx 2 3 0,wc 4 0] (ay (rq [rl 6 3 ah 2,ri 7 (.call Dd [.t 6]),rm 5 7] (rq [rm 8 5,
 wd 9 .neq 8 0] (wt 9 (rq [rm 10 5,rm 4 10] cd) bq))) (rq [rm 11 1,ri 12 (.call po [.t 11]),rm 4 12] cd))
def Kl(Dc B9:Nat):eh:=
 rq [wx 2 3 0,wo 4,wc 5 0] (ay (rq [rl 7 3 ah 2,rm 8 1,ri 9 (.call Dc [.t 7,.t 8]),rm 6 9] (rq [rm 10 6,
 wd 11 .neq 10 0] (wt 11 (rq [rm 12 6,wo 4,rm 5 12] cd) bq))) (rq [rl 13 3 ah 2,rm 14 1,
 ri 15 (.call B9 [.t 13,.t 14]),rx 16 15 0,rx 17 15 1,rm 4 16,rm 5 17] cd))
def Kk:eh:=
 rq [wx 2 3 0,wo 4,wc 5 0] (rq [ri 14 (.Ks),rm 6 14] (ay (rq [rm 15 1,wn 16 15,
 wc 17 0] (dh 0 (iq (rq [wb 18 .lss 17 16] (ay (wt 18 bq (ij 0)) (ay (dh 1 (rq [wi 19 2 15 17,
 rl 20 2 ah 19,ri 8 (.alloc [.str ⟨#[]⟩,.int aj 0]),ws 2 8 20] (bx [rm 21 6,rf 22 0 8,rl 23 1 ag 22,rf 24 1 8,rl 25 1 ag 24,
 rn (.cK (.one .str) (.t 21) (.t 23) (.t 25))] ag []))) (bx [wd 26 .add 17 1,
 rm 17 26] ag []))))))) (rq [wo 9] (ay (rq [rf 27 1 2,rl 28 1 ag 27,wn 29 28,
 wc 30 0] (dh 2 (iq (rq [wb 31 .lss 30 29] (ay (wt 31 bq (ij 2)) (ay (dh 3 (rq [wi 32 3 28 30,
 rl 33 3 ah 32,ri 11 (.alloc [.str ⟨#[]⟩,.int aj 0,.int aj 0]),ws 3 11 33] (rq [rm 35 6,rf 36 0 11,rl 37 1 ag 36,
 ri 38 (.lookup (.one .str) (.int aj 0) (.t 35) (.t 37) ah),rm 34 38,rx 39 34 0,rx 40 34 1,rm 12 39,rm 13 40] (ay (rq [rf 41 0 11,rl 42 1 ag 41,
 ri 43 (.bin .neq (.t 42) (.c (.str ⟨#[]⟩))),rm 44 43,wm 45 44 ah 13,rg 46 44 ah (.un .not (.t 45)),
 wp 47 44 46] (wt 47 (rq [wo 4,wc 5 4] cd) bq)) (ay (rq [rf 48 0 11,rl 49 1 ag 48,
 ri 50 (.bin .eql (.t 49) (.c (.str ⟨#[]⟩)))] (wt 50 (bx [wc 12 0] ag []) bq)) (bx [rm 51 9,rf 52 1 11,rl 53 1 ag 52,rm 54 12,
 wb 55 .mul 53 54,rf 56 2 11,rl 57 1 ag 56,wb 58 .add 55 57,ri 59 (.xz ag 1 1 [.int aj 0] [(0,1,.t 58)]),
 ri 60 (.app 1 8 (.t 51) (.t 59)),rm 9 60] ag [])))))) (bx [wd 61 .add 30 1,rm 30 61] ag []))))))) (rq [rm 62 9,rm 4 62,
 wc 5 0] cd)))))
def Dj(qm:Nat):eh:=
 rq [wf 2 ag] (rq [rm 3 0,wd 4 .geq 3 0,rm 5 4,wm 6 5 ah 0,rg 7 5 ah (.call qm []),
 rg 8 5 ah (.kf (ci 14)),rg 9 5 ah (.bin .lss (.t 6) (.t 8)),wp 10 5 9,rm 2 10] cd)
def O7(Dv Du Dt Ds Dr Dq Dp Hp Dn Dm Cv Cu Ct Fc:Nat):eh:=
 rq [ri 0 (.alloc [.str ⟨#[]⟩,.int aj 0,.int aj 0,.y0,.str ⟨#[]⟩,.int aj 0,.int aj 0,.y0,.str ⟨#[]⟩,.int aj 0,.int aj 0,.y0,.str ⟨#[]⟩,.int aj 0,.int aj 0,.y0,.str ⟨#[]⟩,.int aj 0,.int aj 0,.y0,.str ⟨#[]⟩,.int aj 0,.int aj 0,.y0,.str ⟨#[]⟩,.int aj 0,.int aj 0,.y0,.str ⟨#[]⟩,.int aj 0,.int aj 0,.y0,.str ⟨#[]⟩,.int aj 0,.int aj 0,.y0,.str ⟨#[]⟩,.int aj 0,.int aj 0,.y0,.str ⟨#[]⟩,.int aj 0,.int aj 0,.y0,.str ⟨#[]⟩,.int aj 0,.int aj 0,.y0,.str ⟨#[]⟩,.int aj 0,.int aj 0,.y0,.str ⟨#[]⟩,.int aj 0,.int aj 0,.y0])] (rq [ri 1 (.build [.str ⟨#[]⟩,.int aj 0,.int aj 0,.y0] [(0,1,.c (.str ⟨#[98,111,120]⟩)),(1,1,ci 0),(2,1,ci 6),(3,1,.c (.qb Dv []))]),
 ri 2 (.build [.str ⟨#[]⟩,.int aj 0,.int aj 0,.y0] [(0,1,.c (.str ⟨#[112,114,105,115,109]⟩)),(1,1,ci 0),(2,1,ci 2),(3,1,.c (.qb Du []))]),
 ri 3 (.build [.str ⟨#[]⟩,.int aj 0,.int aj 0,.y0] [(0,1,.c (.str ⟨#[115,108,97,110,116]⟩)),(1,1,ci 0),(2,1,ci 4),(3,1,.c (.qb Dt []))]),
 ri 4 (.build [.str ⟨#[]⟩,.int aj 0,.int aj 0,.y0] [(0,1,.c (.str ⟨#[112,121,114,97,109,105,100]⟩)),(1,1,ci 0),(2,1,ci 4),(3,1,.c (.qb Ds []))]),
 ri 5 (.build [.str ⟨#[]⟩,.int aj 0,.int aj 0,.y0] [(0,1,.c (.str ⟨#[117,110,105,111,110]⟩)),(1,1,ci 2),(2,1,ci 0),(3,1,.c (.qb Dr []))]),
 ri 6 (.build [.str ⟨#[]⟩,.int aj 0,.int aj 0,.y0] [(0,1,.c (.str ⟨#[105,110,116,101,114,115,101,99,116]⟩)),(1,1,ci 2),(2,1,ci 0),(3,1,.c (.qb Dq []))]),
 ri 7 (.build [.str ⟨#[]⟩,.int aj 0,.int aj 0,.y0] [(0,1,.c (.str ⟨#[115,117,98,116,114,97,99,116]⟩)),(1,1,ci 2),(2,1,ci 0),(3,1,.c (.qb Dp []))]),
 ri 8 (.build [.str ⟨#[]⟩,.int aj 0,.int aj 0,.y0] [(0,1,.c (.str ⟨#[99,108,105,112]⟩)),(1,1,ci 1),(2,1,ci 4),(3,1,.c (.qb Hp []))]),
 ri 9 (.build [.str ⟨#[]⟩,.int aj 0,.int aj 0,.y0] [(0,1,.c (.str ⟨#[115,104,105,102,116]⟩)),(1,1,ci 1),(2,1,ci 3),(3,1,.c (.qb Dn []))]),
 ri 10 (.build [.str ⟨#[]⟩,.int aj 0,.int aj 0,.y0] [(0,1,.c (.str ⟨#[115,121,109,109,101,116,114,121]⟩)),(1,1,ci 1),(2,1,ci 1),(3,1,.c (.qb Dm []))]),
 ri 11 (.build [.str ⟨#[]⟩,.int aj 0,.int aj 0,.y0] [(0,1,.c (.str ⟨#[115,99,97,108,101]⟩)),(1,1,ci 1),(2,1,ci 2),(3,1,.c (.qb Cv []))]),
 ri 12 (.build [.str ⟨#[]⟩,.int aj 0,.int aj 0,.y0] [(0,1,.c (.str ⟨#[115,117,109]⟩)),(1,1,ci 1),(2,1,ci 6),(3,1,.c (.qb Cu []))]),
 ri 13 (.build [.str ⟨#[]⟩,.int aj 0,.int aj 0,.y0] [(0,1,.c (.str ⟨#[99,111,114,101]⟩)),(1,1,ci 1),(2,1,ci 6),(3,1,.c (.qb Ct []))]),
 ri 14 (.build [.str ⟨#[]⟩,.int aj 0,.int aj 0,.y0] [(0,1,.c (.str ⟨#[114,101,112,101,97,116]⟩)),(1,1,ci 1),(2,1,ci 4),(3,1,.c (.qb Fc []))]),
 ri 15 (.build [.str ⟨#[]⟩,.int aj 0,.int aj 0,.y0,.str ⟨#[]⟩,.int aj 0,.int aj 0,.y0,.str ⟨#[]⟩,.int aj 0,.int aj 0,.y0,.str ⟨#[]⟩,.int aj 0,.int aj 0,.y0,.str ⟨#[]⟩,.int aj 0,.int aj 0,.y0,.str ⟨#[]⟩,.int aj 0,.int aj 0,.y0,.str ⟨#[]⟩,.int aj 0,.int aj 0,.y0,.str ⟨#[]⟩,.int aj 0,.int aj 0,.y0,.str ⟨#[]⟩,.int aj 0,.int aj 0,.y0,.str ⟨#[]⟩,.int aj 0,.int aj 0,.y0,.str ⟨#[]⟩,.int aj 0,.int aj 0,.y0,.str ⟨#[]⟩,.int aj 0,.int aj 0,.y0,.str ⟨#[]⟩,.int aj 0,.int aj 0,.y0,.str ⟨#[]⟩,.int aj 0,.int aj 0,.y0] [(0,4,.t 1),(4,4,.t 2),(8,4,.t 3),(12,4,.t 4),(16,4,.t 5),(20,4,.t 6),(24,4,.t 7),(28,4,.t 8),(32,4,.t 9),(36,4,.t 10),(40,4,.t 11),(44,4,.t 12),(48,4,.t 13),(52,4,.t 14)]),
 ws 56 0 15] cd)
def M9(qf qm:Nat):eh:=
 rq [wc 2 0,wc 3 0] (ay (rq [rm 4 0,ri 5 (.call qf [.t 4]),ri 6 (.un .not (.t 5))] (wt 6 (rq [wc 2 0,
 wc 3 1] cd) bq)) (rq [ri 7 (.call qm []),rm 8 0,ri 9 (.kX 14 4 ah (.t 7) (.t 8)),ri 10 (.iE 1 1 ag (.t 9)),rm 2 10,
 wc 3 0] cd))
def O8(qf qm o7 zi Da:Nat):eh:=
 rq [wx 1 3 0,wc 2 0] (ay (ay (bx [rf 3 0 1,rl 4 1 ag 3,ri 5 (.call qf [.t 4]),ri 6 (.un .not (.t 5)),rm 7 6,
 rg 8 7 ag (.Ai 1 (.t 1)),wl 9 7 ag 1 ag 8,rg 10 7 ag (.len .gd (.t 9)),rg 11 7 ag (.call qm []),rg 12 7 ag (.Ai 0 (.t 1)),
 wl 13 7 ag 1 ag 12,rg 14 7 ag (.kX 14 4 ah (.t 11) (.t 13)),rg 15 7 ag (.iE 2 1 ag (.t 14)),rg 16 7 ag (.bin .neq (.t 10) (.t 15)),
 wq 17 7 16,rm 18 17,rg 19 18 ag (.Ai 1 (.t 1)),wl 20 18 ag 1 ag 19,
 rg 21 18 ag (.call o7 [.t 20,.c (.qb zi [])]),
 wq 22 18 21] ah []) (wt 22 (rq [wc 2 220] cd) bq)) (ay (rq [rf 23 0 1,
 rl 24 1 ag 23] (dh 0 (ay (rq [wd 31 .eql 24 1,rm 30 31] (wt 30 bq (rq [wd 32 .eql 24 2,
 rm 30 32] (wt 30 bq (bx [wd 33 .eql 24 3,rm 30 33] ag []))))) (wt 30 (rq [rf 34 2 1,rl 35 1 ah 34,
 ri 36 (.call Da [.t 35]),wd 37 .neq 36 0] (wt 37 (rq [wc 2 220] cd) bq)) (rq [rf 25 2 1,rf 26 0 25,
 rl 27 1 ag 26,wn 28 27,
 wd 29 .gtr 28 0] (wt 29 (rq [wc 2 220] cd) bq)))))) (rq [wc 2 0] cd)))
def Km(xr:Nat):eh:=
 rq [wx 1 3 0,wf 2 ag] (rq [rl 3 3 ah 1,ri 4 (.call xr [.t 3]),ri 5 (.un .not (.t 4)),rm 2 5] cd)
def Gq(ss lb:Nat):eh:=
 rq [wx 1 3 0,wf 2 ag] (ay (rq [rf 3 1 1,rl 4 1 ag 3,ri 5 (.call ss [.t 4]),ri 6 (.un .not (.t 5)),rm 7 6,
 rg 8 7 ag (.Ai 2 (.t 1)),wl 9 7 ag 1 ag 8,rg 10 7 ag (.call ss [.t 9]),rg 11 7 ag (.un .not (.t 10)),
 wq 12 7 11] (wt 12 (rq [wf 2 ag] cd) bq)) (rq [rf 13 0 1,rl 14 1 ag 13,
 ri 15 (.call lb [.t 14]),rm 16 15,rg 17 16 ag (.Ai 0 (.t 1)),wl 18 16 ag 1 ag 17,
 rg 19 16 ag (.bin .eql (.t 18) (.c (.str ⟨#[]⟩))),wm 20 16 ag 19,rg 21 20 ah (.Ai 1 (.t 1)),wl 22 20 ah 1 ag 21,
 rg 23 20 ah (.bin .eql (.t 22) (ci 0)),rg 24 16 ag (.pick (.t 20) (.t 23) (.c (.bool ag))),wq 25 16 24,rm 2 25] cd))
def Iu(re:Nat):eh:=
 rq [wf 4 ag] (rq [rm 5 0,rm 6 1,ri 7 (.call re [.t 5,.t 6]),wd 8 .geq 7 0,rm 4 8] cd)
def Ka:eh:=
 rq [wc 4 0] (ay (rq [rm 6 0,wn 7 6,
 wc 8 0] (dh 0 (iq (rq [wb 9 .lss 8 7] (ay (wt 9 bq (ij 0)) (ay (dh 1 (rq [rm 10 8,rm 5 10] (rq [rm 11 1,
 rm 12 0,rm 13 5,wi 14 3 12 13,rl 15 3 ah 14,ri 16 (.zq (.t 11) [.t 15])] (wt 16 (rq [rm 17 5,
 rm 4 17] cd) bq)))) (bx [wd 18 .add 8 1,rm 8 18] ag []))))))) (rq [wc 4 (-1)] cd))
def Nq(xc:Nat):eh:=
 rq [wf 4 ag] (rq [rm 5 0,rm 6 1,ri 7 (.call xc [.t 5,.t 6]),wd 8 .geq 7 0,rm 4 8] cd)
def Qc:eh:=
 rq [wc 4 0] (ay (rq [rm 6 0,wn 7 6,
 wc 8 0] (dh 0 (iq (rq [wb 9 .lss 8 7] (ay (wt 9 bq (ij 0)) (ay (dh 1 (rq [rm 10 8,rm 5 10] (rq [rm 11 1,
 rm 12 0,rm 13 5,wi 14 1 12 13,rl 15 1 ag 14,ri 16 (.zq (.t 11) [.t 15])] (wt 16 (rq [rm 17 5,
 rm 4 17] cd) bq)))) (bx [wd 18 .add 8 1,rm 8 18] ag []))))))) (rq [wc 4 (-1)] cd))
def R3(Ah:Nat):eh:=
 rq [wf 4 ag] (rq [rm 5 0,rm 6 1,ri 7 (.call Ah [.t 5,.t 6]),wd 8 .geq 7 0,rm 4 8] cd)
def Gm:eh:=
 rq [wc 4 0] (ay (rq [rm 6 0,wn 7 6,
 wc 8 0] (dh 0 (iq (rq [wb 9 .lss 8 7] (ay (wt 9 bq (ij 0)) (ay (dh 1 (rq [rm 10 8,rm 5 10] (rq [rm 11 1,
 rm 12 0,rm 13 5,wi 14 1 12 13,rl 15 1 ag 14,wb 16 .eql 11 15] (wt 16 (rq [rm 17 5,
 rm 4 17] cd) bq)))) (bx [wd 18 .add 8 1,rm 8 18] ag []))))))) (rq [wc 4 (-1)] cd))
def Li:eh:=
 rq [wc 4 0] (ay (rq [rm 6 0,wn 7 6,
 wc 8 0] (dh 0 (iq (rq [wb 9 .lss 8 7] (ay (wt 9 bq (ij 0)) (ay (dh 1 (rq [rm 10 8,rm 5 10] (rq [rm 11 1,
 rm 12 0,rm 13 5,wi 14 5 12 13,rl 15 5 ah 14,ri 16 (.zq (.t 11) [.t 15])] (wt 16 (rq [rm 17 5,
 rm 4 17] cd) bq)))) (bx [wd 18 .add 8 1,rm 8 18] ag []))))))) (rq [wc 4 (-1)] cd))
def Nx(po lb zh Ch xi lj va:Nat):eh:=
 rq [wx 1 2 0,wc 2 0] (ay (rq [rf 11 0 1,rl 12 1 ag 11,ri 13 (.call po [.t 12]),wd 14 .neq 13 0,
 rm 15 14,rg 16 15 ag (.Ai 1 (.t 1)),wl 17 15 ag 1 ag 16,rg 18 15 ag (.len .gd (.t 17)),rg 19 15 ag (.bin .gtr (.t 18) (ci 20)),
 wq 20 15 19] (wt 20 (rq [wc 2 230] cd) bq)) (ay (rq [rf 21 1 1,rl 22 1 ag 21,
 wn 23 22,
 wc 24 0] (dh 0 (iq (rq [wb 25 .lss 24 23] (ay (wt 25 bq (ij 0)) (ay (dh 1 (rq [rm 26 24,
 wi 27 5 22 24,rl 28 5 ah 27,ri 4 (.alloc [.str ⟨#[]⟩,.int aj 0,.cj,.cj,.cj]),rm 3 26,
 ws 5 4 28] (ay (bx [rf 29 0 4,rl 30 1 ag 29,ri 31 (.call lb [.t 30]),ri 32 (.un .not (.t 31)),rm 33 32,
 wm 34 33 ag 3,rg 35 33 ag (.bin .gtr (.t 34) (ci 0)),wm 36 33 ag 35,rg 37 36 ah (.Ai 1 (.t 1)),wl 38 36 ah 1 ag 37,
 wm 39 36 ah 3,rg 40 36 ah (.bin .sub (.t 39) (ci 1)),rg 41 36 ah (.xn 5 (.t 38) (.t 40)),rg 42 36 ah (.Ai 0 (.t 41)),
 wl 43 36 ah 1 ag 42,rg 44 36 ah (.Ai 0 (.t 4)),wl 45 36 ah 1 ag 44,rg 46 36 ah (.bin .geq (.t 43) (.t 45)),
 rg 47 33 ag (.pick (.t 36) (.t 46) (.c (.bool ag))),
 wq 48 33 47] ah []) (wt 48 (rq [wc 2 230] cd) bq)))) (bx [wd 49 .add 24 1,
 rm 24 49] ag []))))))) (ay (rq [rf 50 1 1,rl 51 1 ag 50,wn 52 51,
 wc 53 0] (dh 2 (iq (rq [wb 54 .lss 53 52] (ay (wt 54 bq (ij 2)) (ay (dh 3 (rq [wi 55 5 51 53,
 rl 56 5 ah 55,ri 6 (.alloc [.str ⟨#[]⟩,.int aj 0,.cj,.cj,.cj]),ws 5 6 56] (ay (rq [rf 58 1 6,rl 59 3 ah 58,rf 60 0 1,
 rl 61 1 ag 60,ri 62 (.call zh [.t 59,.t 61]),rm 57 62,rx 63 57 0,rx 64 57 1,rm 7 63,rm 8 64] (rq [rm 65 8,
 wd 66 .neq 65 0] (wt 66 (rq [wc 2 230] cd) bq))) (ay (rq [rf 68 1 6,rf 69 0 68,rl 70 1 ag 69,
 ri 71 (.call Ch [.t 70]),rm 67 71,rx 72 67 0,rx 73 67 1,rm 9 72,rm 10 73] (rq [rm 74 9,rf 75 4 6,rl 76 1 ag 75,wn 77 76,
 wb 78 .neq 74 77] (wt 78 (rq [wc 2 230] cd) bq))) (rq [rf 79 4 6,rl 80 1 ag 79,ri 81 (.Oj xi [.t 1]),
 ri 82 (.call lj [.t 80,.t 81])] (wt 82 (rq [wc 2 230] cd) bq)))))) (bx [wd 83 .add 53 1,
 rm 53 83] ag []))))))) (ay (ay (bx [rl 84 2 ah 1,ri 85 (.call va [.t 84]),wn 86 85,rf 87 1 1,rl 88 1 ag 87,
 wn 89 88,wb 90 .neq 86 89] ah []) (wt 90 (rq [wc 2 230] cd) bq)) (rq [wc 2 0] cd)))))
def Kg(zu:Nat):eh:=
 rq [wf 3 ag] (rq [rl 4 2 ah 1,rm 5 0,ri 6 (.call zu [.t 4,.t 5]),ri 7 (.Kt .ptr ag (.t 6)),rm 3 7] cd)
def Ii:eh:=
 rq [wx 2 2 0,ri 4 (.kf (.c .Y9))] (ay (rq [rf 6 1 2,rl 7 1 ag 6,wn 8 7,
 wc 9 0] (dh 0 (iq (rq [wb 10 .lss 9 8] (ay (wt 10 bq (ij 0)) (ay (dh 1 (rq [rm 11 9,rm 5 11] (rq [rf 12 1 2,
 rl 13 1 ag 12,rm 14 5,wi 15 5 13 14,rf 16 0 15,rl 17 1 ag 16,rm 18 1,wb 19 .eql 17 18] (wt 19 (rq [rf 20 1 2,
 rl 21 1 ag 20,rm 22 5,wi 23 5 21 22,rm 4 23] cd) bq)))) (bx [wd 24 .add 9 1,
 rm 9 24] ag []))))))) (rq [ri 4 (.kf (.c .Y9))] cd))
def Fj(ni s7 lj:Nat):eh:=
 rq [wx 2 5 0,wf 3 ag] (rq [rl 4 1 ag 1,rf 5 0 2,rl 6 1 ag 5,ri 7 (.call ni [.t 4,.t 6]),
 ri 8 (.un .not (.t 7)),rm 9 8,rg 10 9 ah (.Ai 4 (.t 2)),wl 11 9 ah 1 ag 10,rg 12 9 ah (.Oj s7 [.t 1]),
 rg 13 9 ah (.call lj [.t 11,.t 12]),rg 14 9 ah (.un .not (.t 13)),wp 15 9 14,rm 3 15] cd)
def Dz(ni:Nat):eh:=
 rq [wf 3 ag] (rq [rl 4 1 ag 1,rm 5 0,ri 6 (.call ni [.t 4,.t 5]),ri 7 (.un .not (.t 6)),rm 3 7] cd)
def Kb:eh:=
 rq [wc 4 0] (ay (rq [rm 6 0,wn 7 6,
 wc 8 0] (dh 0 (iq (rq [wb 9 .lss 8 7] (ay (wt 9 bq (ij 0)) (ay (dh 1 (rq [rm 10 8,rm 5 10] (rq [rm 11 1,
 rm 12 0,rm 13 5,wi 14 2 12 13,rl 15 2 ah 14,ri 16 (.zq (.t 11) [.t 15])] (wt 16 (rq [rm 17 5,
 rm 4 17] cd) bq)))) (bx [wd 18 .add 8 1,rm 8 18] ag []))))))) (rq [wc 4 (-1)] cd))
def O3(xk ph:Nat):eh:=
 rq [wx 2 2 0,wx 3 1 1,wc 4 0] (rq [rf 5 0 2,rl 6 1 ag 5,ri 7 (.Oj xk [.t 3]),
 ri 8 (.call ph [.t 6,.t 7]),rm 4 8] cd)
def O2(xj jo:Nat):eh:=
 rq [wx 2 2 0,wx 3 1 1,wc 4 0] (rq [rf 5 1 2,rl 6 1 ag 5,ri 7 (.Oj xj [.t 3]),
 ri 8 (.call jo [.t 6,.t 7]),rm 4 8] cd)
def Ki:eh:=
 rq [wx 2 2 0,wf 3 ag] (rq [rf 4 0 2,rl 5 1 ag 4,rl 6 1 ag 1,wb 7 .eql 5 6,rm 3 7] cd)
def Kh:eh:=
 rq [wx 2 5 0,wf 3 ag] (rq [rf 4 0 2,rl 5 1 ag 4,rl 6 1 ag 1,wb 7 .eql 5 6,rm 3 7] cd)
def Ns:eh:=
 rq [wo 2] (ay (rq [rm 3 0,
 ri 4 (.Kt .gd ag (.t 3))] (wt 4 (rq [wo 2] cd) bq)) (rq [ri 5 (.xz ag 0 2 [.str ⟨#[]⟩,.int aj 0] []),rm 6 0,
 ri 7 (.app 2 24 (.t 5) (.t 6)),rm 2 7] cd))
def Uj:eh:=
 rq [wo 2] (ay (rq [rm 3 0,
 ri 4 (.Kt .gd ag (.t 3))] (wt 4 (rq [wo 2] cd) bq)) (rq [ri 5 (.xz ag 0 1 [.str ⟨#[]⟩] []),rm 6 0,
 ri 7 (.app 1 16 (.t 5) (.t 6)),rm 2 7] cd))
def Nr:eh:=
 rq [wo 2] (ay (rq [rm 3 0,
 ri 4 (.Kt .gd ag (.t 3))] (wt 4 (rq [wo 2] cd) bq)) (rq [ri 5 (.xz ag 0 3 [.str ⟨#[]⟩,.int aj 0,.int aj 0] []),
 rm 6 0,ri 7 (.app 3 32 (.t 5) (.t 6)),rm 2 7] cd))
def Oy:eh:=
 rq [wo 2] (ay (rq [rm 3 0,
 ri 4 (.Kt .gd ag (.t 3))] (wt 4 (rq [wo 2] cd) bq)) (rq [ri 5 (.xz ag 0 2 [.int aj 0,.int aj 0] []),rm 6 0,
 ri 7 (.app 2 16 (.t 5) (.t 6)),rm 2 7] cd))
def Ax:eh:=
 rq [wo 4] (rq [wo 5] (ay (rq [rm 8 0,wn 9 8,
 wc 10 0] (dh 0 (iq (rq [wb 11 .lss 10 9] (ay (wt 11 bq (ij 0)) (ay (dh 1 (rq [wi 12 5 8 10,
 rl 13 5 ah 12,ri 7 (.alloc [.str ⟨#[]⟩,.int aj 0,.cj,.cj,.cj]),ws 5 7 13] (bx [rm 14 5,rm 15 1,rl 16 5 ah 7,
 ri 17 (.zq (.t 15) [.t 16]),ri 18 (.xz ag 1 5 [.str ⟨#[]⟩,.int aj 0,.cj,.cj,.cj] [(0,5,.t 17)]),ri 19 (.app 5 96 (.t 14) (.t 18)),
 rm 5 19] ag []))) (bx [wd 20 .add 10 1,rm 10 20] ag []))))))) (rq [rm 21 5,rm 4 21] cd)))
def Ay:eh:=
 rq [wo 4] (rq [wo 5] (ay (rq [rm 8 0,wn 9 8,
 wc 10 0] (dh 0 (iq (rq [wb 11 .lss 10 9] (ay (wt 11 bq (ij 0)) (ay (dh 1 (rq [wi 12 1 8 10,
 rl 13 1 ag 12,rm 7 13] (bx [rm 14 5,rm 15 1,rm 16 7,ri 17 (.zq (.t 15) [.t 16]),ri 18 (.xz ag 1 1 [.cj] [(0,1,.t 17)]),
 ri 19 (.app 1 24 (.t 14) (.t 18)),rm 5 19] ag []))) (bx [wd 20 .add 10 1,rm 10 20] ag []))))))) (rq [rm 21 5,rm 4 21] cd)))
def Pn(pk lk kc ib:Nat):eh:=
 rq [wx 1 5 0,ri 2 (.alloc [.str ⟨#[]⟩,.int aj 0,.cj,.cj,.cj])] (rq [rf 3 4 1,rl 4 1 ag 3,ri 5 (.call pk [.t 4]),rf 6 4 1,
 ws 1 6 5] (rq [rf 7 1 1,rf 8 1 7,rl 9 1 ag 8,ri 10 (.call lk [.t 9]),rf 11 1 1,rf 12 1 11,
 ws 1 12 10] (rq [rf 13 1 1,rf 14 2 13,rf 15 0 14,rl 16 1 ag 15,
 ri 17 (.call kc [.t 16,.c (.qb ib [])]),ri 18 (.build [.cj] [(0,1,.t 17)]),rf 19 1 1,rf 20 2 19,
 ws 1 20 18] (rq [rl 21 5 ah 1,ws 5 2 21] cd))))
def M8(gn fg j5:Nat):eh:=
 rq [wx 1 2 0,ri 2 (.alloc [.cj,.cj])] (ay (bx [rf 3 0 1,rl 4 1 ag 3,ri 5 (.call gn [.t 4]),rf 6 1 1,rl 7 1 ag 6,
 ri 8 (.call fg [.t 7,.c (.qb j5 [])]),ri 9 (.build [.cj,.cj] [(0,1,.t 5),(1,1,.t 8)]),
 ws 2 2 9] ah []) cd)
def M6(yl:Nat):eh:=
 rq [wx 1 2 0,wf 2 ag] (rq [rl 3 2 ah 1,ri 4 (.call yl [.t 3]),ri 5 (.un .not (.t 4)),rm 2 5] cd)
def Ey:eh:=
 rq [wx 1 1 0,wc 2 0] (rq [wc 3 0] (ay (rq [rf 6 0 1,rl 7 1 ag 6,wn 8 7,
 wc 9 0] (dh 0 (iq (rq [wb 10 .lss 9 8] (ay (wt 10 bq (ij 0)) (ay (dh 1 (rq [wi 11 1 7 9,
 rl 12 1 ag 11,rm 5 12] (bx [rm 13 3,rm 14 5,wn 15 14,wb 16 .add 13 15,
 rm 3 16] ag []))) (bx [wd 17 .add 9 1,rm 9 17] ag []))))))) (rq [rm 18 3,rm 2 18] cd)))
def Cn:eh:=
 rq [wx 1 1 0,wo 2] (rq [wo 3] (ay (rq [rf 8 0 1,rl 9 1 ag 8,wn 10 9,
 wc 11 0] (dh 0 (iq (rq [wb 12 .lss 11 10] (ay (wt 12 bq (ij 0)) (ay (dh 1 (rq [wi 13 1 9 11,
 rl 14 1 ag 13,rm 5 14] (rq [rm 15 5,wn 16 15,
 wc 17 0] (dh 2 (iq (rq [wb 18 .lss 17 16] (ay (wt 18 bq (ij 2)) (ay (dh 3 (rq [rm 19 17,
 wi 20 2 15 17,rl 21 2 ah 20,ri 7 (.alloc [.int aj 0,.int aj 0]),rm 6 19,ws 2 7 21] (bx [rm 22 3,rl 23 2 ah 7,
 rm 24 5,rm 25 6,wd 26 .add 25 1,rm 27 5,wn 28 27,wb 29 .rem 26 28,wi 30 2 24 29,rl 31 2 ah 30,
 ri 32 (.build [.int aj 0,.int aj 0,.int aj 0,.int aj 0] [(0,2,.t 23),(2,2,.t 31)]),
 ri 33 (.xz ag 1 4 [.int aj 0,.int aj 0,.int aj 0,.int aj 0] [(0,4,.t 32)]),ri 34 (.app 4 32 (.t 22) (.t 33)),
 rm 3 34] ah []))) (bx [wd 35 .add 17 1,rm 17 35] ag []))))))))) (bx [wd 36 .add 11 1,
 rm 11 36] ag []))))))) (rq [rm 37 3,rm 2 37] cd)))
def Di:eh:=
 rq [wx 1 2 0,wf 2 ag] (rq [wa 3 2 1 1 0,rl 4 1 ag 3,wa 5 2 1 1 1,rl 6 1 ag 5,
 ri 7 (.Fm ah (.t 4) (.t 6)),wd 8 .leq 7 500,rm 9 8,rg 10 9 ah (.y9 2 1 (.t 1) (ci 0)),wl 11 9 ah 1 ag 10,
 rg 12 9 ah (.y9 2 1 (.t 1) (ci 1)),wl 13 9 ah 1 ag 12,rg 14 9 ah (.Fm ag (.t 11) (.t 13)),rg 15 9 ah (.bin .geq (.t 14) (ci (-500))),
 wp 16 9 15,rm 2 16] cd)
def Hg:eh:=
 rq [wx 2 2 0,wx 3 2 1,ri 4 (.alloc [.int aj 0,.int aj 0])] (rq [wa 5 2 1 2 0,rl 6 1 ag 5,
 wa 7 2 1 3 0,rl 8 1 ag 7,wb 9 .sub 6 8,wa 10 2 1 2 1,rl 11 1 ag 10,wa 12 2 1 3 1,
 rl 13 1 ag 12,wb 14 .sub 11 13,ri 15 (.build [.int aj 0,.int aj 0] [(0,1,.t 9),(1,1,.t 14)]),ws 2 4 15] cd)
def Ja(lh:Nat):eh:=
 rq [wf 4 ag] (rq [rm 5 0,rm 6 1,ri 7 (.call lh [.t 5,.t 6]),wd 8 .geq 7 0,rm 4 8] cd)
def Lj:eh:=
 rq [wc 4 0] (ay (rq [rm 6 0,wn 7 6,
 wc 8 0] (dh 0 (iq (rq [wb 9 .lss 8 7] (ay (wt 9 bq (ij 0)) (ay (dh 1 (rq [rm 10 8,rm 5 10] (rq [rm 11 1,
 rm 12 0,rm 13 5,wi 14 2 12 13,rl 15 2 ah 14,ri 16 (.zq (.t 11) [.t 15])] (wt 16 (rq [rm 17 5,
 rm 4 17] cd) bq)))) (bx [wd 18 .add 8 1,rm 8 18] ag []))))))) (rq [wc 4 (-1)] cd))
def M5(xp u5:Nat):eh:=
 rq [wf 2 ag] (rq [ri 10 (.Ks),rm 3 10] (ay (rq [rm 11 0,wn 12 11,
 wc 13 0] (dh 0 (iq (rq [wb 14 .lss 13 12] (ay (wt 14 bq (ij 0)) (ay (dh 1 (rq [wi 15 4 11 13,
 rl 16 4 ah 15,ri 5 (.alloc [.int aj 0,.int aj 0,.int aj 0,.int aj 0]),ws 4 5 16] (ay (rq [wa 17 2 2 5 0,
 rl 18 2 ah 17,wa 19 2 2 5 1,rl 20 2 ah 19,ri 21 (.eqs [.int,.int] ag (.t 18) (.t 20)),rm 22 21,wm 23 22 ag 3,
 wl 24 22 ag 4 ah 5,rg 25 22 ag (.lookup (.row [.int,.int,.int,.int]) (.bool ag) (.t 23) (.t 24) ag),
 wq 26 22 25,rm 27 26,wm 28 27 ag 3,rg 29 27 ag (.y9 2 2 (.t 5) (ci 1)),wl 30 27 ag 2 ah 29,
 rg 31 27 ag (.y9 2 2 (.t 5) (ci 0)),wl 32 27 ag 2 ah 31,
 rg 33 27 ag (.build [.int aj 0,.int aj 0,.int aj 0,.int aj 0] [(0,2,.t 30),(2,2,.t 32)]),
 rg 34 27 ag (.lookup (.row [.int,.int,.int,.int]) (.bool ag) (.t 28) (.t 33) ag),
 wq 35 27 34] (wt 35 (rq [wf 2 ag] cd) bq)) (bx [rm 36 3,rl 37 4 ah 5,
 rn (.cK (.row [.int,.int,.int,.int]) (.t 36) (.t 37) (.c (.bool ah)))] ag [])))) (bx [wd 38 .add 13 1,
 rm 13 38] ag []))))))) (ay (rq [rm 39 0,wn 40 39,
 wc 41 0] (dh 2 (iq (rq [wb 42 .lss 41 40] (ay (wt 42 bq (ij 2)) (ay (dh 3 (rq [rm 43 41,
 wi 44 4 39 41,rl 45 4 ah 44,ri 7 (.alloc [.int aj 0,.int aj 0,.int aj 0,.int aj 0]),rm 6 43,
 ws 4 7 45] (rq [rm 46 0,wn 47 46,
 wc 48 0] (dh 4 (iq (rq [wb 49 .lss 48 47] (ay (wt 49 bq (ij 4)) (ay (dh 5 (rq [rm 50 48,
 wi 51 4 46 48,rl 52 4 ah 51,ri 9 (.alloc [.int aj 0,.int aj 0,.int aj 0,.int aj 0]),rm 8 50,
 ws 4 9 52] (rq [rl 53 4 ah 7,wa 54 2 2 9 0,rl 55 2 ah 54,ri 56 (.call xp [.t 53,.t 55]),rm 57 56,
 wm 58 57 ag 8,wm 59 57 ag 6,rg 60 57 ag (.bin .lss (.t 58) (.t 59)),wm 61 57 ag 60,wl 62 61 ah 4 ah 7,
 wl 63 61 ah 4 ah 9,rg 64 61 ah (.call u5 [.t 62,.t 63]),rg 65 57 ag (.pick (.t 61) (.t 64) (.c (.bool ag))),
 wq 66 57 65] (wt 66 (rq [wf 2 ag] cd) bq)))) (bx [wd 67 .add 48 1,
 rm 48 67] ag []))))))))) (bx [wd 68 .add 41 1,rm 41 68] ag []))))))) (rq [wf 2 ah] cd))))
def Gn(gr jy:Nat):eh:=
 rq [wx 2 4 0,wx 3 2 1,wf 4 ag] (ay (bx [wa 7 2 2 2 0,rl 8 2 ah 7,rl 9 2 ah 3,
 ri 10 (.call gr [.t 8,.t 9]),wa 11 2 2 2 1,rl 12 2 ah 11,rl 13 2 ah 3,ri 14 (.call gr [.t 12,.t 13]),
 ri 5 (.zr 2),ri 6 (.zr 2),rn (.init 5 2 (.t 10)),rn (.init 6 2 (.t 14))] ah []) (rq [rl 15 2 ah 5,rl 16 2 ah 6,
 ri 17 (.call jy [.t 15,.t 16]),wd 18 .eql 17 0,rm 19 18,rg 20 19 ah (.y9 2 1 (.t 5) (ci 0)),wl 21 19 ah 1 ag 20,
 rg 22 19 ah (.y9 2 1 (.t 6) (ci 0)),wl 23 19 ah 1 ag 22,rg 24 19 ah (.bin .mul (.t 21) (.t 23)),rg 25 19 ah (.y9 2 1 (.t 5) (ci 1)),
 wl 26 19 ah 1 ag 25,rg 27 19 ah (.y9 2 1 (.t 6) (ci 1)),wl 28 19 ah 1 ag 27,rg 29 19 ah (.bin .mul (.t 26) (.t 28)),
 rg 30 19 ah (.bin .add (.t 24) (.t 29)),rg 31 19 ah (.bin .lss (.t 30) (ci 0)),wp 32 19 31,rm 4 32] cd))
def D4(s9:Nat):eh:=
 rq [wx 2 4 0,wx 3 4 1,wf 4 ag] (rq [ri 5 (.kf (.c (.qb s9 [])))] (ay (bx [rm 6 5,
 rl 7 4 ah 2,wa 8 2 2 3 0,rl 9 2 ah 8,ri 10 (.zq (.t 6) [.t 7,.t 9]),rm 11 5,rl 12 4 ah 2,wa 13 2 2 3 1,rl 14 2 ah 13,
 ri 15 (.zq (.t 11) [.t 12,.t 14]),wb 16 .mul 10 15,wd 17 .lss 16 0,rm 18 17,wm 19 18 ah 5,
 wl 20 18 ah 4 ah 3,rg 21 18 ah (.y9 2 2 (.t 2) (ci 0)),wl 22 18 ah 2 ah 21,rg 23 18 ah (.zq (.t 19) [.t 20,.t 22]),
 wm 24 18 ah 5,wl 25 18 ah 4 ah 3,rg 26 18 ah (.y9 2 2 (.t 2) (ci 1)),wl 27 18 ah 2 ah 26,
 rg 28 18 ah (.zq (.t 24) [.t 25,.t 27]),rg 29 18 ah (.bin .mul (.t 23) (.t 28)),rg 30 18 ah (.bin .lss (.t 29) (ci 0)),
 wp 31 18 30,rm 4 31] ah []) cd))
def Bt(gr jy:Nat):eh:=
 rq [wx 2 4 0,wx 3 2 1,wc 4 0] (ay (bx [wa 5 2 2 2 1,rl 6 2 ah 5,wa 7 2 2 2 0,
 rl 8 2 ah 7,ri 9 (.call gr [.t 6,.t 8]),rl 10 2 ah 3,wa 11 2 2 2 0,rl 12 2 ah 11,
 ri 13 (.call gr [.t 10,.t 12]),ri 14 (.call jy [.t 9,.t 13]),ri 15 (.Fm ag (ci 1) (.t 14)),
 ri 16 (.Fm ah (ci (-1)) (.t 15)),rm 4 16] ah []) cd)
def Nz:eh:=
 rq [wx 2 2 0,wx 3 2 1,wc 4 0] (rq [wa 5 2 1 2 0,rl 6 1 ag 5,wa 7 2 1 3 1,rl 8 1 ag 7,
 wb 9 .mul 6 8,wa 10 2 1 2 1,rl 11 1 ag 10,wa 12 2 1 3 0,rl 13 1 ag 12,wb 14 .mul 11 13,
 wb 15 .sub 9 14,rm 4 15] cd)
def Pj(gr jy:Nat):eh:=
 rq [wx 3 2 0,wx 4 2 1,wx 5 2 2,wc 6 0] (ay (bx [rl 8 2 ah 4,rl 9 2 ah 3,
 ri 10 (.call gr [.t 8,.t 9]),rl 11 2 ah 5,rl 12 2 ah 4,ri 13 (.call gr [.t 11,.t 12]),
 ri 14 (.call jy [.t 10,.t 13]),rm 7 14] ah []) (rq [rm 15 7,ri 16 (.Fm ag (ci 1) (.t 15)),ri 17 (.Fm ah (ci (-1)) (.t 16)),
 rm 6 17] cd))
def M7(jy:Nat):eh:=
 rq [wf 2 ag] (ay (rq [rm 16 0,wn 17 16,
 wc 18 0] (dh 0 (iq (rq [wb 19 .lss 18 17] (ay (wt 19 bq (ij 0)) (ay (dh 1 (rq [rm 20 18,
 wi 21 4 16 18,rl 22 4 ah 21,ri 4 (.alloc [.int aj 0,.int aj 0,.int aj 0,.int aj 0]),rm 3 20,
 ws 4 4 22] (rq [wa 23 2 2 4 0,wa 24 2 1 23 0,rl 25 1 ag 24,wa 26 2 2 4 1,
 wa 27 2 1 26 0,rl 28 1 ag 27,wb 29 .add 25 28,wa 30 2 2 4 0,wa 31 2 1 30 1,rl 32 1 ag 31,
 wa 33 2 2 4 1,wa 34 2 1 33 1,rl 35 1 ag 34,wb 36 .add 32 35,
 ri 37 (.build [.int aj 0,.int aj 0] [(0,1,.t 29),(1,1,.t 36)]),ri 5 (.alloc [.int aj 0,.int aj 0]),
 ws 2 5 37] (rq [wc 6 0,wc 7 1] (ay (rq [wa 38 2 2 4 0,wa 39 2 1 38 1,rl 40 1 ag 39,
 wa 41 2 2 4 1,wa 42 2 1 41 1,rl 43 1 ag 42,wb 44 .eql 40 43] (wt 44 (bx [wc 6 1,
 wc 7 0] ag []) bq)) (rq [wc 8 0] (ay (rq [rm 45 0,wn 46 45,
 wc 47 0] (dh 2 (iq (rq [wb 48 .lss 47 46] (ay (wt 48 bq (ij 2)) (ay (dh 3 (rq [rm 49 47,
 wi 50 4 45 47,rl 51 4 ah 50,ri 10 (.alloc [.int aj 0,.int aj 0,.int aj 0,.int aj 0]),rm 9 49,
 ws 4 10 51] (ay (bx [rm 52 6,wa 53 2 2 10 0,ri 54 (.y9 2 1 (.t 53) (.t 52)),rl 55 1 ag 54,
 ri 56 (.bin .mul (ci 2) (.t 55)),rm 57 6,ri 58 (.y9 2 1 (.t 5) (.t 57)),rl 59 1 ag 58,wb 60 .sub 56 59,rm 61 7,wa 62 2 2 10 0,
 ri 63 (.y9 2 1 (.t 62) (.t 61)),rl 64 1 ag 63,ri 65 (.bin .mul (ci 2) (.t 64)),rm 66 7,ri 67 (.y9 2 1 (.t 5) (.t 66)),rl 68 1 ag 67,
 wb 69 .sub 65 68,ri 70 (.build [.int aj 0,.int aj 0] [(0,1,.t 60),(1,1,.t 69)]),rm 71 6,wa 72 2 2 10 1,
 ri 73 (.y9 2 1 (.t 72) (.t 71)),rl 74 1 ag 73,ri 75 (.bin .mul (ci 2) (.t 74)),rm 76 6,ri 77 (.y9 2 1 (.t 5) (.t 76)),rl 78 1 ag 77,
 wb 79 .sub 75 78,rm 80 7,wa 81 2 2 10 1,ri 82 (.y9 2 1 (.t 81) (.t 80)),rl 83 1 ag 82,ri 84 (.bin .mul (ci 2) (.t 83)),rm 85 7,
 ri 86 (.y9 2 1 (.t 5) (.t 85)),rl 87 1 ag 86,wb 88 .sub 84 87,ri 89 (.build [.int aj 0,.int aj 0] [(0,1,.t 79),(1,1,.t 88)]),
 ri 11 (.zr 2),ri 12 (.zr 2),rn (.init 11 2 (.t 70)),rn (.init 12 2 (.t 89))] ah []) (ay (rq [rm 90 9,rm 91 3,wb 92 .eql 90 91,rm 93 92,
 rg 94 93 ag (.y9 2 1 (.t 11) (ci 1)),wl 95 93 ag 1 ag 94,rg 96 93 ag (.bin .gtr (.t 95) (ci 0)),rg 97 93 ag (.y9 2 1 (.t 12) (ci 1)),
 wl 98 93 ag 1 ag 97,rg 99 93 ag (.bin .gtr (.t 98) (ci 0)),rg 100 93 ag (.beq ag (.t 96) (.t 99)),
 wq 101 93 100] (wt 101 (ij 3) bq)) (rq [wa 102 2 1 12 1,rl 103 1 ag 102,
 wa 104 2 1 11 1,rl 105 1 ag 104,wb 106 .gtr 103 105,rm 13 106] (rq [rl 107 2 ah 11,rl 108 2 ah 12,
 ri 109 (.call jy [.t 107,.t 108]),wd 110 .gtr 109 0,rm 111 13,
 ri 112 (.beq ag (.t 110) (.t 111))] (wt 112 (rq [rm 113 13] (wt 113 (bx [rm 114 8,wd 115 .add 114 1,
 rm 8 115] ag []) (bx [rm 116 8,wd 117 .sub 116 1,rm 8 117] ag []))) bq))))))) (bx [wd 118 .add 47 1,
 rm 47 118] ag []))))))) (ay (rq [rm 119 6,wd 120 .eql 119 1] (wt 120 (bx [rm 121 8,ri 122 (.un .neg (.t 121)),
 rm 8 122] ag []) bq)) (rq [rm 123 8,rm 14 123] (ay (bx [rm 124 7,wa 125 2 2 4 1,ri 126 (.y9 2 1 (.t 125) (.t 124)),rl 127 1 ag 126,
 rm 128 7,wa 129 2 2 4 0,ri 130 (.y9 2 1 (.t 129) (.t 128)),rl 131 1 ag 130,wb 132 .gtr 127 131,
 rm 15 132] ah []) (ay (rq [rm 133 15,rm 134 6,wd 135 .eql 134 0,ri 136 (.beq ag (.t 133) (.t 135))] (wt 136 (bx [rm 137 14,
 wd 138 .add 137 1,rm 14 138] ag []) bq)) (rq [rm 139 14,
 wd 140 .neq 139 1] (wt 140 (rq [wf 2 ag] cd) bq))))))))))))) (bx [wd 141 .add 18 1,
 rm 18 141] ag []))))))) (rq [wf 2 ah] cd))
def Ex:eh:=
 rq [wx 1 2 0,wc 2 0] (ay (rq [wa 3 2 1 1 1,rl 4 1 ag 3,wd 5 .gtr 4 0,rm 6 5,
 rg 7 6 ag (.y9 2 1 (.t 1) (ci 1)),wl 8 6 ag 1 ag 7,rg 9 6 ag (.bin .eql (.t 8) (ci 0)),wm 10 6 ag 9,
 rg 11 10 ah (.y9 2 1 (.t 1) (ci 0)),wl 12 10 ah 1 ag 11,rg 13 10 ah (.bin .gtr (.t 12) (ci 0)),
 rg 14 6 ag (.pick (.t 10) (.t 13) (.c (.bool ag))),
 wq 15 6 14] (wt 15 (rq [wc 2 0] cd) bq)) (rq [wc 2 1] cd))
def O0(Cr jy:Nat):eh:=
 rq [wx 2 2 0,wx 3 2 1,wc 4 0] (ay (ay (bx [rl 7 2 ah 2,ri 8 (.call Cr [.t 7]),rl 9 2 ah 3,
 ri 10 (.call Cr [.t 9]),rm 5 8,rm 6 10] ah []) (rq [rm 11 5,rm 12 6,wb 13 .neq 11 12] (wt 13 (rq [rm 14 5,rm 15 6,
 wb 16 .sub 14 15,rm 4 16] cd) bq))) (rq [rl 17 2 ah 2,rl 18 2 ah 3,ri 19 (.call jy [.t 17,.t 18]),ri 20 (.un .neg (.t 19)),
 rm 4 20] cd))
structure Pr(P:Program)where
 mo:P.follows .mixedOrders=ah
 pn:Nat
 Bx:Nat
 xx:Nat
 Gd:Nat
 Mg:Nat
 Ce:Nat
 zf:Nat
 Fa:Nat
 Ec:Nat
 I6:Nat
 Gc:Nat
 Ge:Nat
 v8:Nat
 um:Nat
 qy:Nat
 An:Nat
 Eb:Nat
 Cd:Nat
 F9:Nat
 F8:Nat
 yv:Nat
 Bg:Nat
 je:Nat
 C8:Nat
 Gb:Nat
 Ea:Nat
 om:Nat
 Eg:Nat
 Gh:Nat
 Ef:Nat
 Cs:Nat
 I9:Nat
 Gg:Nat
 Ca:Nat
 uo:Nat
 vp:Nat
 Ee:Nat
 Fu:Nat
 Gf:Nat
 ss:Nat
 lb:Nat
 po:Nat
 Dc:Nat
 Dd:Nat
 zh:Nat
 B9:Nat
 qf:Nat
 qm:Nat
 Dv:Nat
 Du:Nat
 Dt:Nat
 Ds:Nat
 Dr:Nat
 Dq:Nat
 Dp:Nat
 Hp:Nat
 Dn:Nat
 Dm:Nat
 Cv:Nat
 Cu:Nat
 Ct:Nat
 Fc:Nat
 Ch:Nat
 o7:Nat
 zi:Nat
 Da:Nat
 xr:Nat
 re:Nat
 lj:Nat
 xc:Nat
 ni:Nat
 Ah:Nat
 jo:Nat
 ll:Nat
 xi:Nat
 va:Nat
 zu:Nat
 qe:Nat
 s7:Nat
 ph:Nat
 jm:Nat
 xk:Nat
 lp:Nat
 xj:Nat
 gn:Nat
 pk:Nat
 lk:Nat
 ib:Nat
 fg:Nat
 kc:Nat
 j5:Nat
 lz:Nat
 Ao:Nat
 yl:Nat
 uv:Nat
 qo:Nat
 gr:Nat
 og:Nat
 lh:Nat
 Cf:Nat
 xp:Nat
 u5:Nat
 jy:Nat
 s9:Nat
 Fb:Nat
 Cg:Nat
 Cr:Nat
 vo:Nat
 oZ:fu P pn {}=aa (Rh,[.tmp 6],30)
 uU:fu P Bx {}=aa (Ke,[.tmp 2],9)
 oW:fu P xx {}=aa (Re,[.cell 4 2 ah],16)
 oT:fu P Gd {}=aa (G8,[.tmp 2],21)
 EN:fu P Mg {}=aa (Y4 pn,[.tmp 4],58)
 dG:fu P Ce {}=aa (M4 pn Bx,[.tmp 4],43)
 Zz:fu P zf {}=aa (Kf,[.tmp 4],38)
 lK:fu P Fa {}=aa (Ph zf,[.tmp 6],33)
 oY:fu P Ec {}=aa (Rg,[.tmp 2],47)
 uV:fu P I6 {x7:=[(8,[61])]}=aa (Tf pn,[.tmp 4],175)
 oS:fu P Gc {}=aa (Rc xx Fa,[.tmp 4],112)
 oX:fu P Ge {}=aa (Rf Gd Ec Mg Ce I6 Gc,[.tmp 2],176)
 lH:fu P v8 {}=aa (Kc,[.tmp 2],9)
 uT:fu P um {}=aa (Kd,[.tmp 2],47)
 X0:fu P qy {}=aa (Er um v8,[.tmp 2],47)
 Yi:fu P An {}=aa (Jb v8 um,[.tmp 2],26)
 oO:fu P Eb {}=aa (Ra,[.tmp 0],2)
 dF:fu P Cd {}=aa (Hy Eb,[.tmp 2],15)
 lJ:fu P F9 {}=aa (Pg,[.tmp 2],7)
 lI:fu P F8 {}=aa (Pf,[.tmp 2],7)
 oQ:fu P yv {}=aa (Rb Cd F9 An Ge,[.tmp 2],51)
 gR:fu P Bg {}=aa (Nw yv qy,[.tmp 4,.tmp 5],69)
 oM:fu P je {}=aa (R9,[.tmp 4],22)
 zW:fu P C8 {}=aa (V9,[.tmp 4],18)
 oJ:fu P Gb {}=aa (R6 C8,[.tmp 4],21)
 oL:fu P Ea {}=aa (R8 C8 Gb,[.tmp 2],48)
 oK:fu P om {}=aa (R7 qy um yv F8 je Bg Ea,[.tmp 2],98)
 pH:fu P Eg {}=aa (Ro,[.tmp 2],40)
 pI:fu P Gh {}=aa (Rp,[.tmp 2],25)
 pF:fu P Ef {}=aa (Rm Eg,[.cell 2 3 ah],39)
 lO:fu P Cs {}=aa (Pl,[.tmp 2],26)
 uZ:fu P I9 {}=aa (Oz,[.tmp 4],26)
 pG:fu P Gg {}=aa (Rn Gh,[.tmp 4],57)
 pC:fu P Ca {}=aa (Rk Cs uo,[.cell 2 2 ah],30)
 uY:fu P uo {}=aa (Ti Ef,[.cell 2 5 ah],11)
 pD:fu P vp {}=aa (Mp Gg,[.tmp 2],54)
 pE:fu P Ee {}=aa (Rl uo I9,[.tmp 4],188)
 uX:fu P Fu {}=aa (Th,[.cell 0 2 ah],28)
 Rz:fu P Gf {}=aa (E0 vp,[.tmp 2],20)
 dL:fu P ss {}=aa (Hz,[.tmp 2],9)
 dM:fu P lb {}=aa (F0,[.tmp 2],40)
 Up:fu P po {}=aa (Cz lb ss,[.tmp 2],41)
 iB:fu P Dc {}=aa (O6 Dd po,[.tmp 4],13)
 aF:fu P zh {}=aa (Kl Dc B9,[.tmp 4,.tmp 5],18)
 aE:fu P B9 {}=aa (Kk,[.tmp 4,.tmp 5],63)
 Vq:fu P qf {}=aa (Dj qm,[.tmp 2],11)
 iC:fu P qm {}=aa (O7 Dv Du Dt Ds Dr Dq Dp Hp Dn Dm Cv Cu Ct Fc,[.cell 0 56 ah],16)
 dN:fu P Ch {}=aa (M9 qf qm,[.tmp 2,.tmp 3],11)
 iD:fu P Dd {}=aa (O8 qf qm o7 zi Da,[.tmp 2],38)
 aG:fu P zi {}=aa (Km xr,[.tmp 2],6)
 Uo:fu P xr {}=aa (Gq ss lb,[.tmp 2],26)
 Ix:fu P o7 {}=aa (Iu re,[.tmp 4],9)
 Kw:fu P re {}=aa (Ka,[.tmp 4],19)
 Ob:fu P lj {}=aa (Nq xc,[.tmp 4],9)
 Qd:fu P xc {}=aa (Qc,[.tmp 4],19)
 Rx:fu P ni {}=aa (R3 Ah,[.tmp 4],9)
 Ul:fu P Ah {}=aa (Gm,[.tmp 4],19)
 Lk:fu P jo {}=aa (Li,[.tmp 4],19)
 gT:fu P ll {}=aa (Nx po lb zh Ch xi lj va,[.tmp 2],91)
 aA:fu P xi {}=aa (Kg zu,[.tmp 3],8)
 X1:fu P zu {}=aa (Ii,[.tmp 4],25)
 Tv:fu P qe {}=aa (Fj ni s7 lj,[.tmp 3],16)
 Ry:fu P s7 {}=aa (Dz ni,[.tmp 3],8)
 Kx:fu P ph {}=aa (Kb,[.tmp 4],19)
 gZ:fu P jm {}=aa (O3 xk ph,[.tmp 4],9)
 gY:fu P lp {}=aa (O2 xj jo,[.tmp 4],9)
 aC:fu P xk {}=aa (Ki,[.tmp 3],8)
 aB:fu P xj {}=aa (Kh,[.tmp 3],8)
 G4:fu P gn {}=aa (Ns,[.tmp 2],8)
 Ls:fu P pk {}=aa (Uj,[.tmp 2],8)
 Bf:fu P lk {}=aa (Nr,[.tmp 2],8)
 Bw:fu P ib {}=aa (Oy,[.tmp 2],8)
 N8:fu P fg {}=aa (Ax,[.tmp 4],22)
 N9:fu P kc {}=aa (Ay,[.tmp 4],22)
 lP:fu P j5 {}=aa (Pn pk lk kc ib,[.cell 2 5 ah],22)
 dK:fu P lz {}=aa (M8 gn fg j5,[.cell 2 2 ah],10)
 dI:fu P Ao {}=aa (M6 yl,[.tmp 2],6)
 Sw:fu P uv {}=aa (Ey,[.tmp 2],19)
 Px:fu P qo {}=aa (Cn,[.tmp 2],38)
 Vo:fu P yl {}=aa (Di,[.tmp 2],17)
 Vp:fu P gr {}=aa (Hg,[.cell 4 2 ah],16)
 Jl:fu P og {}=aa (Ja lh,[.tmp 4],9)
 Ll:fu P lh {}=aa (Lj,[.tmp 4],19)
 dH:fu P Cf {}=aa (M5 xp u5,[.tmp 2],69)
 Um:fu P xp {}=aa (Gn gr jy,[.tmp 4],33)
 Qe:fu P u5 {}=aa (D4 s9,[.tmp 4],32)
 P3:fu P s9 {}=aa (Bt gr jy,[.tmp 4],17)
 gV:fu P jy {}=aa (Nz,[.tmp 4],16)
 lL:fu P Fb {}=aa (Pj gr jy,[.tmp 6],18)
 dJ:fu P Cg {}=aa (M7 jy,[.tmp 2],142)
 lN:fu P Cr {}=aa (Ex,[.tmp 2],16)
 gW:fu P vo {}=aa (O0 Cr jy,[.tmp 4],21)
def Hd(qe jo:Nat):eh:=
 rq [wx 1 2 0,wo 2] (rq [ri 3 (.alloc [.cj])] (dh 0 (iq (dh 1 (rq [rf 5 1 1,rl 6 1 ag 5,
 ri 7 (.Oj qe [.t 3]),ri 8 (.call jo [.t 6,.t 7]),rm 4 8] (ay (rq [rm 9 4,
 wd 10 .lss 9 0] (wt 10 (rq [rl 11 1 ag 3,rm 2 11] cd) bq)) (bx [rl 12 1 ag 3,rf 13 1 1,rl 14 1 ag 13,rm 15 4,
 wi 16 5 14 15,rf 17 0 16,rl 18 1 ag 17,ri 19 (.xz ah 1 1 [.str ⟨#[]⟩] [(0,1,.t 18)]),ri 20 (.app 1 16 (.t 12) (.t 19)),
 ws 1 3 20] ah [])))))))
structure Pr2(P:Program)extends Pr P where
 Vk:fu P va {imm:=[19]}=aa (Hd qe jo,[.tmp 2],21)
def Ny:eh:=
 rq [ri 2 (.alloc [.P0,.P0])] (rq [ri 6 (.Ks),ri 7 (.Ks),ri 8 (.build [.P0,.P0] [(0,1,.t 6),(1,1,.t 7)]),ri 3 (.alloc [.P0,.P0]),
 ws 2 3 8] (ay (rq [rm 9 0,wn 10 9,
 wc 11 0] (dh 0 (iq (rq [wb 12 .lss 11 10] (ay (wt 12 bq (ij 0)) (ay (dh 1 (rq [wi 13 4 9 11,
 rl 14 4 ah 13,ri 5 (.alloc [.int aj 0,.int aj 0,.int aj 0,.int aj 0]),ws 4 5 14] (rq [rf 15 0 3,rl 16 1 ag 15,
 wa 17 2 2 5 0,rl 18 2 ah 17,wa 20 2 2 5 1,rl 21 2 ah 20,ri 22 (.xz ag 1 2 [.int aj 0,.int aj 0] [(0,2,.t 21)]),
 rn (.dP (.row [.int,.int]) 2 16 (.t 16) (.t 18) (.t 22) [23,19,24,25])] (bx [rf 26 1 3,rl 27 1 ag 26,wa 28 2 2 5 1,rl 29 2 ah 28,
 wa 31 2 2 5 0,rl 32 2 ah 31,ri 33 (.xz ag 1 2 [.int aj 0,.int aj 0] [(0,2,.t 32)]),
 rn (.dP (.row [.int,.int]) 2 16 (.t 27) (.t 29) (.t 33) [34,30,35,36])] ag [])))) (bx [wd 37 .add 11 1,
 rm 11 37] ag []))))))) (ay (ay (.freeze) (bx [rl 38 2 ah 3,ws 2 2 38] ag [])) cd)))
def Hf(Fb:Nat):eh:=
 rq [wx 2 2 0,wx 3 2 1,wf 4 ag] (ay (bx [rf 5 0 2,rl 6 1 ag 5,rl 7 2 ah 3,
 ri 8 (.lookup (.row [.int,.int]) .cj (.t 6) (.t 7) ag),wn 9 8,wd 10 .neq 9 1,rm 11 10,rg 12 11 ag (.Ai 1 (.t 2)),
 wl 13 11 ag 1 ag 12,wl 14 11 ag 2 ah 3,rg 15 11 ag (.lookup (.row [.int,.int]) .cj (.t 13) (.t 14) ag),
 rg 16 11 ag (.xn 2 (.t 15) (ci 0)),wl 17 11 ag 2 ah 16,wl 18 11 ag 2 ah 3,rg 19 11 ag (.Ai 0 (.t 2)),
 wl 20 11 ag 1 ag 19,wl 21 11 ag 2 ah 3,rg 22 11 ag (.lookup (.row [.int,.int]) .cj (.t 20) (.t 21) ag),
 rg 23 11 ag (.xn 2 (.t 22) (ci 0)),wl 24 11 ag 2 ah 23,rg 25 11 ag (.call Fb [.t 17,.t 18,.t 24]),
 rg 26 11 ag (.bin .neq (.t 25) (ci 0)),wq 27 11 26,rm 4 27] ah []) cd)
def Jd(gr tv vo:Nat):eh:=
 rq [wx 3 2 0,wx 4 2 1,wx 5 2 2,ri 6 (.alloc [.int aj 0,.int aj 0])] (rq [rf 15 0 3,rl 16 1 ag 15,rl 17 2 ah 5,
 ri 18 (.lookup (.row [.int,.int]) .cj (.t 16) (.t 17) ag),rm 7 18] (rq [rm 19 7,ri 20 (.xn 2 (.t 19) (ci 0)),rl 21 2 ah 20,
 ri 8 (.alloc [.int aj 0,.int aj 0]),ws 2 8 21] (rq [rl 22 2 ah 4,rl 23 2 ah 5,ri 24 (.call gr [.t 22,.t 23]),
 ri 9 (.alloc [.int aj 0,.int aj 0]),ws 2 9 24] (rq [ri 25 (.Oj tv [.t 5,.t 9]),rm 10 25] (ay (rq [rm 26 7,
 ri 27 (.slice 2 (.t 26) (aa (ci 1)) ae),wn 28 27,
 wc 29 0] (dh 0 (iq (rq [wb 30 .lss 29 28] (ay (wt 30 bq (ij 0)) (ay (dh 1 (rq [wi 31 2 27 29,
 rl 32 2 ah 31,ri 12 (.alloc [.int aj 0,.int aj 0]),ws 2 12 32] (ay (bx [rm 33 10,rl 34 2 ah 12,ri 35 (.zq (.t 33) [.t 34]),
 rm 36 10,rl 37 2 ah 8,ri 38 (.zq (.t 36) [.t 37]),rm 13 35,rm 14 38] ah []) (ay (bx [rm 39 13,rm 40 39,wm 41 40 ah 14,
 rg 42 40 ah (.un .not (.t 41)),wp 43 40 42,rm 44 43,wm 45 44 ag 13,wm 46 44 ag 14,
 rg 47 44 ag (.beq ag (.t 45) (.t 46)),wm 48 44 ag 47,wl 49 48 ah 2 ah 12,wl 50 48 ah 2 ah 5,
 rg 51 48 ah (.call gr [.t 49,.t 50]),wl 52 48 ah 2 ah 8,wl 53 48 ah 2 ah 5,
 rg 54 48 ah (.call gr [.t 52,.t 53]),rg 55 48 ah (.call vo [.t 51,.t 54]),rg 56 48 ah (.bin .gtr (.t 55) (ci 0)),
 rg 57 44 ag (.pick (.t 48) (.t 56) (.c (.bool ag))),wq 58 44 57] ah []) (wt 58 (bx [rl 59 2 ah 12,
 ws 2 8 59] ag []) bq))))) (bx [wd 60 .add 29 1,rm 29 60] ag []))))))) (rq [rl 61 2 ah 8,
 ws 2 6 61] cd))))))
def He(gr vo:Nat):eh:=
 rq [wx 3 2 0,wf 4 ag] (ay (bx [rl 5 2 ah 3,rl 6 2 ah 1,ri 7 (.call gr [.t 5,.t 6]),rl 8 2 ah 2,
 ri 9 (.call vo [.t 7,.t 8]),wd 10 .lss 9 0,rm 4 10] ah []) cd)
def Ij(ib xq nj r8 jk vl:Nat):eh:=
 rq [wx 2 2 0,wo 4] (rq [rm 8 1,ri 9 (.Aq ib [.t 8]),ri 10 (.Oj xq [.t 2]),
 ri 11 (.Aq nj [.t 9,.t 10]),rm 1 11] (ay (ay (.freeze) (bx [rm 12 1,rm 5 12] ag [])) (ay (rq [rm 13 1,
 wn 14 13,
 wc 15 0] (dh 0 (iq (rq [wb 16 .lss 15 14] (ay (wt 16 bq (ij 0)) (ay (dh 1 (rq [rm 17 15,
 rm 6 17] (ay (bx [rm 18 1,rm 19 6,ri 20 (.slice 2 (.t 18) (aa (.t 19)) ae),rm 21 1,rm 22 6,ri 23 (.slice 2 (.t 21) ae (aa (.t 22))),
 ri 24 (.xz ah 2 1 [.cj] [(0,1,.t 20),(1,1,.t 23)]),ri 25 (.call r8 [.t 24]),rm 7 25] ah []) (rq [rm 26 7,rm 27 5,
 ri 28 (.call jk [.t 26,.t 27,.c (.qb vl [])]),wd 29 .lss 28 0] (wt 29 (bx [rm 30 7,
 rm 5 30] ag []) bq))))) (bx [wd 31 .add 15 1,rm 15 31] ag []))))))) (rq [rm 32 5,ri 33 (.call ib [.t 32]),
 rm 4 33] cd))))
def Gp(yk:Nat):eh:=
 rq [wx 2 2 0,wf 3 ag] (rq [rl 4 2 ah 1,rl 5 2 ah 2,ri 6 (.call yk [.t 4,.t 5]),ri 7 (.un .not (.t 6)),
 rm 3 7] cd)
def yx(lh:Nat):eh:=
 rq [wo 4] (rq [rm 8 0,rm 9 1,ri 10 (.call lh [.t 8,.t 9]),rm 5 10] (ay (rq [rm 11 5,
 wd 12 .eql 11 (-1)] (wt 12 (rq [rm 13 0,rm 4 13] cd) bq)) (ay (rq [rm 14 5,wd 15 .add 14 1,
 rm 6 15] (dh 0 (iq (ay (rq [rm 16 6,rm 17 0,wn 18 17,
 wb 19 .lss 16 18] (wt 19 bq (ij 0))) (ay (dh 1 (rq [rm 22 0,rm 23 6,wi 24 2 22 23,rl 25 2 ah 24,
 ri 7 (.alloc [.int aj 0,.int aj 0]),ws 2 7 25] (rq [rm 26 1,rl 27 2 ah 7,ri 28 (.zq (.t 26) [.t 27]),
 ri 29 (.un .not (.t 28))] (wt 29 (rq [rm 30 0,rm 31 5,rl 32 2 ah 7,wi 33 2 30 31,ws 2 33 32] (bx [rm 34 5,
 wd 35 .add 34 1,rm 5 35] ag [])) bq)))) (bx [rm 20 6,wd 21 .add 20 1,rm 6 21] ag [])))))) (rq [rm 36 0,rm 37 5,
 ri 38 (.Ot 2 (.t 36) (aa (.t 37)) ae ae),rn (.clr [.int aj 0,.int aj 0] (.t 38))] (rq [rm 39 0,rm 40 5,ri 41 (.P9 2 (.t 39) (.t 40)),
 rm 4 41] cd)))))
def Cm:eh:=
 rq [wo 4] (ay (rq [rm 5 1,wd 6 .lss 5 0] (wt 6 (bx [ri 7 (.bad),rn (.bad)] ag []) bq)) (ay (rq [rm 8 1,rm 9 0,
 ri 10 (.vQ (.t 9)),rm 11 0,wn 12 11,wb 13 .sub 10 12,wb 14 .sub 8 13,rm 1 14] (rq [rm 15 1,
 wd 16 .gtr 15 0] (wt 16 (bx [rm 17 0,rm 18 0,ri 19 (.vQ (.t 18)),ri 20 (.slice 2 (.t 17) ae (aa (.t 19))),rm 21 1,
 ri 22 (.iG 2 16 [.int aj 0,.int aj 0] (.t 20) (.t 21)),rm 23 0,wn 24 23,ri 25 (.P9 2 (.t 22) (.t 24)),
 rm 0 25] ag []) bq))) (rq [rm 26 0,rm 4 26] cd)))
def Bc(sq:Nat):eh:=
 rq [wo 2] (rq [wc 3 0] (ay (rq [rm 9 0,wn 10 9,
 wc 11 0] (dh 0 (iq (rq [wb 12 .lss 11 10] (ay (wt 12 bq (ij 0)) (ay (dh 1 (rq [wi 13 1 9 11,
 rl 14 1 ag 13,rm 5 14] (rq [rm 15 3,rm 16 5,wn 17 16,wb 18 .add 15 17,rm 3 18] (rq [rm 19 3,
 wd 20 .lss 19 0] (wt 20 (bx [ri 21 (.bad),rn (.bad)] ag []) bq))))) (bx [wd 22 .add 11 1,
 rm 11 22] ag []))))))) (rq [rm 23 3,ri 24 (.Aq sq [.c .cj,.t 23]),rm 6 24] (ay (rq [rm 25 0,wn 26 25,
 wc 27 0] (dh 2 (iq (rq [wb 28 .lss 27 26] (ay (wt 28 bq (ij 2)) (ay (dh 3 (rq [wi 29 1 25 27,
 rl 30 1 ag 29,rm 8 30] (bx [rm 31 6,rm 32 8,ri 33 (.app 2 16 (.t 31) (.t 32)),rm 6 33] ag []))) (bx [wd 34 .add 27 1,
 rm 27 34] ag []))))))) (rq [rm 35 6,rm 2 35] cd)))))
def Fi(zw:Nat):eh:=
 rq [wc 4 0] (ay (rq [rm 9 0,wn 10 9,
 wc 11 0] (dh 0 (iq (rq [wb 12 .lss 11 10] (ay (wt 12 bq (ij 0)) (ay (dh 1 (rq [rm 13 11,
 wi 14 1 9 11,rl 15 1 ag 14,rm 5 13,rm 6 15] (ay (rq [rm 16 5,rm 17 1,wn 18 17,
 wb 19 .geq 16 18] (wt 19 (rq [wc 4 1] cd) bq)) (rq [rm 20 1,rm 21 5,wi 22 1 20 21,rl 23 1 ag 22,
 rm 7 23] (rq [rm 24 6,rm 25 7,ri 26 (.call zw [.t 24,.t 25]),rm 8 26] (rq [rm 27 8,wd 28 .neq 27 0] (wt 28 (rq [rm 29 8,
 rm 4 29] cd) bq))))))) (bx [wd 30 .add 11 1,rm 11 30] ag []))))))) (ay (rq [rm 31 0,wn 32 31,rm 33 1,
 wn 34 33,wb 35 .lss 32 34] (wt 35 (rq [wc 4 (-1)] cd) bq)) (rq [wc 4 0] cd)))
def yd:eh:=
 rq [wc 6 0] (ay (rq [rm 11 0,wn 12 11,
 wc 13 0] (dh 0 (iq (rq [wb 14 .lss 13 12] (ay (wt 14 bq (ij 0)) (ay (dh 1 (rq [rm 15 13,
 wi 16 2 11 13,rl 17 2 ah 16,ri 8 (.alloc [.int aj 0,.int aj 0]),rm 7 15,ws 2 8 17] (ay (rq [rm 18 7,rm 19 1,
 wn 20 19,wb 21 .geq 18 20] (wt 21 (rq [wc 6 1] cd) bq)) (rq [rm 22 1,rm 23 7,
 wi 24 2 22 23,rl 25 2 ah 24,ri 9 (.alloc [.int aj 0,.int aj 0]),ws 2 9 25] (rq [rm 26 2,rl 27 2 ah 8,rl 28 2 ah 9,
 ri 29 (.zq (.t 26) [.t 27,.t 28]),rm 10 29] (rq [rm 30 10,wd 31 .neq 30 0] (wt 31 (rq [rm 32 10,
 rm 6 32] cd) bq))))))) (bx [wd 33 .add 13 1,rm 13 33] ag []))))))) (ay (rq [rm 34 0,wn 35 34,rm 36 1,
 wn 37 36,wb 38 .lss 35 37] (wt 38 (rq [wc 6 (-1)] cd) bq)) (rq [wc 6 0] cd)))
def Ri(wz:Nat):eh:=
 rq [wx 2 2 0,wx 3 2 1,wc 4 0] (ay (bx [ri 5 (.vY 2 1 (.t 2)),ri 6 (.vY 2 1 (.t 3)),
 ri 7 (.call wz [.t 5,.t 6]),rm 4 7] ah []) cd)
def Il(zm:Nat):eh:=
 rq [wc 4 0] (rq [rm 7 0,ri 8 (.call zm [.t 7]),rm 5 8] (rq [rm 9 1,ri 10 (.call zm [.t 9]),
 rm 6 10] (ay (rq [rm 11 5] (wt 11 (ay (rq [rm 12 6] (wt 12 (rq [wc 4 0] cd) bq)) (rq [wc 4 (-1)] cd)) bq)) (ay (rq [rm 13 6] (wt 13 (rq [wc 4 1] cd) bq)) (ay (rq [rm 14 0,
 rm 15 1,wb 16 .lss 14 15] (wt 16 (rq [wc 4 (-1)] cd) bq)) (ay (rq [rm 17 0,rm 18 1,
 wb 19 .gtr 17 18] (wt 19 (rq [wc 4 1] cd) bq)) (rq [wc 4 0] cd)))))))
def Kn:eh:=
 rq [wf 2 ag] (rq [rm 3 0,rm 4 0,wb 5 .neq 3 4,rm 2 5] cd)
def Ew(ia oh:Nat):eh:=
 rq [wo 2] (rq [rm 3 0,ri 4 (.Aq ia [.t 3,.c (.qb oh [])])] (rq [rm 5 0,rm 2 5] cd))
def Jc(jk vl:Nat):eh:=
 rq [wc 4 0] (rq [rm 5 0,rm 6 1,ri 7 (.call jk [.t 5,.t 6,.c (.qb vl [])]),rm 4 7] cd)
def Ik(ve Ap qa ny:Nat):eh:=
 rq [ri 2 (.alloc [.cj])] (rq [rm 10 0,ri 11 (.call ve [.t 10]),ri 3 (.alloc [.P0,.P0]),ws 2 3 11] (rq [ri 12 (.Ks),
 rm 4 12] (rq [wo 5] (ay bq (ay (rq [rm 13 0,wn 14 13,
 wc 15 0] (dh 0 (iq (rq [wb 16 .lss 15 14] (ay (wt 16 bq (ij 0)) (ay (dh 1 (rq [wi 17 4 13 15,
 rl 18 4 ah 17,ri 7 (.alloc [.int aj 0,.int aj 0,.int aj 0,.int aj 0]),ws 4 7 18] (ay (rq [rm 19 4,rl 20 4 ah 7,
 ri 21 (.lookup (.row [.int,.int,.int,.int]) (.bool ag) (.t 19) (.t 20) ag)] (wt 21 (ij 1) bq)) (rq [wo 8] (ay (rq [rl 22 4 ah 7,
 ri 9 (.alloc [.int aj 0,.int aj 0,.int aj 0,.int aj 0]),ws 4 9 22] (dh 2 (iq (ay (rq [rm 23 4,rl 24 4 ah 9,
 ri 25 (.lookup (.row [.int,.int,.int,.int]) (.bool ag) (.t 23) (.t 24) ag),
 ri 26 (.un .not (.t 25))] (wt 26 bq (ij 2))) (ay (dh 3 (rq [rm 36 4,rl 37 4 ah 9,
 rn (.cK (.row [.int,.int,.int,.int]) (.t 36) (.t 37) (.c (.bool ah)))] (bx [rm 38 8,wa 39 2 2 9 0,rl 40 2 ah 39,
 ri 41 (.xz ag 1 2 [.int aj 0,.int aj 0] [(0,2,.t 40)]),ri 42 (.app 2 16 (.t 38) (.t 41)),
 rm 8 42] ag []))) (ay (rq [rl 43 4 ah 9] (bx [ri 9 (.alloc [.int aj 0,.int aj 0,.int aj 0,.int aj 0]),
 ws 4 9 43] ag [])) (bx [wa 27 2 2 9 1,rl 28 2 ah 27,rl 29 2 ah 3,wa 30 2 2 9 0,rl 31 2 ah 30,
 wa 32 2 2 9 1,rl 33 2 ah 32,ri 34 (.call Ap [.t 29,.t 31,.t 33]),
 ri 35 (.build [.int aj 0,.int aj 0,.int aj 0,.int aj 0] [(0,2,.t 28),(2,2,.t 34)]),
 ws 4 9 35] ah []))))))) (ay (.freeze) (bx [rm 44 5,rl 45 2 ah 3,rm 46 8,ri 47 (.call qa [.t 45,.t 46]),
 ri 48 (.xz ag 1 1 [.cj] [(0,1,.t 47)]),ri 49 (.app 1 24 (.t 44) (.t 48)),rm 5 49] ag []))))))) (bx [wd 50 .add 15 1,
 rm 15 50] ag []))))))) (rq [rm 51 5,ri 52 (.Aq ny [.t 51]),ri 53 (.build [.cj] [(0,1,.t 52)]),ws 1 2 53] cd))))))
def yo:eh:=
 rq [wf 4 ag] (ay (rq [rm 6 0,wn 7 6,rm 8 1,wn 9 8,
 wb 10 .neq 7 9] (wt 10 (rq [wf 4 ag] cd) bq)) (ay (rq [rm 11 0,wn 12 11,
 wc 13 0] (dh 0 (iq (rq [wb 14 .lss 13 12] (ay (wt 14 bq (ij 0)) (ay (dh 1 (rq [rm 15 13,
 rm 5 15] (ay (bx [rm 16 0,rm 17 5,wi 18 2 16 17,rl 19 2 ah 18,rm 20 1,rm 21 5,wi 22 2 20 21,rl 23 2 ah 22,
 ri 24 (.eqs [.int,.int] ah (.t 19) (.t 23))] ah []) (wt 24 (rq [wf 4 ag] cd) bq)))) (bx [wd 25 .add 13 1,
 rm 13 25] ag []))))))) (rq [wf 4 ah] cd)))
def nq:eh:=
 rq [wf 6 ag] (ay (rq [rm 10 0,wn 11 10,rm 12 1,wn 13 12,
 wb 14 .neq 11 13] (wt 14 (rq [wf 6 ag] cd) bq)) (ay (rq [rm 15 0,wn 16 15,
 wc 17 0] (dh 0 (iq (rq [wb 18 .lss 17 16] (ay (wt 18 bq (ij 0)) (ay (dh 1 (rq [rm 19 17,
 wi 20 1 15 17,rl 21 1 ag 20,rm 7 19,rm 8 21] (rq [rm 22 1,rm 23 7,wi 24 1 22 23,rl 25 1 ag 24,rm 9 25] (rq [rm 26 2,rm 27 8,
 rm 28 9,ri 29 (.zq (.t 26) [.t 27,.t 28]),
 ri 30 (.un .not (.t 29))] (wt 30 (rq [wf 6 ag] cd) bq))))) (bx [wd 31 .add 17 1,
 rm 17 31] ag []))))))) (rq [wf 6 ah] cd)))
def Pk(uv og Ao qo Cf Cg xf ve qa ny iu j7:Nat):eh:=
 rq [wx 1 1 0,ri 2 (.alloc [.cj]),wc 3 0] (ay (rq [rl 12 1 ah 1,ri 13 (.call uv [.t 12]),
 wd 14 .gtr 13 60,rm 15 14,rg 16 15 ag (.Ai 0 (.t 1)),wl 17 15 ag 1 ag 16,rg 18 15 ag (.len .gd (.t 17)),
 rg 19 15 ag (.bin .gtr (.t 18) (ci 60)),wq 20 15 19] (wt 20 (rq [ri 21 (.build [.cj] []),ws 1 2 21,
 wc 3 170] cd) bq)) (ay (rq [rf 22 0 1,rl 23 1 ag 22,wn 24 23,
 wc 25 0] (dh 0 (iq (rq [wb 26 .lss 25 24] (ay (wt 26 bq (ij 0)) (ay (dh 1 (rq [wi 27 1 23 25,
 rl 28 1 ag 27,rm 5 28] (rq [rm 29 5,wn 30 29,wd 31 .lss 30 3,rm 32 31,wm 33 32 ag 5,
 rg 34 32 ag (.call og [.t 33,.c (.qb Ao [])]),
 wq 35 32 34] (wt 35 (rq [ri 36 (.build [.cj] []),ws 1 2 36,
 wc 3 170] cd) bq)))) (bx [wd 37 .add 25 1,rm 25 37] ag []))))))) (rq [rl 38 1 ah 1,
 ri 39 (.call qo [.t 38]),rm 6 39] (ay (rq [rm 40 6,ri 41 (.call Cf [.t 40]),ri 42 (.un .not (.t 41)),rm 43 42,
 wm 44 43 ag 6,rg 45 43 ag (.call Cg [.t 44]),rg 46 43 ag (.un .not (.t 45)),
 wq 47 43 46] (wt 47 (rq [ri 48 (.build [.cj] []),ws 1 2 48,
 wc 3 170] cd) bq)) (rq [rm 49 6,ri 50 (.call xf [.t 49]),ri 7 (.alloc [.cj]),ws 1 7 50] (rq [rm 51 6,
 ri 52 (.call ve [.t 51]),ri 8 (.alloc [.P0,.P0]),ws 2 8 52] (rq [wo 9] (ay (rq [rf 53 0 1,rl 54 1 ag 53,
 wn 55 54,
 wc 56 0] (dh 2 (iq (rq [wb 57 .lss 56 55] (ay (wt 57 bq (ij 2)) (ay (dh 3 (rq [wi 58 1 54 56,
 rl 59 1 ag 58,rm 11 59] (bx [rm 60 9,rl 61 2 ah 8,rm 62 11,ri 63 (.call qa [.t 61,.t 62]),ri 64 (.xz ag 1 1 [.cj] [(0,1,.t 63)]),
 ri 65 (.app 1 24 (.t 60) (.t 64)),rm 9 65] ag []))) (bx [wd 66 .add 56 1,
 rm 56 66] ag []))))))) (ay (ay (M0 (rq [rm 67 9] (M0 (rq [ri 68 (.Aq ny [.t 67])] (rq [rf 69 0 7] (rq [rl 70 1 ag 69] (rq [ri 71 (.call iu [.t 68,.t 70,.c (.qb j7 [])])] (rq [ri 72 (.un .not (.t 71))] bq))))) (rq [rf 69 0 7] (M0 (rq [ri 68 (.Aq ny [.t 67])] (rq [rl 70 1 ag 69] (rq [ri 71 (.call iu [.t 68,.t 70,.c (.qb j7 [])])] (rq [ri 72 (.un .not (.t 71))] bq)))) (rq [rl 70 1 ag 69] (rq [ri 68 (.Aq ny [.t 67])] (rq [ri 71 (.call iu [.t 68,.t 70,.c (.qb j7 [])])] (rq [ri 72 (.un .not (.t 71))] bq)))))))) (rq [rf 69 0 7] (M0 (rq [rm 67 9] (M0 (rq [ri 68 (.Aq ny [.t 67])] (rq [rl 70 1 ag 69] (rq [ri 71 (.call iu [.t 68,.t 70,.c (.qb j7 [])])] (rq [ri 72 (.un .not (.t 71))] bq)))) (rq [rl 70 1 ag 69] (rq [ri 68 (.Aq ny [.t 67])] (rq [ri 71 (.call iu [.t 68,.t 70,.c (.qb j7 [])])] (rq [ri 72 (.un .not (.t 71))] bq)))))) (rq [rl 70 1 ag 69] (rq [rm 67 9] (rq [ri 68 (.Aq ny [.t 67])] (rq [ri 71 (.call iu [.t 68,.t 70,.c (.qb j7 [])])] (rq [ri 72 (.un .not (.t 71))] bq)))))))) (wt 72 (rq [ri 73 (.build [.cj] []),
 ws 1 2 73,wc 3 170] cd) bq)) (rq [rl 74 1 ah 7,ws 1 2 74,wc 3 0] cd))))))))))
def O1(zg:Nat):eh:=
 rq [wx 1 1 0,wc 2 0] (rq [rl 6 1 ah 1,ri 7 (.call zg [.t 6]),rm 5 7,rx 8 5 0,rx 9 5 1,ri 3 (.alloc [.cj]),
 ws 1 3 8,rm 4 9] (rq [rm 10 4,rm 2 10] cd))
structure Pr3(P:Program)extends Pr2 P where
 ve:Nat
 yk:Nat
 Ap:Nat
 tv:Nat
 qa:Nat
 xq:Nat
 nj:Nat
 r8:Nat
 jk:Nat
 vl:Nat
 sq:Nat
 wz:Nat
 zw:Nat
 zm:Nat
 ny:Nat
 ia:Nat
 oh:Nat
 xf:Nat
 j7:Nat
 iu:Nat
 zg:Nat
 gU:fu P ve {dyn:=[8]}=aa (Ny,[.cell 2 2 ah],39)
 Vn:fu P yk {}=aa (Hf Fb,[.tmp 4],28)
 Yk:fu P Ap {}=aa (Jd gr tv vo,[.cell 6 2 ah],62)
 Vm:fu P tv {}=aa (He gr vo,[.tmp 4],11)
 X2:fu P qa {imm:=[24],ce:=[9,11],dyn:=[2]}=aa (Ij ib xq nj r8 jk vl,[.tmp 4],34)
 Un:fu P xq {}=aa (Gp yk,[.tmp 3],8)
 Ky:fu P nj {kp:=[38],cv:=[41]}=aa (yx lh,[.tmp 4],42)
 Pw:fu P sq {cv:=[25]}=aa (Cm,[.tmp 4],27)
 Oc:fu P r8 {ce:=[24]}=aa (Bc sq,[.tmp 2],36)
 Tu:fu P wz {}=aa (Fi zw,[.tmp 4],36)
 Jm:fu P jk {}=aa (yd,[.tmp 6],39)
 pA:fu P vl {}=aa (Ri wz,[.tmp 4],8)
 X4:fu P zw {}=aa (Il zm,[.tmp 4],20)
 aH:fu P zm {}=aa (Kn,[.tmp 2],6)
 Sv:fu P ny {ce:=[4]}=aa (Ew ia oh,[.tmp 2],6)
 Yj:fu P oh {}=aa (Jc jk vl,[.tmp 4],8)
 X3:fu P xf {ce:=[52],dyn:=[16]}=aa (Ik ve Ap qa ny,[.cell 2 1 ah],54)
 P2:fu P j7 {}=aa (yo,[.tmp 4],26)
 Br:fu P iu {}=aa (nq,[.tmp 6],32)
 lM:fu P zg {ce:=[68],od:=[20]}=aa (Pk uv og Ao qo Cf Cg xf ve qa ny iu j7,[.cell 2 1 ah,.tmp 3],75)
 gX:fu P Da {}=aa (O1 zg,[.tmp 2],11)
def O4(pk lk kc ib:Nat):eh:=
 rq [wx 1 5 0,ri 2 (.alloc [.str ⟨#[]⟩,.int aj 0,.cj,.cj,.cj])] (rq [rf 3 4 1,rl 4 1 ag 3,ri 5 (.ua pk [.t 4]),rf 6 4 1,
 ws 1 6 5] (rq [rf 7 1 1,rf 8 1 7,rl 9 1 ag 8,ri 10 (.ua lk [.t 9]),rf 11 1 1,rf 12 1 11,
 ws 1 12 10] (rq [rf 13 1 1,rf 14 2 13,rf 15 0 14,rl 16 1 ag 15,
 ri 17 (.call kc [.t 16,.c (.qb ib [])]),ri 18 (.build [.cj] [(0,1,.t 17)]),rf 19 1 1,rf 20 2 19,
 ws 1 20 18] (rq [rl 21 5 ah 1,ws 5 2 21] cd))))
def Ak:eh:=
 rq [wo 4] (rq [wo 5] (ay (rq [rm 8 0,wn 9 8,
 wc 10 0] (dh 0 (iq (rq [wb 11 .lss 10 9] (ay (wt 11 bq (ij 0)) (ay (dh 1 (rq [wi 12 5 8 10,
 rl 13 5 ah 12,ri 7 (.alloc [.str ⟨#[]⟩,.int aj 0,.cj,.cj,.cj]),ws 5 7 13] (bx [rm 14 5,rm 15 1,rl 16 5 ah 7,
 ri 17 (.Q3 (.t 15) [.t 16]),ri 18 (.dT 1 5 [.str ⟨#[]⟩,.int aj 0,.cj,.cj,.cj] [(0,5,.t 17)]),ri 19 (.app 5 96 (.t 14) (.t 18)),
 rm 5 19] ag []))) (bx [wd 20 .add 10 1,rm 10 20] ag []))))))) (rq [rm 21 5,rm 4 21] cd)))
def Kj(gn fg j5:Nat):eh:=
 rq [wx 1 2 0,
 ri 2 (.alloc [.cj,.cj])] (ay (M0 (rq [rf 3 0 1] (M0 (rq [rl 4 1 ag 3] (M0 (rq [ri 5 (.ua gn [.t 4])] (rq [rf 6 1 1] (rq [rl 7 1 ag 6] (rq [ri 8 (.ua fg [.t 7,.c (.qb j5 [])])] (rq [ri 9 (.build [.cj,.cj] [(0,1,.t 5),(1,1,.t 8)])] (rq [ws 2 2 9] bq)))))) (rq [rf 6 1 1] (M0 (rq [ri 5 (.ua gn [.t 4])] (rq [rl 7 1 ag 6] (rq [ri 8 (.ua fg [.t 7,.c (.qb j5 [])])] (rq [ri 9 (.build [.cj,.cj] [(0,1,.t 5),(1,1,.t 8)])] (rq [ws 2 2 9] bq))))) (rq [rl 7 1 ag 6] (rq [ri 5 (.ua gn [.t 4])] (rq [ri 8 (.ua fg [.t 7,.c (.qb j5 [])])] (rq [ri 9 (.build [.cj,.cj] [(0,1,.t 5),(1,1,.t 8)])] (rq [ws 2 2 9] bq))))))))) (rq [rf 6 1 1] (M0 (rq [rl 4 1 ag 3] (M0 (rq [ri 5 (.ua gn [.t 4])] (rq [rl 7 1 ag 6] (rq [ri 8 (.ua fg [.t 7,.c (.qb j5 [])])] (rq [ri 9 (.build [.cj,.cj] [(0,1,.t 5),(1,1,.t 8)])] (rq [ws 2 2 9] bq))))) (rq [rl 7 1 ag 6] (rq [ri 5 (.ua gn [.t 4])] (rq [ri 8 (.ua fg [.t 7,.c (.qb j5 [])])] (rq [ri 9 (.build [.cj,.cj] [(0,1,.t 5),(1,1,.t 8)])] (rq [ws 2 2 9] bq))))))) (rq [rl 7 1 ag 6] (rq [rl 4 1 ag 3] (rq [ri 5 (.ua gn [.t 4])] (rq [ri 8 (.ua fg [.t 7,.c (.qb j5 [])])] (rq [ri 9 (.build [.cj,.cj] [(0,1,.t 5),(1,1,.t 8)])] (rq [ws 2 2 9] bq)))))))))) (rq [rf 6 1 1] (M0 (rq [rf 3 0 1] (M0 (rq [rl 4 1 ag 3] (M0 (rq [ri 5 (.ua gn [.t 4])] (rq [rl 7 1 ag 6] (rq [ri 8 (.ua fg [.t 7,.c (.qb j5 [])])] (rq [ri 9 (.build [.cj,.cj] [(0,1,.t 5),(1,1,.t 8)])] (rq [ws 2 2 9] bq))))) (rq [rl 7 1 ag 6] (rq [ri 5 (.ua gn [.t 4])] (rq [ri 8 (.ua fg [.t 7,.c (.qb j5 [])])] (rq [ri 9 (.build [.cj,.cj] [(0,1,.t 5),(1,1,.t 8)])] (rq [ws 2 2 9] bq))))))) (rq [rl 7 1 ag 6] (rq [rl 4 1 ag 3] (rq [ri 5 (.ua gn [.t 4])] (rq [ri 8 (.ua fg [.t 7,.c (.qb j5 [])])] (rq [ri 9 (.build [.cj,.cj] [(0,1,.t 5),(1,1,.t 8)])] (rq [ws 2 2 9] bq)))))))) (rq [rl 7 1 ag 6] (rq [rf 3 0 1] (rq [rl 4 1 ag 3] (rq [ri 5 (.ua gn [.t 4])] (rq [ri 8 (.ua fg [.t 7,.c (.qb j5 [])])] (rq [ri 9 (.build [.cj,.cj] [(0,1,.t 5),(1,1,.t 8)])] (rq [ws 2 2 9] bq)))))))))) cd)
def O5(ti th tg tf te p8 o9:Nat):eh:=
 rq [ri 0 (.alloc [.y0,.y0,.y0,.y0,.y0,.y0,.y0])] (rq [ri 1 (.build [.y0,.y0,.y0,.y0,.y0,.y0,.y0] [(0,1,.c (.qb ti [])),(1,1,.c (.qb th [])),(2,1,.c (.qb tg [])),(3,1,.c (.qb tf [])),(4,1,.c (.qb te [])),(5,1,.c (.qb p8 [])),(6,1,.c (.qb o9 []))]),
 ws 7 0 1] cd)
def ui(jm:Nat):eh:=
 rq [wx 3 9 1,wc 4 0] (ay (bx [rm 6 0,rk 7 6,rl 8 2 ah 7,rf 9 1 3,rl 10 1 ag 9,ri 11 (.call jm [.t 8,.t 10]),
 rm 5 11] ah []) (ay (rq [rm 12 5,wd 13 .lss 12 0] (wt 13 (rq [wc 4 4] cd) bq)) (ay (bx [rm 14 0,rk 15 14,
 rf 16 0 15,rl 17 1 ag 16,rm 18 5,rf 19 3 3,rl 20 1 ag 19,wi 21 2 17 18,rf 22 1 21,
 ws 1 22 20] ah []) (rq [wc 4 0] cd))))
def qk(jm:Nat):eh:=
 rq [wx 3 9 1,wc 4 0] (ay (ay (bx [rm 5 0,rk 6 5,rl 7 2 ah 6,rf 8 1 3,rl 9 1 ag 8,ri 10 (.call jm [.t 7,.t 9]),
 wd 11 .geq 10 0] ah []) (wt 11 (rq [wc 4 7] cd) bq)) (ay (bx [rm 12 0,rm 13 0,rk 14 13,rf 15 0 14,rl 16 1 ag 15,
 rf 17 1 3,rl 18 1 ag 17,rf 19 3 3,rl 20 1 ag 19,ri 21 (.build [.str ⟨#[]⟩,.int aj 0] [(0,1,.t 18),(1,1,.t 20)]),
 ri 22 (.xz ah 1 2 [.str ⟨#[]⟩,.int aj 0] [(0,2,.t 21)]),ri 23 (.app 2 24 (.t 16) (.t 22)),rk 24 12,rf 25 0 24,
 ws 1 25 23] ah []) (rq [wc 4 0] cd)))
def uh(jm oz:Nat):eh:=
 rq [wx 3 9 1,wc 4 0] (ay (bx [rm 6 0,rk 7 6,rl 8 2 ah 7,rf 9 1 3,rl 10 1 ag 9,ri 11 (.call jm [.t 8,.t 10]),
 rm 5 11] ah []) (ay (rq [rm 12 5,wd 13 .lss 12 0] (wt 13 (rq [wc 4 4] cd) bq)) (rq [rm 14 0,rm 15 0,rk 16 15,rf 17 0 16,
 rl 18 1 ag 17,rm 19 5,rm 20 5,wd 21 .add 20 1,ri 22 (.Aq oz [.t 18,.t 19,.t 21]),rk 23 14,rf 24 0 23,
 ws 1 24 22] (rq [wc 4 0] cd))))
def td(lp j5:Nat):eh:=
 rq [wx 3 9 1,wc 4 0] (ay (ay (bx [rm 6 0,rk 7 6,rl 8 2 ah 7,rf 9 4 3,rf 10 0 9,rl 11 1 ag 10,
 ri 12 (.call lp [.t 8,.t 11]),rm 5 12] ah []) (rq [rm 13 5,wd 14 .geq 13 0] (wt 14 (bx [rm 15 0,rk 16 15,rf 17 1 16,
 rl 18 1 ag 17,rm 19 5,rf 20 4 3,rl 21 5 ah 20,ri 22 (.call j5 [.t 21]),wi 23 5 18 19,
 ws 5 23 22] ah []) (bx [rm 24 0,rm 25 0,rk 26 25,rf 27 1 26,rl 28 1 ag 27,rf 29 4 3,rl 30 5 ah 29,ri 31 (.call j5 [.t 30]),
 ri 32 (.xz ah 1 5 [.str ⟨#[]⟩,.int aj 0,.cj,.cj,.cj] [(0,5,.t 31)]),ri 33 (.app 5 96 (.t 28) (.t 32)),rk 34 24,rf 35 1 34,
 ws 1 35 33] ah [])))) (rq [wc 4 0] cd))
def ug(lp pq:Nat):eh:=
 rq [wx 3 9 1,wc 4 0] (ay (bx [rm 6 0,rk 7 6,rl 8 2 ah 7,rf 9 1 3,rl 10 1 ag 9,ri 11 (.call lp [.t 8,.t 10]),
 rm 5 11] ah []) (ay (rq [rm 12 5,wd 13 .lss 12 0] (wt 13 (rq [wc 4 4] cd) bq)) (rq [rm 14 0,rm 15 0,rk 16 15,rf 17 1 16,
 rl 18 1 ag 17,rm 19 5,rm 20 5,wd 21 .add 20 1,ri 22 (.Aq pq [.t 18,.t 19,.t 21]),rk 23 14,rf 24 1 23,
 ws 1 24 22] (rq [wc 4 0] cd))))
def uz(lp:Nat):eh:=
 rq [wx 3 9 1,wc 4 0] (ay (bx [rm 10 0,rk 11 10,rl 12 2 ah 11,rf 13 1 3,rl 14 1 ag 13,ri 15 (.call lp [.t 12,.t 14]),
 rm 5 15] ah []) (ay (dh 0 (rq [rm 17 5,wd 18 .lss 17 0,rm 16 18] (wt 16 (rq [wc 4 4] cd) (ay (bx [rm 20 0,
 rk 21 20,rl 22 2 ah 21,rf 23 2 3,rl 24 1 ag 23,ri 25 (.call lp [.t 22,.t 24]),wd 26 .geq 25 0,
 rm 19 26] ah []) (wt 19 (rq [wc 4 7] cd) bq))))) (ay (bx [rm 27 0,rk 28 27,rf 29 1 28,rl 30 1 ag 29,rm 31 5,rf 32 2 3,
 rl 33 1 ag 32,wi 34 5 30 31,rf 35 0 34,ws 1 35 33] ah []) (ay (rq [rm 36 0,rk 37 36,rf 38 1 37,rl 39 1 ag 38,
 wn 40 39,
 wc 41 0] (dh 1 (iq (rq [wb 42 .lss 41 40] (ay (wt 42 bq (ij 1)) (ay (dh 2 (rq [wi 43 5 39 41,
 rl 44 5 ah 43,ri 7 (.alloc [.str ⟨#[]⟩,.int aj 0,.cj,.cj,.cj]),ws 5 7 44] (rq [rf 45 4 7,rl 46 1 ag 45,wn 47 46,
 wc 48 0] (dh 3 (iq (rq [wb 49 .lss 48 47] (ay (wt 49 bq (ij 3)) (ay (dh 4 (rq [rm 50 48,
 wi 51 1 46 48,rl 52 1 ag 51,rm 8 50,rm 9 52] (rq [rm 53 9,rf 54 1 3,rl 55 1 ag 54,
 wb 56 .eql 53 55] (wt 56 (bx [rf 57 4 7,rl 58 1 ag 57,rm 59 8,rf 60 2 3,rl 61 1 ag 60,wi 62 1 58 59,
 ws 1 62 61] ag []) bq)))) (bx [wd 63 .add 48 1,rm 48 63] ag []))))))))) (bx [wd 64 .add 41 1,
 rm 41 64] ag []))))))) (rq [wc 4 0] cd)))))
def sn(jm:Nat):eh:=
 rq [wx 3 9 1,wc 4 0] (ay (bx [rm 9 0,rk 10 9,rl 11 2 ah 10,rf 12 1 3,rl 13 1 ag 12,ri 14 (.call jm [.t 11,.t 13]),
 rm 5 14] ah []) (ay (dh 0 (rq [rm 16 5,wd 17 .lss 16 0,rm 15 17] (wt 15 (rq [wc 4 4] cd) (ay (bx [rm 19 0,
 rk 20 19,rl 21 2 ah 20,rf 22 2 3,rl 23 1 ag 22,ri 24 (.call jm [.t 21,.t 23]),wd 25 .geq 24 0,
 rm 18 25] ah []) (wt 18 (rq [wc 4 7] cd) bq))))) (ay (bx [rm 26 0,rk 27 26,rf 28 0 27,rl 29 1 ag 28,rm 30 5,rf 31 2 3,
 rl 32 1 ag 31,wi 33 2 29 30,rf 34 0 33,ws 1 34 32] ah []) (ay (rq [rm 35 0,rk 36 35,rf 37 1 36,rl 38 1 ag 37,
 wn 39 38,
 wc 40 0] (dh 1 (iq (rq [wb 41 .lss 40 39] (ay (wt 41 bq (ij 1)) (ay (dh 2 (rq [wi 42 5 38 40,
 rl 43 5 ah 42,ri 7 (.alloc [.str ⟨#[]⟩,.int aj 0,.cj,.cj,.cj]),ws 5 7 43] (rq [rf 44 1 7,rf 45 1 44,rl 46 1 ag 45,
 wn 47 46,
 wc 48 0] (dh 3 (iq (rq [wb 49 .lss 48 47] (ay (wt 49 bq (ij 3)) (ay (dh 4 (rq [rm 50 48,
 rm 8 50] (ay (bx [rf 51 1 7,rf 52 1 51,rl 53 1 ag 52,rm 54 8,wi 55 3 53 54,rf 56 0 55,rl 57 1 ag 56,rf 58 1 3,rl 59 1 ag 58,
 wb 60 .eql 57 59] ah []) (wt 60 (bx [rf 61 1 7,rf 62 1 61,rl 63 1 ag 62,rm 64 8,rf 65 2 3,rl 66 1 ag 65,
 wi 67 3 63 64,rf 68 0 67,ws 1 68 66] ag []) bq)))) (bx [wd 69 .add 48 1,
 rm 48 69] ag []))))))))) (bx [wd 70 .add 40 1,rm 40 70] ag []))))))) (rq [wc 4 0] cd)))))
def N3:eh:=
 rq [wo 6] (rq [rm 8 0,rm 9 1,rm 10 2,rm 11 0,wn 12 11,
 ri 13 (.Ot 2 (.t 8) (aa (.t 9)) (aa (.t 10)) (aa (.t 12)))] (ay (rq [rm 14 1,rm 15 2,wb 16 .eql 14 15] (wt 16 (rq [rm 17 0,
 rm 6 17] cd) bq)) (rq [rm 18 0,wn 19 18,rm 7 19] (ay (bx [rm 20 0,rm 21 1,ri 22 (.Ot 2 (.t 20) ae (aa (.t 21)) ae),rm 23 0,
 rm 24 2,ri 25 (.Ot 2 (.t 23) (aa (.t 24)) ae ae),ri 26 (.app 2 24 (.t 22) (.t 25)),rm 0 26] ah []) (rq [rm 27 0,rm 28 0,wn 29 28,rm 30 7,
 ri 31 (.Ot 2 (.t 27) (aa (.t 29)) (aa (.t 30)) ae),rn (.clr [.str ⟨#[]⟩,.int aj 0] (.t 31))] (rq [ri 32 (.trim (.t 0)),rm 6 32] cd))))))
def Np:eh:=
 rq [wo 6] (rq [rm 8 0,rm 9 1,rm 10 2,rm 11 0,wn 12 11,
 ri 13 (.Ot 5 (.t 8) (aa (.t 9)) (aa (.t 10)) (aa (.t 12)))] (ay (rq [rm 14 1,rm 15 2,wb 16 .eql 14 15] (wt 16 (rq [rm 17 0,
 rm 6 17] cd) bq)) (rq [rm 18 0,wn 19 18,rm 7 19] (ay (bx [rm 20 0,rm 21 1,ri 22 (.Ot 5 (.t 20) ae (aa (.t 21)) ae),rm 23 0,
 rm 24 2,ri 25 (.Ot 5 (.t 23) (aa (.t 24)) ae ae),ri 26 (.app 5 96 (.t 22) (.t 25)),rm 0 26] ah []) (rq [rm 27 0,rm 28 0,wn 29 28,rm 30 7,
 ri 31 (.Ot 5 (.t 27) (aa (.t 29)) (aa (.t 30)) ae),rn (.clr [.str ⟨#[]⟩,.int aj 0,.cj,.cj,.cj] (.t 31))] (rq [ri 32 (.trim (.t 0)),
 rm 6 32] cd))))))
def No:eh:=
 rq [wo 6] (rq [rm 8 0,rm 9 1,rm 10 2,rm 11 0,wn 12 11,
 ri 13 (.Ot 2 (.t 8) (aa (.t 9)) (aa (.t 10)) (aa (.t 12)))] (ay (rq [rm 14 1,rm 15 2,wb 16 .eql 14 15] (wt 16 (rq [rm 17 0,
 rm 6 17] cd) bq)) (rq [rm 18 0,wn 19 18,rm 7 19] (ay (bx [rm 20 0,rm 21 1,ri 22 (.Ot 2 (.t 20) ae (aa (.t 21)) ae),rm 23 0,
 rm 24 2,ri 25 (.Ot 2 (.t 23) (aa (.t 24)) ae ae),ri 26 (.app 2 48 (.t 22) (.t 25)),rm 0 26] ah []) (rq [rm 27 0,rm 28 0,wn 29 28,rm 30 7,
 ri 31 (.Ot 2 (.t 27) (aa (.t 29)) (aa (.t 30)) ae),rn (.clr [.cj,.cj] (.t 31))] (rq [ri 32 (.trim (.t 0)),rm 6 32] cd))))))
def wh(oi qq ja qp jd:Nat):eh:=
 rq [wx 1 2 0,ri 2 (.alloc [.cj,.cj])] (rq [ri 3 (.alloc [.y0]),rn (.store 1 (.t 3) (.c (.qb oi [])))] (rq [rf 4 0 1,rl 5 1 ag 4,
 ri 6 (.Oj qq [.t 3]),ri 7 (.ua ja [.t 5,.t 6])] (rq [rf 8 1 1,rl 9 1 ag 8,
 ri 10 (.Oj qp [.t 3]),ri 11 (.ua jd [.t 9,.t 10])] (rq [rl 12 2 ah 1,
 ws 2 2 12] cd))))
def Co:eh:=
 rq [wc 4 0] (ay (dh 0 (rq [rm 6 0,rm 7 1,wb 8 .lss 6 7,rm 5 8] (wt 5 (rq [wc 4 (-1)] cd) (rq [rm 10 0,rm 11 1,
 wb 12 .gtr 10 11,rm 9 12] (wt 9 (rq [wc 4 1] cd) bq))))) (rq [wc 4 0] cd))
def Jf:eh:=
 rq [wx 3 2 0,wx 4 2 1,wc 5 0] (rq [rl 6 1 ag 2,rf 7 0 3,rl 8 1 ag 7,rf 9 0 4,rl 10 1 ag 9,
 ri 11 (.zq (.t 6) [.t 8,.t 10]),rm 5 11] cd)
def Je:eh:=
 rq [wx 3 5 0,wx 4 5 1,wc 5 0] (rq [rl 6 1 ag 2,rf 7 0 3,rl 8 1 ag 7,rf 9 0 4,rl 10 1 ag 9,
 ri 11 (.zq (.t 6) [.t 8,.t 10]),rm 5 11] cd)
def pe(nu:Nat):eh:=
 bx [rm 4 0,rm 5 0,wn 6 5,rm 7 1,ri 8 (.ua nu [.t 4,.t 6,.t 7])] ag []
def pz(o6:Nat):eh:=
 bx [rm 4 0,rm 5 0,wn 6 5,rm 7 1,ri 8 (.ua o6 [.t 4,.t 6,.t 7])] ag []
def Ih(jv iy:Nat):eh:=
 rq [wc 6 20] (rq [rm 10 6,wc 7 0,rm 8 10] (ay (dh 0 (iq (ay (rq [rm 11 8,rm 12 1,
 wb 13 .leq 11 12] (wt 13 bq (ij 0))) (dh 1 (rq [rm 14 0,rm 15 7,rm 16 8,rm 17 2,
 ri 18 (.ua jv [.t 14,.t 15,.t 16,.t 17])] (rq [rm 19 8,rm 7 19] (bx [rm 20 8,rm 21 6,
 wb 22 .add 20 21,rm 8 22] ag []))))))) (rq [rm 23 0,rm 24 7,rm 25 1,rm 26 2,
 ri 27 (.ua jv [.t 23,.t 24,.t 25,.t 26])] (dh 2 (iq (ay (rq [rm 28 6,rm 29 1,
 wb 30 .lss 28 29] (wt 30 bq (ij 2))) (dh 3 (rq [rm 31 6,ri 32 (.bin .mul (ci 2) (.t 31)),wc 7 0,
 rm 8 32] (ay (dh 4 (iq (ay (rq [rm 33 8,rm 34 1,wb 35 .leq 33 34] (wt 35 bq (ij 4))) (dh 5 (rq [rm 36 0,rm 37 7,rm 38 7,
 rm 39 6,wb 40 .add 38 39,rm 41 8,rm 42 2,ri 43 (.ua iy [.t 36,.t 37,.t 40,.t 41,.t 42])] (rq [rm 44 8,
 rm 7 44] (bx [rm 45 8,rm 46 6,ri 47 (.bin .mul (ci 2) (.t 46)),wb 48 .add 45 47,rm 8 48] ag []))))))) (ay (rq [rm 49 7,rm 50 6,
 wb 51 .add 49 50,rm 9 51] (rq [rm 52 9,rm 53 1,wb 54 .lss 52 53] (wt 54 (bx [rm 55 0,rm 56 7,rm 57 9,rm 58 1,rm 59 2,
 ri 60 (.ua iy [.t 55,.t 56,.t 57,.t 58,.t 59])] ag []) bq))) (bx [rm 61 6,wd 62 .mul 61 2,
 rm 6 62] ag [])))))))))))
def It(kg j1:Nat):eh:=
 rq [wc 6 20] (rq [rm 10 6,wc 7 0,rm 8 10] (ay (dh 0 (iq (ay (rq [rm 11 8,rm 12 1,
 wb 13 .leq 11 12] (wt 13 bq (ij 0))) (dh 1 (rq [rm 14 0,rm 15 7,rm 16 8,rm 17 2,
 ri 18 (.ua kg [.t 14,.t 15,.t 16,.t 17])] (rq [rm 19 8,rm 7 19] (bx [rm 20 8,rm 21 6,
 wb 22 .add 20 21,rm 8 22] ag []))))))) (rq [rm 23 0,rm 24 7,rm 25 1,rm 26 2,
 ri 27 (.ua kg [.t 23,.t 24,.t 25,.t 26])] (dh 2 (iq (ay (rq [rm 28 6,rm 29 1,
 wb 30 .lss 28 29] (wt 30 bq (ij 2))) (dh 3 (rq [rm 31 6,ri 32 (.bin .mul (ci 2) (.t 31)),wc 7 0,
 rm 8 32] (ay (dh 4 (iq (ay (rq [rm 33 8,rm 34 1,wb 35 .leq 33 34] (wt 35 bq (ij 4))) (dh 5 (rq [rm 36 0,rm 37 7,rm 38 7,
 rm 39 6,wb 40 .add 38 39,rm 41 8,rm 42 2,ri 43 (.ua j1 [.t 36,.t 37,.t 40,.t 41,.t 42])] (rq [rm 44 8,
 rm 7 44] (bx [rm 45 8,rm 46 6,ri 47 (.bin .mul (ci 2) (.t 46)),wb 48 .add 45 47,rm 8 48] ag []))))))) (ay (rq [rm 49 7,rm 50 6,
 wb 51 .add 49 50,rm 9 51] (rq [rm 52 9,rm 53 1,wb 54 .lss 52 53] (wt 54 (bx [rm 55 0,rm 56 7,rm 57 9,rm 58 1,rm 59 2,
 ri 60 (.ua j1 [.t 55,.t 56,.t 57,.t 58,.t 59])] ag []) bq))) (bx [rm 61 6,wd 62 .mul 61 2,
 rm 6 62] ag [])))))))))))
def Fe:eh:=
 rq [rm 10 1,wd 11 .add 10 1,rm 8 11] (dh 0 (iq (ay (rq [rm 12 8,rm 13 2,
 wb 14 .lss 12 13] (wt 14 bq (ij 0))) (ay (dh 1 (rq [rm 17 8,rm 9 17] (dh 2 (iq (ay (ay (bx [rm 18 9,rm 19 1,
 wb 20 .gtr 18 19,rm 21 20,wm 22 21 ah 3,wm 23 21 ah 0,wm 24 21 ah 9,rg 25 21 ah (.xn 2 (.t 23) (.t 24)),
 wl 26 21 ah 2 ah 25,wm 27 21 ah 0,wm 28 21 ah 9,rg 29 21 ah (.bin .sub (.t 28) (ci 1)),
 rg 30 21 ah (.xn 2 (.t 27) (.t 29)),wl 31 21 ah 2 ah 30,rg 32 21 ah (.zq (.t 22) [.t 26,.t 31]),rg 33 21 ah (.bin .lss (.t 32) (ci 0)),
 wp 34 21 33] ah []) (wt 34 bq (ij 2))) (ay (dh 3 (bx [rm 37 0,rm 38 9,rm 39 0,rm 40 9,
 wd 41 .sub 40 1,rm 42 0,rm 43 9,wd 44 .sub 43 1,wi 45 2 42 44,rl 46 2 ah 45,rm 47 0,rm 48 9,
 wi 49 2 47 48,rl 50 2 ah 49,wi 51 2 37 38,ws 2 51 46,wi 52 2 39 41,
 ws 2 52 50] ah [])) (bx [rm 35 9,wd 36 .sub 35 1,rm 9 36] ag []))))))) (bx [rm 15 8,wd 16 .add 15 1,
 rm 8 16] ag [])))))
def Fh:eh:=
 rq [rm 10 1,wd 11 .add 10 1,rm 8 11] (dh 0 (iq (ay (rq [rm 12 8,rm 13 2,
 wb 14 .lss 12 13] (wt 14 bq (ij 0))) (ay (dh 1 (rq [rm 17 8,rm 9 17] (dh 2 (iq (ay (ay (bx [rm 18 9,rm 19 1,
 wb 20 .gtr 18 19,rm 21 20,wm 22 21 ah 3,wm 23 21 ah 0,wm 24 21 ah 9,rg 25 21 ah (.xn 5 (.t 23) (.t 24)),
 wl 26 21 ah 5 ah 25,wm 27 21 ah 0,wm 28 21 ah 9,rg 29 21 ah (.bin .sub (.t 28) (ci 1)),
 rg 30 21 ah (.xn 5 (.t 27) (.t 29)),wl 31 21 ah 5 ah 30,rg 32 21 ah (.zq (.t 22) [.t 26,.t 31]),rg 33 21 ah (.bin .lss (.t 32) (ci 0)),
 wp 34 21 33] ah []) (wt 34 bq (ij 2))) (ay (dh 3 (bx [rm 37 0,rm 38 9,rm 39 0,rm 40 9,
 wd 41 .sub 40 1,rm 42 0,rm 43 9,wd 44 .sub 43 1,wi 45 5 42 44,rl 46 5 ah 45,rm 47 0,rm 48 9,
 wi 49 5 47 48,rl 50 5 ah 49,wi 51 5 37 38,ws 5 51 46,wi 52 5 39 41,
 ws 5 52 50] ah [])) (bx [rm 35 9,wd 36 .sub 35 1,rm 9 36] ag []))))))) (bx [rm 15 8,wd 16 .add 15 1,
 rm 8 16] ag [])))))
def Hc(xe iy:Nat):eh:=
 ay (rq [rm 25 2,rm 26 1,wb 27 .sub 25 26,wd 28 .eql 27 1] (wt 28 (rq [rm 29 2,rm 10 29] (rq [rm 30 3,
 rm 11 30] (ay (dh 0 (iq (ay (rq [rm 31 10,rm 32 11,wb 33 .lss 31 32] (wt 33 bq (ij 0))) (dh 1 (rq [rm 34 10,rm 35 11,
 wb 36 .add 34 35,ri 37 (.conv .u64 (.t 36)),ri 38 (.bin .shr (.t 37) (.c (.int .u64 1))),ri 39 (.conv aj (.t 38)),rm 12 39] (ay (bx [rm 40 4,
 rm 41 0,rm 42 12,wi 43 2 41 42,rl 44 2 ah 43,rm 45 0,rm 46 1,wi 47 2 45 46,rl 48 2 ah 47,ri 49 (.zq (.t 40) [.t 44,.t 48]),
 wd 50 .lss 49 0] ah []) (wt 50 (bx [rm 51 12,wd 52 .add 51 1,rm 10 52] ag []) (bx [rm 53 12,
 rm 11 53] ag [])))))))) (ay (rq [rm 54 1,rm 13 54] (dh 2 (iq (ay (rq [rm 55 13,rm 56 10,wd 57 .sub 56 1,
 wb 58 .lss 55 57] (wt 58 bq (ij 2))) (ay (dh 3 (bx [rm 61 0,rm 62 13,rm 63 0,rm 64 13,wd 65 .add 64 1,
 rm 66 0,rm 67 13,wd 68 .add 67 1,wi 69 2 66 68,rl 70 2 ah 69,rm 71 0,rm 72 13,wi 73 2 71 72,rl 74 2 ah 73,
 wi 75 2 61 62,ws 2 75 70,wi 76 2 63 65,ws 2 76 74] ah [])) (bx [rm 59 13,
 wd 60 .add 59 1,rm 13 60] ag [])))))) cd)))) bq)) (ay (rq [rm 77 3,rm 78 2,wb 79 .sub 77 78,
 wd 80 .eql 79 1] (wt 80 (rq [rm 81 1,rm 14 81] (rq [rm 82 2,rm 15 82] (ay (dh 4 (iq (ay (rq [rm 83 14,rm 84 15,
 wb 85 .lss 83 84] (wt 85 bq (ij 4))) (dh 5 (rq [rm 86 14,rm 87 15,wb 88 .add 86 87,ri 89 (.conv .u64 (.t 88)),
 ri 90 (.bin .shr (.t 89) (.c (.int .u64 1))),ri 91 (.conv aj (.t 90)),rm 16 91] (ay (bx [rm 92 4,rm 93 0,rm 94 2,wi 95 2 93 94,rl 96 2 ah 95,
 rm 97 0,rm 98 16,wi 99 2 97 98,rl 100 2 ah 99,ri 101 (.zq (.t 92) [.t 96,.t 100]),wd 102 .lss 101 0,
 ri 103 (.un .not (.t 102))] ah []) (wt 103 (bx [rm 104 16,wd 105 .add 104 1,rm 14 105] ag []) (bx [rm 106 16,
 rm 15 106] ag [])))))))) (ay (rq [rm 107 2,rm 17 107] (dh 6 (iq (ay (rq [rm 108 17,rm 109 14,
 wb 110 .gtr 108 109] (wt 110 bq (ij 6))) (ay (dh 7 (bx [rm 113 0,rm 114 17,rm 115 0,rm 116 17,
 wd 117 .sub 116 1,rm 118 0,rm 119 17,wd 120 .sub 119 1,wi 121 2 118 120,rl 122 2 ah 121,rm 123 0,rm 124 17,
 wi 125 2 123 124,rl 126 2 ah 125,wi 127 2 113 114,ws 2 127 122,wi 128 2 115 117,
 ws 2 128 126] ah [])) (bx [rm 111 17,wd 112 .sub 111 1,rm 17 112] ag [])))))) cd)))) bq)) (rq [rm 129 1,rm 130 3,
 wb 131 .add 129 130,ri 132 (.conv .u64 (.t 131)),ri 133 (.bin .shr (.t 132) (.c (.int .u64 1))),ri 134 (.conv aj (.t 133)),rm 18 134] (rq [rm 135 18,
 rm 136 2,wb 137 .add 135 136,rm 19 137] (rq [wc 20 0,wc 21 0] (ay (rq [rm 138 2,rm 139 18,
 wb 140 .gtr 138 139] (wt 140 (rq [rm 141 19,rm 142 3,wb 143 .sub 141 142,rm 20 143] (bx [rm 144 18,
 rm 21 144] ag [])) (rq [rm 145 1,rm 20 145] (bx [rm 146 2,rm 21 146] ag [])))) (rq [rm 147 19,wd 148 .sub 147 1,
 rm 22 148] (ay (dh 8 (iq (ay (rq [rm 149 20,rm 150 21,wb 151 .lss 149 150] (wt 151 bq (ij 8))) (dh 9 (rq [rm 152 20,
 rm 153 21,wb 154 .add 152 153,ri 155 (.conv .u64 (.t 154)),ri 156 (.bin .shr (.t 155) (.c (.int .u64 1))),ri 157 (.conv aj (.t 156)),
 rm 23 157] (ay (bx [rm 158 4,rm 159 0,rm 160 22,rm 161 23,wb 162 .sub 160 161,wi 163 2 159 162,rl 164 2 ah 163,rm 165 0,
 rm 166 23,wi 167 2 165 166,rl 168 2 ah 167,ri 169 (.zq (.t 158) [.t 164,.t 168]),wd 170 .lss 169 0,
 ri 171 (.un .not (.t 170))] ah []) (wt 171 (bx [rm 172 23,wd 173 .add 172 1,rm 20 173] ag []) (bx [rm 174 23,
 rm 21 174] ag [])))))))) (rq [rm 175 19,rm 176 20,wb 177 .sub 175 176,rm 24 177] (ay (rq [rm 178 20,rm 179 2,wb 180 .lss 178 179,
 rm 181 180,wm 182 181 ah 2,wm 183 181 ah 24,rg 184 181 ah (.bin .lss (.t 182) (.t 183)),
 wp 185 181 184] (wt 185 (bx [rm 186 0,rm 187 20,rm 188 2,rm 189 24,rm 190 4,
 ri 191 (.call xe [.t 186,.t 187,.t 188,.t 189,.t 190])] ag []) bq)) (ay (rq [rm 192 1,rm 193 20,
 wb 194 .lss 192 193,rm 195 194,wm 196 195 ah 20,wm 197 195 ah 18,rg 198 195 ah (.bin .lss (.t 196) (.t 197)),
 wp 199 195 198] (wt 199 (bx [rm 200 0,rm 201 1,rm 202 20,rm 203 18,rm 204 4,
 ri 205 (.call iy [.t 200,.t 201,.t 202,.t 203,.t 204])] ag []) bq)) (rq [rm 206 18,rm 207 24,
 wb 208 .lss 206 207,rm 209 208,wm 210 209 ah 24,wm 211 209 ah 3,rg 212 209 ah (.bin .lss (.t 210) (.t 211)),
 wp 213 209 212] (wt 213 (bx [rm 214 0,rm 215 18,rm 216 24,rm 217 3,rm 218 4,
 ri 219 (.call iy [.t 214,.t 215,.t 216,.t 217,.t 218])] ag []) bq))))))))))))
def Hx(xw j1:Nat):eh:=
 ay (rq [rm 25 2,rm 26 1,wb 27 .sub 25 26,wd 28 .eql 27 1] (wt 28 (rq [rm 29 2,rm 10 29] (rq [rm 30 3,
 rm 11 30] (ay (dh 0 (iq (ay (rq [rm 31 10,rm 32 11,wb 33 .lss 31 32] (wt 33 bq (ij 0))) (dh 1 (rq [rm 34 10,rm 35 11,
 wb 36 .add 34 35,ri 37 (.conv .u64 (.t 36)),ri 38 (.bin .shr (.t 37) (.c (.int .u64 1))),ri 39 (.conv aj (.t 38)),rm 12 39] (ay (bx [rm 40 4,
 rm 41 0,rm 42 12,wi 43 5 41 42,rl 44 5 ah 43,rm 45 0,rm 46 1,wi 47 5 45 46,rl 48 5 ah 47,ri 49 (.zq (.t 40) [.t 44,.t 48]),
 wd 50 .lss 49 0] ah []) (wt 50 (bx [rm 51 12,wd 52 .add 51 1,rm 10 52] ag []) (bx [rm 53 12,
 rm 11 53] ag [])))))))) (ay (rq [rm 54 1,rm 13 54] (dh 2 (iq (ay (rq [rm 55 13,rm 56 10,wd 57 .sub 56 1,
 wb 58 .lss 55 57] (wt 58 bq (ij 2))) (ay (dh 3 (bx [rm 61 0,rm 62 13,rm 63 0,rm 64 13,wd 65 .add 64 1,
 rm 66 0,rm 67 13,wd 68 .add 67 1,wi 69 5 66 68,rl 70 5 ah 69,rm 71 0,rm 72 13,wi 73 5 71 72,rl 74 5 ah 73,
 wi 75 5 61 62,ws 5 75 70,wi 76 5 63 65,ws 5 76 74] ah [])) (bx [rm 59 13,
 wd 60 .add 59 1,rm 13 60] ag [])))))) cd)))) bq)) (ay (rq [rm 77 3,rm 78 2,wb 79 .sub 77 78,
 wd 80 .eql 79 1] (wt 80 (rq [rm 81 1,rm 14 81] (rq [rm 82 2,rm 15 82] (ay (dh 4 (iq (ay (rq [rm 83 14,rm 84 15,
 wb 85 .lss 83 84] (wt 85 bq (ij 4))) (dh 5 (rq [rm 86 14,rm 87 15,wb 88 .add 86 87,ri 89 (.conv .u64 (.t 88)),
 ri 90 (.bin .shr (.t 89) (.c (.int .u64 1))),ri 91 (.conv aj (.t 90)),rm 16 91] (ay (bx [rm 92 4,rm 93 0,rm 94 2,wi 95 5 93 94,rl 96 5 ah 95,
 rm 97 0,rm 98 16,wi 99 5 97 98,rl 100 5 ah 99,ri 101 (.zq (.t 92) [.t 96,.t 100]),wd 102 .lss 101 0,
 ri 103 (.un .not (.t 102))] ah []) (wt 103 (bx [rm 104 16,wd 105 .add 104 1,rm 14 105] ag []) (bx [rm 106 16,
 rm 15 106] ag [])))))))) (ay (rq [rm 107 2,rm 17 107] (dh 6 (iq (ay (rq [rm 108 17,rm 109 14,
 wb 110 .gtr 108 109] (wt 110 bq (ij 6))) (ay (dh 7 (bx [rm 113 0,rm 114 17,rm 115 0,rm 116 17,
 wd 117 .sub 116 1,rm 118 0,rm 119 17,wd 120 .sub 119 1,wi 121 5 118 120,rl 122 5 ah 121,rm 123 0,rm 124 17,
 wi 125 5 123 124,rl 126 5 ah 125,wi 127 5 113 114,ws 5 127 122,wi 128 5 115 117,
 ws 5 128 126] ah [])) (bx [rm 111 17,wd 112 .sub 111 1,rm 17 112] ag [])))))) cd)))) bq)) (rq [rm 129 1,rm 130 3,
 wb 131 .add 129 130,ri 132 (.conv .u64 (.t 131)),ri 133 (.bin .shr (.t 132) (.c (.int .u64 1))),ri 134 (.conv aj (.t 133)),rm 18 134] (rq [rm 135 18,
 rm 136 2,wb 137 .add 135 136,rm 19 137] (rq [wc 20 0,wc 21 0] (ay (rq [rm 138 2,rm 139 18,
 wb 140 .gtr 138 139] (wt 140 (rq [rm 141 19,rm 142 3,wb 143 .sub 141 142,rm 20 143] (bx [rm 144 18,
 rm 21 144] ag [])) (rq [rm 145 1,rm 20 145] (bx [rm 146 2,rm 21 146] ag [])))) (rq [rm 147 19,wd 148 .sub 147 1,
 rm 22 148] (ay (dh 8 (iq (ay (rq [rm 149 20,rm 150 21,wb 151 .lss 149 150] (wt 151 bq (ij 8))) (dh 9 (rq [rm 152 20,
 rm 153 21,wb 154 .add 152 153,ri 155 (.conv .u64 (.t 154)),ri 156 (.bin .shr (.t 155) (.c (.int .u64 1))),ri 157 (.conv aj (.t 156)),
 rm 23 157] (ay (bx [rm 158 4,rm 159 0,rm 160 22,rm 161 23,wb 162 .sub 160 161,wi 163 5 159 162,rl 164 5 ah 163,rm 165 0,
 rm 166 23,wi 167 5 165 166,rl 168 5 ah 167,ri 169 (.zq (.t 158) [.t 164,.t 168]),wd 170 .lss 169 0,
 ri 171 (.un .not (.t 170))] ah []) (wt 171 (bx [rm 172 23,wd 173 .add 172 1,rm 20 173] ag []) (bx [rm 174 23,
 rm 21 174] ag [])))))))) (rq [rm 175 19,rm 176 20,wb 177 .sub 175 176,rm 24 177] (ay (rq [rm 178 20,rm 179 2,wb 180 .lss 178 179,
 rm 181 180,wm 182 181 ah 2,wm 183 181 ah 24,rg 184 181 ah (.bin .lss (.t 182) (.t 183)),
 wp 185 181 184] (wt 185 (bx [rm 186 0,rm 187 20,rm 188 2,rm 189 24,rm 190 4,
 ri 191 (.call xw [.t 186,.t 187,.t 188,.t 189,.t 190])] ag []) bq)) (ay (rq [rm 192 1,rm 193 20,
 wb 194 .lss 192 193,rm 195 194,wm 196 195 ah 20,wm 197 195 ah 18,rg 198 195 ah (.bin .lss (.t 196) (.t 197)),
 wp 199 195 198] (wt 199 (bx [rm 200 0,rm 201 1,rm 202 20,rm 203 18,rm 204 4,
 ri 205 (.call j1 [.t 200,.t 201,.t 202,.t 203,.t 204])] ag []) bq)) (rq [rm 206 18,rm 207 24,
 wb 208 .lss 206 207,rm 209 208,wm 210 209 ah 24,wm 211 209 ah 3,rg 212 209 ah (.bin .lss (.t 210) (.t 211)),
 wp 213 209 212] (wt 213 (bx [rm 214 0,rm 215 18,rm 216 24,rm 217 3,rm 218 4,
 ri 219 (.call j1 [.t 214,.t 215,.t 216,.t 217,.t 218])] ag []) bq))))))))))))
def D9(zy lz sr ll:Nat):eh:=
 rq [wx 2 2 0,wx 3 9 1,ri 4 (.alloc [.cj,.cj]),wc 5 0] (ay (ay (bx [rf 8 0 3,rl 9 1 ag 8,
 wd 10 .lss 9 0,rm 11 10,rg 12 11 ag (.Ai 0 (.t 3)),wl 13 11 ag 1 ag 12,rg 14 11 ag (.call zy []),
 rg 15 11 ag (.kf (ci 7)),rg 16 11 ag (.bin .geq (.t 13) (.t 15)),
 wq 17 11 16] ah []) (wt 17 (rq [ri 18 (.build [.cj,.cj] []),ws 2 4 18,
 wc 5 1] cd) bq)) (rq [rl 19 2 ah 2,ri 20 (.ua lz [.t 19]),ri 6 (.alloc [.cj,.cj]),
 ws 2 6 20] (ay (ay (ay (.freeze) (bx [ri 21 (.call zy []),rf 22 0 3,rl 23 1 ag 22,ri 24 (.kX 7 1 ag (.t 21) (.t 23)),
 rl 25 9 ah 3,ri 26 (.Od (.t 24) [.t 6,.t 25]),rm 7 26] ah [])) (rq [rm 27 7,
 wd 28 .neq 27 0] (wt 28 (rq [ri 29 (.build [.cj,.cj] []),rm 30 7,ws 2 4 29,
 rm 5 30] cd) bq))) (ay (ay (.freeze) (bx [rl 31 2 ah 6,ri 32 (.ua sr [.t 31]),
 ws 2 6 32] ag [])) (ay (rq [rl 33 2 ah 6,ri 34 (.call ll [.t 33]),
 wd 35 .neq 34 0] (wt 35 (rq [ri 36 (.build [.cj,.cj] []),ws 2 4 36,
 wc 5 230] cd) bq)) (rq [rl 37 2 ah 6,ws 2 4 37,wc 5 0] cd))))))
def Rq(ll lz:Nat):eh:=
 rq [wx 1 2 0,ri 2 (.kf (.c .Y9)),wc 3 0] (ay (rq [rl 4 2 ah 1,ri 5 (.call ll [.t 4]),
 wd 6 .neq 5 0] (wt 6 (rq [ri 2 (.kf (.c .Y9)),wc 3 230] cd) bq)) (rq [rl 7 2 ah 1,
 ri 8 (.call lz [.t 7]),ri 9 (.Ks),ri 10 (.build [.cj,.cj,.cj,.cj,.P0] [(0,2,.t 8),(4,1,.t 9)]),wx 11 5 10,rm 2 11,
 wc 3 0] cd))
def yy(lz:Nat):eh:=
 rq [ri 2 (.alloc [.cj,.cj])] (ay (rq [rm 3 0,ri 4 (.Kt .ptr ag (.t 3))] (wt 4 (rq [ri 5 (.build [.cj,.cj] []),
 ws 2 2 5] cd) bq)) (rq [rm 6 0,rk 7 6,rf 8 0 7,rl 9 2 ah 8,ri 10 (.call lz [.t 9]),ws 2 2 10] cd))
def Az(ql ud:Nat):eh:=
 rq [wx 3 9 1,wc 4 0] (ay (rq [rm 7 0,
 ri 8 (.Kt .ptr ag (.t 7))] (wt 8 (rq [wc 4 3] cd) bq)) (ay (bx [rm 10 0,rk 11 10,rf 12 0 11,rl 13 2 ah 12,rl 14 9 ah 3,
 ri 15 (.call ql [.t 13,.t 14]),rm 9 15,rx 16 9 0,rx 17 9 1,ri 5 (.zr 2),rn (.init 5 2 (.t 16)),rm 6 17] ah []) (ay (rq [rm 18 6,
 wd 19 .eql 18 0] (wt 19 (bx [rm 20 0,rl 21 2 ah 5,
 ri 22 (.Aq ud [.t 20,.t 21])] ag []) bq)) (rq [rm 23 6,rm 4 23] cd))))
def Fk(lq:Nat):eh:=
 rq [wc 2 0] (ay (rq [rm 3 0,ri 4 (.Kt .ptr ag (.t 3))] (wt 4 (rq [wc 2 3] cd) bq)) (ay (bx [rm 5 0,rm 6 0,rk 7 6,
 rf 8 2 7,rm 9 0,rk 10 9,rf 11 3 10,ri 12 (.Aq lq [.t 5,.t 8,.t 11]),rm 2 12] ah []) cd))
def yz(lq:Nat):eh:=
 rq [wc 2 0] (ay (rq [rm 3 0,ri 4 (.Kt .ptr ag (.t 3))] (wt 4 (rq [wc 2 3] cd) bq)) (ay (bx [rm 5 0,rm 6 0,rk 7 6,
 rf 8 3 7,rm 9 0,rk 10 9,rf 11 2 10,ri 12 (.Aq lq [.t 5,.t 8,.t 11]),rm 2 12] ah []) cd))
def Ez:eh:=
 rq [wc 2 0,wc 3 0] (ay (rq [rm 4 0,ri 5 (.Kt .ptr ag (.t 4))] (wt 5 (rq [wc 2 0,
 wc 3 0] cd) bq)) (ay (bx [rm 6 0,rk 7 6,rf 8 2 7,rl 9 1 ag 8,wn 10 9,rm 11 0,rk 12 11,rf 13 3 12,rl 14 1 ag 13,
 wn 15 14,rm 2 10,rm 3 15] ah []) cd))
def za(lb:Nat):eh:=
 rq [wc 4 0] (ay (rq [rm 7 0,ri 8 (.Kt .ptr ag (.t 7))] (wt 8 (rq [wc 4 3] cd) bq)) (rq [rm 10 0,rk 11 10,rf 12 4 11,
 rl 13 1 ag 12,rm 14 1,ri 15 (.lookup (.one .str) (.agg [.cj,.cj]) (.t 13) (.t 14) ah),rm 9 15,rx 16 9 0,rx 17 9 1,ri 5 (.alloc [.cj,.cj]),
 ws 2 5 16,rm 6 17] (ay (dh 0 (rq [rm 19 1,ri 20 (.call lb [.t 19]),ri 21 (.un .not (.t 20)),
 rm 18 21] (wt 18 (rq [wc 4 240] cd) (rq [rm 23 6,rm 24 23,wm 25 24 ag 0,rg 26 24 ag (.Zq (.t 25)),
 rg 27 24 ag (.Ai 4 (.t 26)),wl 28 24 ag 1 ag 27,rg 29 24 ag (.len .map (.t 28)),rg 30 24 ag (.bin .geq (.t 29) (ci 20)),
 wq 31 24 30,rm 22 31] (wt 22 (rq [wc 4 7] cd) bq))))) (ay (bx [rm 32 0,rk 33 32,rf 34 4 33,
 rl 35 1 ag 34,rm 36 1,rm 37 0,rk 38 37,rf 39 0 38,rl 40 2 ah 39,rn (.cK (.one .str) (.t 35) (.t 36) (.t 40))] ah []) (rq [wc 4 0] cd)))))
def Ag(r5:Nat):eh:=
 rq [wx 3 2 1] (ay (bx [rm 4 0,rm 5 0,rk 6 5,rf 7 2 6,rl 8 1 ag 7,rm 9 0,rk 10 9,rf 11 0 10,rl 12 2 ah 11,
 ri 13 (.xz ah 1 2 [.cj,.cj] [(0,2,.t 12)]),ri 14 (.app 2 48 (.t 8) (.t 13)),rk 15 4,rf 16 2 15,ws 1 16 14] ah []) (ay (rq [rm 17 0,
 rk 18 17,rf 19 2 18,rl 20 1 ag 19,wn 21 20,wd 22 .gtr 21 50] (wt 22 (bx [rm 23 0,rm 24 0,rk 25 24,rf 26 2 25,
 rl 27 1 ag 26,ri 28 (.Aq r5 [.t 27,ci 0,ci 1]),rk 29 23,rf 30 2 29,
 ws 1 30 28] ag []) bq)) (bx [rm 31 0,rm 32 0,rl 33 2 ah 3,rk 34 31,rf 35 0 34,ws 2 35 33,rk 36 32,rf 37 3 36,
 rn (.store 1 (.t 37) (.c .cj))] ag [])))
def mf:eh:=
 rq [wc 6 0] (rq [rm 8 1,rk 9 8,rl 10 1 ag 9,wn 11 10,rm 7 11] (ay (rq [rm 12 7,
 wd 13 .eql 12 0] (wt 13 (rq [wc 6 7] cd) bq)) (ay (bx [rm 14 2,rm 15 2,rk 16 15,rl 17 1 ag 16,rm 18 0,rk 19 18,
 rf 20 0 19,rl 21 2 ah 20,ri 22 (.xz ah 1 2 [.cj,.cj] [(0,2,.t 21)]),ri 23 (.app 2 48 (.t 17) (.t 22)),rk 24 14,
 ws 1 24 23] ah []) (ay (bx [rm 25 0,rm 26 1,rm 27 1,rk 28 27,rl 29 1 ag 28,rm 30 7,wd 31 .sub 30 1,
 wi 32 2 29 31,rl 33 2 ah 32,rm 34 1,rk 35 34,rl 36 1 ag 35,rm 37 7,wd 38 .sub 37 1,rm 39 7,wd 40 .sub 39 1,
 ri 41 (.Iz 2 (.t 36) (.t 38) (.t 40)),rk 42 25,rf 43 0 42,ws 2 43 33,rk 44 26,
 ws 1 44 41] ah []) (rq [wc 6 0] cd)))))
structure Pr4(P:Program)extends Pr3 P where
 zy:Nat
 ti:Nat
 th:Nat
 tg:Nat
 tf:Nat
 te:Nat
 p8:Nat
 o9:Nat
 oz:Nat
 pq:Nat
 r5:Nat
 sr:Nat
 oi:Nat
 qq:Nat
 ja:Nat
 qp:Nat
 jd:Nat
 nu:Nat
 o6:Nat
 jv:Nat
 iy:Nat
 kg:Nat
 j1:Nat
 xe:Nat
 xw:Nat
 ql:Nat
 Gi:Nat
 oo:Nat
 tx:Nat
 ud:Nat
 x6:Nat
 lq:Nat
 rh:Nat
 qw:Nat
 rj:Nat
 hZ:fu P j5 {cr:=[5,10]}=aa (O4 pk lk kc ib,[.cell 2 5 ah],22)
 Mf:fu P fg {cr:=[17],kp:=[18]}=aa (Ak,[.tmp 4],22)
 aD:fu P lz {cr:=[5,8],od:=[1]}=aa (Kj gn fg j5,[.cell 2 2 ah],10)
 iA:fu P zy {}=aa (O5 ti th tg tf te p8 o9,[.cell 0 7 ah],2)
 Qo:fu P ti {}=aa (ui jm,[.tmp 4],23)
 L0:fu P th {imm:=[22]}=aa (qk jm,[.tmp 4],26)
 Qn:fu P tg {ce:=[22]}=aa (uh jm oz,[.tmp 4],25)
 Kz:fu P tf {imm:=[32]}=aa (td lp j5,[.tmp 4],36)
 Qm:fu P te {ce:=[22]}=aa (ug lp pq,[.tmp 4],25)
 Hk:fu P p8 {}=aa (uz lp,[.tmp 4],65)
 Gr:fu P o9 {}=aa (sn jm,[.tmp 4],71)
 N7:fu P oz {kp:=[13,22,25,31,32]}=aa (N3,[.tmp 6],33)
 Oa:fu P pq {kp:=[13,22,25,31,32]}=aa (Np,[.tmp 6],33)
 gN:fu P r5 {kp:=[13,22,25,31,32]}=aa (No,[.tmp 6],33)
 I5:fu P sr {cr:=[7,11]}=aa (wh oi qq ja qp jd,[.cell 2 2 ah],13)
 Yn:fu P oi {}=aa (Co,[.tmp 4],13)
 Ym:fu P qq {}=aa (Jf,[.tmp 5],12)
 Yl:fu P qp {}=aa (Je,[.tmp 5],12)
 B8:fu P ja {cr:=[8]}=aa (pe nu,[],9)
 Bq:fu P jd {cr:=[8]}=aa (pz o6,[],9)
 Bp:fu P nu {cr:=[18,27,43,60]}=aa (Ih jv iy,[],63)
 C7:fu P o6 {cr:=[18,27,43,60]}=aa (It kg j1,[],63)
 yq:fu P jv {}=aa (Fe,[],53)
 zc:fu P kg {}=aa (Fh,[],53)
 Hj:fu P iy {}=aa (Hc xe iy,[],220)
 I4:fu P j1 {}=aa (Hx xw j1,[],220)
 Ub:fu P ql {ce:=[26],cr:=[20,32],dyn:=[4,7]}=aa (D9 zy lz sr ll,[.cell 4 2 ah,.tmp 5],38)
 pJ:fu P Gi {}=aa (Rq ll lz,[.tmp 2,.tmp 3],12)
 L1:fu P oo {}=aa (yy lz,[.cell 2 2 ah],11)
 Na:fu P tx {ce:=[22]}=aa (Az ql ud,[.tmp 4],24)
 Tx:fu P x6 {ce:=[12]}=aa (Fk lq,[.tmp 2],13)
 L5:fu P rh {ce:=[12]}=aa (yz lq,[.tmp 2],13)
 Sx:fu P qw {}=aa (Ez,[.tmp 2,.tmp 3],16)
 L7:fu P rj {}=aa (za lb,[.tmp 4],41)
 Lt:fu P ud {imm:=[13],ce:=[28]}=aa (Ag r5,[],38)
 ze:fu P lq {imm:=[22],cv:=[41]}=aa (mf,[.tmp 6],45)
def Rj(Fu Gi tx oo x6 qw rh rj:Nat):eh:=
 rq [wf 0 ag] (rq [ri 6 (.call Fu []),ri 7 (.Aq Gi [.t 6]),rm 5 7,rx 8 5 0,rx 9 5 1,rm 1 8,rm 2 9] (ay (rq [rm 10 2,
 wd 11 .neq 10 0,rm 12 11,wm 13 12 ag 1,
 rg 14 12 ag (.build [.int aj 0,.str ⟨#[]⟩,.str ⟨#[]⟩,.int aj 0,.str ⟨#[]⟩,.int aj 0,.cj,.cj,.cj] [(1,1,.c (.str ⟨#[119]⟩)),(3,1,ci 5)]),
 rg 15 12 ag (.Aq tx [.t 13,.t 14]),rg 16 12 ag (.bin .neq (.t 15) (ci 0)),wq 17 12 16,rm 18 17,
 wm 19 18 ag 1,rg 20 18 ag (.Xm oo [.t 19]),rg 21 18 ag (.iE 0 1 ag (.t 20)),rg 22 18 ag (.xn 2 (.t 21) (ci 0)),
 rg 23 18 ag (.Ai 1 (.t 22)),wl 24 18 ag 1 ag 23,rg 25 18 ag (.bin .neq (.t 24) (ci 5)),wq 26 18 25,rm 27 26,
 wm 28 27 ag 1,rg 29 27 ag (.Aq x6 [.t 28]),rg 30 27 ag (.bin .neq (.t 29) (ci 0)),
 wq 31 27 30] (wt 31 (rq [wf 0 ag] cd) bq)) (rq [rm 33 1,
 ri 34 (.call qw [.t 33]),rm 32 34,rx 35 32 0,rx 36 32 1,rm 3 35,rm 4 36] (rq [rm 37 3,wd 38 .eql 37 0,rm 39 38,
 wm 40 39 ah 4,rg 41 39 ah (.bin .eql (.t 40) (ci 1)),wp 42 39 41,rm 43 42,wm 44 43 ah 1,
 rg 45 43 ah (.Xm oo [.t 44]),rg 46 43 ah (.iE 0 1 ag (.t 45)),rg 47 43 ah (.xn 2 (.t 46) (ci 0)),rg 48 43 ah (.Ai 1 (.t 47)),
 wl 49 43 ah 1 ag 48,rg 50 43 ah (.bin .eql (.t 49) (ci 2)),wp 51 43 50,rm 52 51,wm 53 52 ah 1,
 rg 54 52 ah (.Aq rh [.t 53]),rg 55 52 ah (.bin .eql (.t 54) (ci 0)),wp 56 52 55,rm 57 56,
 wm 58 57 ah 1,rg 59 57 ah (.Aq rh [.t 58]),rg 60 57 ah (.bin .eql (.t 59) (ci 7)),
 wp 61 57 60,rm 62 61,wm 63 62 ah 1,
 rg 64 62 ah (.build [.int aj 0,.str ⟨#[]⟩,.str ⟨#[]⟩,.int aj 0,.str ⟨#[]⟩,.int aj 0,.cj,.cj,.cj] [(0,1,ci 4),(1,1,.c (.str ⟨#[97]⟩))]),
 rg 65 62 ah (.Aq tx [.t 63,.t 64]),rg 66 62 ah (.bin .eql (.t 65) (ci 230)),wp 67 62 66,rm 68 67,
 wm 69 68 ah 1,rg 70 68 ah (.Aq rj [.t 69,.c (.str ⟨#[109]⟩)]),rg 71 68 ah (.bin .eql (.t 70) (ci 0)),
 wp 72 68 71,rm 73 72,wm 74 73 ah 1,rg 75 73 ah (.Aq rj [.t 74,.c (.str ⟨#[109]⟩)]),
 rg 76 73 ah (.bin .eql (.t 75) (ci 7)),wp 77 73 76,rm 0 77] cd))))
structure Pr5(P:Program)extends Pr4 P where
 C9:Nat
 pB:fu P C9 {ce:=[7,15,29,54,59,65,70,75],cf:=[20,45]}=aa (Rj Fu Gi tx oo x6 qw rh rj,[.tmp 0],78)
def Ww(zg:Nat):eh:=
 rq [wx 1 1 0,ri 2 (.alloc [.cj]),wc 3 0] (rq [rl 4 1 ah 1,ri 5 (.call zg [.t 4]),rx 6 5 0,rx 7 5 1,ws 1 2 6,
 rm 3 7] cd)
def Fz(ll ql:Nat):eh:=
 rq [wx 2 2 0,wx 3 9 1,ri 4 (.alloc [.cj,.cj]),wc 5 0] (ay (rq [rl 6 2 ah 2,ri 7 (.call ll [.t 6]),
 wd 8 .neq 7 0] (wt 8 (rq [ri 9 (.build [.cj,.cj] []),ws 2 4 9,wc 5 230] cd) bq)) (rq [rl 10 2 ah 2,
 rl 11 9 ah 3,ri 12 (.call ql [.t 10,.t 11]),rx 13 12 0,rx 14 12 1,ws 2 4 13,rm 5 14] cd))
structure Pr6(P:Program)extends Pr5 P where
 X5:Nat
 Db:Nat
 BR:fu P X5 {}=aa (Ww zg,[.cell 2 1 ah,.tmp 3],8)
 Uc:fu P Db {}=aa (Fz ll ql,[.cell 4 2 ah,.tmp 5],15)

structure Pr7(P:Program)extends Pr6 P where
def R4:eh:=
 rq [wx 2 2 0,wc 4 0] (ay (rq [wc 5 0] (dh 0 (iq (ay (rq [rm 6 5,rf 7 0 2,rl 8 1 ag 7,wn 9 8,
 wb 10 .lss 6 9] (wt 10 bq (ij 0))) (ay (dh 1 (rq [rf 13 0 2,rl 14 1 ag 13,rm 15 5,wi 16 2 14 15,rf 17 0 16,
 rl 18 1 ag 17,rm 19 1,wb 20 .eql 18 19] (wt 20 (rq [rm 21 5,rm 4 21] cd) bq))) (bx [rm 11 5,wd 12 .add 11 1,
 rm 5 12] ag [])))))) (rq [wc 4 (-1)] cd))
def V8:eh:=
 rq [wx 3 2 1,
 wo 4] (rq [wo 5] (rq [wf 6 ag] (ay (rq [wc 7 0] (dh 0 (iq (ay (rq [rm 8 7,rm 9 0,
 wn 10 9,wb 11 .lss 8 10] (wt 11 bq (ij 0))) (ay (dh 1 (ay (ay (bx [rm 14 6,ri 15 (.un .not (.t 14)),
 rm 16 15,wm 17 16 ah 0,wm 18 16 ah 7,rg 19 16 ah (.xn 2 (.t 17) (.t 18)),rg 20 16 ah (.Ai 0 (.t 19)),
 wl 21 16 ah 1 ag 20,rg 22 16 ah (.Ai 0 (.t 3)),wl 23 16 ah 1 ag 22,rg 24 16 ah (.bin .gtr (.t 21) (.t 23)),
 wp 25 16 24] ah []) (wt 25 (rq [rm 26 5,rl 27 2 ah 3,
 ri 28 (.xz ag 1 2 [.str ⟨#[]⟩,.int aj 0] [(0,2,.t 27)]),ri 29 (.app 2 24 (.t 26) (.t 28)),
 rm 5 29] (bx [wf 6 ah] ag [])) bq)) (bx [rm 30 5,rm 31 0,rm 32 7,wi 33 2 31 32,rl 34 2 ah 33,
 ri 35 (.xz ag 1 2 [.str ⟨#[]⟩,.int aj 0] [(0,2,.t 34)]),ri 36 (.app 2 24 (.t 30) (.t 35)),rm 5 36] ag []))) (bx [rm 12 7,
 wd 13 .add 12 1,rm 7 13] ag [])))))) (ay (rq [rm 37 6,ri 38 (.un .not (.t 37))] (wt 38 (bx [rm 39 5,rl 40 2 ah 3,
 ri 41 (.xz ag 1 2 [.str ⟨#[]⟩,.int aj 0] [(0,2,.t 40)]),ri 42 (.app 2 24 (.t 39) (.t 41)),rm 5 42] ag []) bq)) (rq [rm 43 5,rm 4 43] cd)))))
def Nv:eh:=
 rq [wo 4] (rq [wo 5] (ay (rq [wc 6 0] (dh 0 (iq (ay (rq [rm 7 6,rm 8 0,wn 9 8,
 wb 10 .lss 7 9] (wt 10 bq (ij 0))) (ay (dh 1 (rq [rm 13 0,rm 14 6,wi 15 2 13 14,rf 16 0 15,rl 17 1 ag 16,
 rm 18 1,wb 19 .neq 17 18] (wt 19 (bx [rm 20 5,rm 21 0,rm 22 6,wi 23 2 21 22,rl 24 2 ah 23,
 ri 25 (.xz ag 1 2 [.str ⟨#[]⟩,.int aj 0] [(0,2,.t 24)]),ri 26 (.app 2 24 (.t 20) (.t 25)),rm 5 26] ag []) bq))) (bx [rm 11 6,
 wd 12 .add 11 1,rm 6 12] ag [])))))) (rq [rm 27 5,rm 4 27] cd)))
def Pe:eh:=
 rq [wx 3 5 1,
 wo 4] (rq [wo 5] (rq [wf 6 ag] (ay (rq [wc 7 0] (dh 0 (iq (ay (rq [rm 8 7,rm 9 0,
 wn 10 9,wb 11 .lss 8 10] (wt 11 bq (ij 0))) (ay (dh 1 (ay (ay (bx [rm 14 6,ri 15 (.un .not (.t 14)),
 rm 16 15,wm 17 16 ah 0,wm 18 16 ah 7,rg 19 16 ah (.xn 5 (.t 17) (.t 18)),rg 20 16 ah (.Ai 0 (.t 19)),
 wl 21 16 ah 1 ag 20,rg 22 16 ah (.Ai 0 (.t 3)),wl 23 16 ah 1 ag 22,rg 24 16 ah (.bin .gtr (.t 21) (.t 23)),
 wp 25 16 24] ah []) (wt 25 (rq [rm 26 5,rl 27 5 ah 3,
 ri 28 (.xz ag 1 5 [.str ⟨#[]⟩,.int aj 0,.cj,.cj,.cj] [(0,5,.t 27)]),ri 29 (.app 5 96 (.t 26) (.t 28)),
 rm 5 29] (bx [wf 6 ah] ag [])) bq)) (bx [rm 30 5,rm 31 0,rm 32 7,wi 33 5 31 32,rl 34 5 ah 33,
 ri 35 (.xz ag 1 5 [.str ⟨#[]⟩,.int aj 0,.cj,.cj,.cj] [(0,5,.t 34)]),ri 36 (.app 5 96 (.t 30) (.t 35)),rm 5 36] ag []))) (bx [rm 12 7,
 wd 13 .add 12 1,rm 7 13] ag [])))))) (ay (rq [rm 37 6,ri 38 (.un .not (.t 37))] (wt 38 (bx [rm 39 5,rl 40 5 ah 3,
 ri 41 (.xz ag 1 5 [.str ⟨#[]⟩,.int aj 0,.cj,.cj,.cj] [(0,5,.t 40)]),ri 42 (.app 5 96 (.t 39) (.t 41)),rm 5 42] ag []) bq)) (rq [rm 43 5,
 rm 4 43] cd)))))
def Nt:eh:=
 rq [wo 4] (rq [wo 5] (ay (rq [wc 6 0] (dh 0 (iq (ay (rq [rm 7 6,rm 8 0,wn 9 8,
 wb 10 .lss 7 9] (wt 10 bq (ij 0))) (ay (dh 1 (rq [rm 13 0,rm 14 6,wi 15 5 13 14,rf 16 0 15,rl 17 1 ag 16,
 rm 18 1,wb 19 .neq 17 18] (wt 19 (bx [rm 20 5,rm 21 0,rm 22 6,wi 23 5 21 22,rl 24 5 ah 23,
 ri 25 (.xz ag 1 5 [.str ⟨#[]⟩,.int aj 0,.cj,.cj,.cj] [(0,5,.t 24)]),ri 26 (.app 5 96 (.t 20) (.t 25)),rm 5 26] ag []) bq))) (bx [rm 11 6,
 wd 12 .add 11 1,rm 6 12] ag [])))))) (rq [rm 27 5,rm 4 27] cd)))
def Nu(jt:Nat):eh:=
 rq [wo 6] (rq [wo 7] (ay (rq [wc 8 0] (dh 0 (iq (ay (rq [rm 13 8,rm 14 0,wn 15 14,
 wb 16 .lss 13 15] (wt 16 bq (ij 0))) (ay (dh 1 (rq [rm 19 0,rm 20 8,wi 21 5 19 20,rl 22 5 ah 21,
 ri 9 (.alloc [.str ⟨#[]⟩,.int aj 0,.cj,.cj,.cj]),ws 5 9 22] (ay (rq [rf 23 0 9,rl 24 1 ag 23,rm 25 1,
 wb 26 .eql 24 25] (wt 26 (bx [rm 27 2,rf 28 0 9,
 ws 1 28 27] ag []) bq)) (rq [wo 10] (ay (rq [wc 11 0] (dh 2 (iq (ay (rq [rm 29 11,rf 30 4 9,
 rl 31 1 ag 30,wn 32 31,wb 33 .lss 29 32] (wt 33 bq (ij 2))) (ay (dh 3 (rq [rf 36 4 9,rl 37 1 ag 36,rm 38 11,
 wi 39 1 37 38,rl 40 1 ag 39,rm 12 40] (ay (rq [rm 41 12,rm 42 1,wb 43 .eql 41 42] (wt 43 (bx [rm 44 2,
 rm 12 44] ag []) bq)) (bx [rm 45 10,rm 46 12,ri 47 (.xz ag 1 1 [.str ⟨#[]⟩] [(0,1,.t 46)]),ri 48 (.app 1 16 (.t 45) (.t 47)),
 rm 10 48] ag [])))) (bx [rm 34 11,wd 35 .add 34 1,rm 11 35] ag [])))))) (rq [rm 49 10,rf 50 4 9,
 ws 1 50 49] (ay (.freeze) (bx [rm 51 7,rl 52 5 ah 9,ri 53 (.call jt [.t 51,.t 52]),
 rm 7 53] ag [])))))))) (bx [rm 17 8,wd 18 .add 17 1,rm 8 18] ag [])))))) (rq [rm 54 7,rm 6 54] cd)))
def M3:eh:=
 rq [wo 6] (rq [wo 7] (ay (rq [wc 8 0] (dh 0 (iq (ay (rq [rm 13 8,rm 14 0,wn 15 14,
 wb 16 .lss 13 15] (wt 16 bq (ij 0))) (ay (dh 1 (rq [rm 19 0,rm 20 8,wi 21 5 19 20,rl 22 5 ah 21,
 ri 9 (.alloc [.str ⟨#[]⟩,.int aj 0,.cj,.cj,.cj]),
 ws 5 9 22] (rq [wo 10] (ay (rq [wc 11 0] (dh 2 (iq (ay (rq [rm 23 11,rf 24 1 9,rf 25 1 24,rl 26 1 ag 25,
 wn 27 26,wb 28 .lss 23 27] (wt 28 bq (ij 2))) (ay (dh 3 (rq [rf 31 1 9,rf 32 1 31,rl 33 1 ag 32,rm 34 11,
 wi 35 3 33 34,rl 36 3 ah 35,ri 12 (.alloc [.str ⟨#[]⟩,.int aj 0,.int aj 0]),ws 3 12 36] (ay (rq [rf 37 0 12,
 rl 38 1 ag 37,rm 39 1,wb 40 .eql 38 39] (wt 40 (bx [rm 41 2,rf 42 0 12,
 ws 1 42 41] ag []) bq)) (bx [rm 43 10,rl 44 3 ah 12,ri 45 (.xz ag 1 3 [.str ⟨#[]⟩,.int aj 0,.int aj 0] [(0,3,.t 44)]),
 ri 46 (.app 3 32 (.t 43) (.t 45)),rm 10 46] ag [])))) (bx [rm 29 11,wd 30 .add 29 1,rm 11 30] ag [])))))) (rq [rm 47 10,rf 48 1 9,rf 49 1 48,
 ws 1 49 47] (ay (.freeze) (bx [rm 50 7,rl 51 5 ah 9,ri 52 (.xz ag 1 5 [.str ⟨#[]⟩,.int aj 0,.cj,.cj,.cj] [(0,5,.t 51)]),
 ri 53 (.app 5 96 (.t 50) (.t 52)),rm 7 53] ag []))))))) (bx [rm 17 8,wd 18 .add 17 1,rm 8 18] ag [])))))) (rq [rm 54 7,rm 6 54] cd)))
def VA:List RI:=[rf 10 0 6,rl 11 1 ag 10,rf 12 0 2,rl 13 1 ag 12,ri 14 (.app 2 24 (.t 11) (.t 13)),rf 15 0 6,ws 1 15 14]
def UZ:List RI:=[rf 16 1 6,rl 17 1 ag 16,rf 18 1 2,rl 19 1 ag 18,ri 20 (.app 5 96 (.t 17) (.t 19)),rf 21 1 6,ws 1 21 20]
def IC:eh:=
 (ay (rq [rm 35 7,wd 36 .lss 35 0] (wt 36 (rq [ri 37 (.build [.cj,.cj] []),ws 2 4 37,wc 5 4] cd) bq)) (bx [rf 38 0 6,rl 39 1 ag 38,
 rm 40 7,rf 41 3 3,rl 42 1 ag 41,wi 43 2 39 40,rf 44 1 43,ws 1 44 42] ag []))
def IB(l5:Nat):eh:=
 (ay (rq [rm 47 7,wd 48 .geq 47 0] (wt 48 (rq [ri 49 (.build [.cj,.cj] []),ws 2 4 49,wc 5 7] cd) bq)) (bx [rf 50 0 2,rl 51 1 ag 50,
 rf 52 1 3,rl 53 1 ag 52,rf 54 3 3,rl 55 1 ag 54,ri 56 (.build [.str ⟨#[]⟩,.int aj 0] [(0,1,.t 53),(1,1,.t 55)]),
 ri 57 (.call l5 [.t 51,.t 56]),rf 58 0 6,ws 1 58 57] ag []))
def IA(j2:Nat):eh:=
 (ay (rq [rm 61 7,wd 62 .lss 61 0] (wt 62 (rq [ri 63 (.build [.cj,.cj] []),ws 2 4 63,wc 5 4] cd) bq)) (bx [rf 64 0 2,rl 65 1 ag 64,
 rf 66 1 3,rl 67 1 ag 66,ri 68 (.call j2 [.t 65,.t 67]),rf 69 0 6,ws 1 69 68] ag []))
def SE(jh jt:Nat):eh:=
 (bx [rf 72 1 2,rl 73 1 ag 72,rf 74 4 3,rf 75 0 74,rl 76 1 ag 75,ri 77 (.call jh [.t 73,.t 76]),rf 78 4 3,rl 79 5 ah 78,
 ri 80 (.call jt [.t 77,.t 79]),rf 81 1 6,ws 1 81 80] ah [])
def HZ(jh:Nat):eh:=
 (ay (rq [rm 84 8,wd 85 .lss 84 0] (wt 85 (rq [ri 86 (.build [.cj,.cj] []),ws 2 4 86,wc 5 4] cd) bq)) (bx [rf 87 1 2,rl 88 1 ag 87,
 rf 89 1 3,rl 90 1 ag 89,ri 91 (.call jh [.t 88,.t 90]),rf 92 1 6,ws 1 92 91] ag []))
def HY(je jr:Nat):eh:=
 (ay (rq [rm 95 8,wd 96 .lss 95 0] (wt 96 (rq [ri 97 (.build [.cj,.cj] []),ws 2 4 97,wc 5 4] cd) bq)) (ay (rq [rl 98 2 ah 2,rf 99 2 3,
 rl 100 1 ag 99,ri 101 (.call je [.t 98,.t 100]),wd 102 .geq 101 0] (wt 102 (rq [ri 103 (.build [.cj,.cj] []),ws 2 4 103,
 wc 5 7] cd) bq)) (bx [rf 104 1 2,rl 105 1 ag 104,rf 106 1 3,rl 107 1 ag 106,rf 108 2 3,rl 109 1 ag 108,
 ri 110 (.call jr [.t 105,.t 107,.t 109]),rf 111 1 6,ws 1 111 110] ag [])))
def HX(jl l5 j2 j8:Nat):eh:=
 (ay (rq [rm 114 7,wd 115 .lss 114 0] (wt 115 (rq [ri 116 (.build [.cj,.cj] []),ws 2 4 116,wc 5 4] cd) bq)) (ay (rq [rl 117 2 ah 2,
 rf 118 2 3,rl 119 1 ag 118,ri 120 (.call jl [.t 117,.t 119]),wd 121 .geq 120 0] (wt 121 (rq [ri 122 (.build [.cj,.cj] []),
 ws 2 4 122,wc 5 7] cd) bq)) (ay (bx [rf 123 0 2,rl 124 1 ag 123,rf 125 1 3,rl 126 1 ag 125,ri 127 (.call j2 [.t 124,
 (.t 126)]),rf 128 2 3,rl 129 1 ag 128,rf 130 0 2,rl 131 1 ag 130,rm 132 7,wi 133 2 131 132,rf 134 1 133,rl 135 1 ag 134,
 ri 136 (.build [.str ⟨#[]⟩,.int aj 0] [(0,1,.t 129),(1,1,.t 135)]),ri 137 (.call l5 [.t 127,.t 136]),rf 138 0 6,
 ws 1 138 137] ah []) (bx [rf 139 1 2,rl 140 1 ag 139,rf 141 1 3,rl 142 1 ag 141,rf 143 2 3,rl 144 1 ag 143,
 ri 145 (.call j8 [.t 140,.t 142,.t 144]),rf 146 1 6,ws 1 146 145] ag []))))
def a15:eh:=
 (rq [ri 32 (.build [.cj,.cj] []),ws 2 4 32,wc 5 1] cd)
def mE(om:Nat):eh:=
 (ay (rq [rl 147 2 ah 6,ri 148 (.call om [.t 147]),ri 149 (.un .not (.t 148))] (wt 149 (rq [ri 150 (.build [.cj,.cj] []),
 ws 2 4 150,wc 5 230] cd) bq)) (rq [rl 151 2 ah 6,ws 2 4 151,wc 5 0] cd))
def UY(jl je:Nat):eh:=
 (bx [rl 22 2 ah 2,rf 23 1 3,rl 24 1 ag 23,ri 25 (.call jl [.t 22,.t 24]),rl 26 2 ah 2,rf 27 1 3,rl 28 1 ag 27,
 ri 29 (.call je [.t 26,.t 28]),rm 7 25,rm 8 29] ah [])
def UQ(jl l5 j2 j8:Nat):eh:=
 (rq [wd 113 .eql 31 6,rm 112 113] (wt 112 (HX jl l5 j2 j8) a15))
def IQ(jl je l5 j2 jr j8:Nat):eh:=
 (rq [wd 94 .eql 31 5,rm 93 94] (wt 93 (HY je jr) (UQ jl l5 j2 j8)))
def BI(jl je l5 j2 jh jr j8:Nat):eh:=
 (rq [wd 83 .eql 31 4,
 rm 82 83] (wt 82 (HZ jh) (IQ jl je l5 j2 jr j8)))
def rU(jl je l5 j2 jh jt jr j8:Nat):eh:=
 (rq [wd 71 .eql 31 3,
 rm 70 71] (wt 70 (SE jh jt) (BI jl je l5 j2 jh jr j8)))
def nA(jl je l5 j2 jh jt jr j8:Nat):eh:=
 (rq [wd 60 .eql 31 2,
 rm 59 60] (wt 59 (IA j2) (rU jl je l5 j2 jh jt jr j8)))
def fS(jl je l5 j2 jh jt jr j8:Nat):eh:=
 (rq [wd 46 .eql 31 1,
 rm 45 46] (wt 45 (IB l5) (nA jl je l5 j2 jh jt jr j8)))
def nU(jl je l5 j2 jh jt jr j8:Nat):eh:=
 (rq [rf 30 0 3,rl 31 1 ag 30] (dh 0 (rq [wd 34 .eql 31 0,
 rm 33 34] (wt 33 IC (fS jl je l5 j2 jh jt jr j8)))))
def a56(jl je l5 j2 jh jt jr j8 om:Nat):eh:=
 ay (bx VA ag []) (ay (bx UZ ag []) (ay (UY jl je) (ay (nU jl je l5 j2 jh jt jr j8) (mE om))))
def R5(jl je l5 j2 jh jt jr j8 om:Nat):eh:=
 rq [wx 2 2 0,wx 3 9 1,ri 4 (.alloc [.cj,.cj]),wc 5 0] (rq [ri 9 (.build [.cj,.cj] []),ri 6 (.alloc [.cj,.cj]),
 ws 2 6 9] (a56 jl je l5 j2 jh jt jr j8 om))
def Tg(uo:Nat):eh:=
 rq [wx 1 9 0,ri 2 (.alloc [.int aj 0,.str ⟨#[]⟩,.str ⟨#[]⟩,.int aj 0,.str ⟨#[]⟩,.int aj 0,.cj,.cj,.cj])] (ay (bx [rf 3 0 1,
 rl 4 1 ag 3,rf 5 1 1,rl 6 1 ag 5,rf 7 2 1,rl 8 1 ag 7,rf 9 3 1,rl 10 1 ag 9,rf 11 4 1,rl 12 5 ah 11,ri 13 (.call uo [.t 12]),
 ri 14 (.build [.int aj 0,.str ⟨#[]⟩,.str ⟨#[]⟩,.int aj 0,.str ⟨#[]⟩,.int aj 0,.cj,.cj,.cj] [(0,1,.t 4),(1,1,.t 6),(2,1,.t 8),(3,1,.t 10),(4,5,.t 13)]),
 ws 9 2 14] ah []) cd)
def wg(vp Gf C9 Db Ca om Ee I8 Ga:Nat):eh:=
 rq [wx 2 2 0,wx 3 9 1,wf 4 ag] (ay (rq [rl 9 2 ah 2,ri 10 (.call vp [.t 9]),ri 11 (.un .not (.t 10)),
 rm 12 11,wl 13 12 ag 9 ah 3,rg 14 12 ag (.call Gf [.t 13]),rg 15 12 ag (.un .not (.t 14)),
 wq 16 12 15] (wt 16 (rq [ri 17 (.call C9 []),rm 4 17] cd) bq)) (rq [rl 19 2 ah 2,rl 20 9 ah 3,
 ri 21 (.call Db [.t 19,.t 20]),rm 18 21,rx 22 18 0,rx 23 18 1,ri 5 (.alloc [.cj,.cj]),ws 2 5 22,
 rm 6 23] (ay (rq [rl 24 2 ah 2,ri 25 (.call Ca [.t 24]),ri 26 (.call om [.t 25]),ri 27 (.un .not (.t 26))] (wt 27 (rq [rm 28 6,
 wd 29 .eql 28 230,rm 30 29,wl 31 30 ah 2 ah 5,rg 32 30 ah (.build [.cj,.cj] []),
 rg 33 30 ah (.call Ee [.t 31,.t 32]),wp 34 30 33,rm 35 34,rg 36 35 ah (.call C9 []),
 wp 37 35 36,rm 4 37] cd) bq)) (ay (bx [rl 39 2 ah 2,ri 40 (.call Ca [.t 39]),rl 41 9 ah 3,
 ri 42 (.call I8 [.t 41]),ri 43 (.call Ga [.t 40,.t 42]),rm 38 43,rx 44 38 0,rx 45 38 1,ri 7 (.zr 2),rn (.init 7 2 (.t 44)),
 rm 8 45] ah []) (rq [rm 46 6,rm 47 8,wb 48 .eql 46 47,rm 49 48,wl 50 49 ah 2 ah 5,wl 51 49 ah 2 ah 7,
 rg 52 49 ah (.call Ee [.t 50,.t 51]),wp 53 49 52,rm 54 53,rg 55 54 ah (.call C9 []),
 wp 56 54 55,rm 4 56] cd)))))
structure Pr8(P:Program)extends Pr7 P where
 jl:Nat
 l5:Nat
 j2:Nat
 jt:Nat
 jh:Nat
 jr:Nat
 j8:Nat
 Ga:Nat
 I8:Nat
 La:Nat
 oG:fu P jl {}=aa (R4,[.tmp 4],22)
 zV:fu P l5 {}=aa (V8,[.tmp 4],44)
 gQ:fu P j2 {}=aa (Nv,[.tmp 4],28)
 lG:fu P jt {}=aa (Pe,[.tmp 4],44)
 gO:fu P jh {}=aa (Nt,[.tmp 4],28)
 gP:fu P jr {dyn:=[17]}=aa (Nu jt,[.tmp 6],55)
 dE:fu P j8 {dyn:=[15]}=aa (M3,[.tmp 6],55)
 oH:fu P Ga {}=aa (R5 jl je l5 j2 jh jt jr j8 om,[.cell 4 2 ah,.tmp 5],152)
 uW:fu P I8 {}=aa (Tg uo,[.cell 2 9 ah],15)
 Tw:fu P La {}=aa (wg vp Gf C9 Db Ca om Ee I8 Ga,[.tmp 4],57)
abbrev Sp:=Int×Int
def Aa(p:Sp):D:= .agg [.int aj p.1,.int aj p.2]
def Ci(p:Sp):List D:=[.int aj p.1,.int aj p.2]
def dEd(e:Sp×Sp):D:= .agg [.int aj e.1.1,.int aj e.1.2,.int aj e.2.1,.int aj e.2.2]
def Sm(n:Int):Prop:= -10000<=n/\n<=10000
def SmP(p:Sp):Prop:=Sm p.1/\Sm p.2
theorem oD{x y:Int}(hx: -20000<=x/\x<=20000)(hy: -20000<=y/\y<=20000): -400000000<=x*y/\x*y<=400000000:=by
 have a:x.natAbs<=20000:=by lia
 have b:y.natAbs<=20000:=by lia
 have:=ae0 a b;rw[<-Int.natAbs_mul]at this;lia
def gu(a b c:Sp):Int:=(b.1-a.1)*(c.2-a.2)-(b.2-a.2)*(c.1-a.1)
def sgn(n:Int):Int:=if n<0 then-1 else if 0<n then 1 else 0
section
variable{P:Program}(A:Pr P)
theorem Wc{a b c:Sp}(d:SmP a)(hb:SmP b)(e:SmP c):iv P A.pn [Aa a,Aa b,Aa c] (.int aj (gu a b c)):=by
 refine ez A.mo A.oZ (by simp) ?_;show l7 P Rh (ly _ _) _;obtain⟨⟨a1,k⟩,a3,a4⟩:=d;obtain⟨⟨l,b2⟩,b3,b4⟩:=hb;obtain⟨⟨c1,m⟩,c3,n⟩:=e;have w1:=dr (b.1-a.1) (by lia) (by lia);have w2:=dr (c.2-a.2) (by lia) (by lia);have f:=dr (b.2-a.2) (by lia) (by lia);have g:=dr (c.1-a.1) (by lia) (by lia);have o:=oD (x:=b.1-a.1) (y:=c.2-a.2) (by lia) (by lia);have p:=oD (x:=b.2-a.2) (y:=c.1-a.1) (by lia) (by lia);have h:=dr ((b.1-a.1)*(c.2-a.2)) (by lia) (by lia);have i:=dr ((b.2-a.2)*(c.1-a.1)) (by lia) (by lia);have j:=dr ((b.1-a.1)*(c.2-a.2)-(b.2-a.2)*(c.1-a.1)) (by lia) (by lia);simp only[Rh,Aa,go_sem,ab,dw,ft,fk,fp,ak,ao,reduceCtorEq,w1,w2,f,g,h,i,j,gu]
theorem tC(n:Int):iv P A.Bx [.int aj n] (.int aj (sgn n)):=by
 refine ez A.mo A.uU (by simp) ?_;show l7 P Ke (ly _ _) _;by_cases a:n<0
 ·simp only[Ke,go_sem,ab,cu,reduceCtorEq,a,sgn]
 by_cases b:0<n
 ·simp only[Ke,go_sem,ab,cu,reduceCtorEq,a,b,sgn]
 simp only[Ke,go_sem,ab,cu,reduceCtorEq,a,b,sgn]
theorem WU{a b:Sp}(c:SmP a)(hb:SmP b):iv P A.xx [Aa a,Aa b] (Aa (a.1-b.1,a.2-b.2)):=by
 refine ez A.mo A.oW (by simp) ?_;show l7 P Re (ly _ _) _;obtain⟨⟨a1,d⟩,a3,a4⟩:=c;obtain⟨⟨e,b2⟩,b3,b4⟩:=hb;have w1:=dr (a.1-b.1) (by lia) (by lia);have w2:=dr (a.2-b.2) (by lia) (by lia);simp only[Re,Aa,go_sem,ab,dw,ft,fk,fp,ak,ao,reduceCtorEq,w1,w2]
end
def mn(a b:Int):Int:=if b<a then b else a
def mx(a b:Int):Int:=if a<b then b else a
def onB(e:Sp×Sp)(x:Sp):Bool:=gu e.1 e.2 x==0&&(decide (mn e.1.1 e.2.1<=x.1)&&(decide (x.1<=mx e.1.1 e.2.1)&&(decide (mn e.1.2 e.2.2<=x.2)&&decide (x.2<=mx e.1.2 e.2.2))))
def Cx(e f:Sp×Sp):Bool:=decide (sgn (gu e.1 e.2 f.1)*sgn (gu e.1 e.2 f.2)<0)&&decide (sgn (gu f.1 f.2 e.1)*sgn (gu f.1 f.2 e.2)<0)
def SmE(e:Sp×Sp):Prop:=SmP e.1/\SmP e.2
theorem a0v(n:Int):sgn n= -1\/sgn n=0\/sgn n=1:=by unfold sgn;split<;>(try split)<;>lia
theorem sT(a b:Int): -1<=sgn a*sgn b/\sgn a*sgn b<=1:=by
 rcases a0v a with h|h|h<;>rcases a0v b with k|k|k<;>simp[h,k]
def clk(u v:Sp):Int:=if u.1*v.2-u.2*v.1<0 then 0 else if 0<u.1*v.2-u.2*v.1 then 2 else if u.1*v.1+u.2*v.2<0 then 1 else 3
def Dh(u x y:Sp):Bool:=if clk u x=clk u y then decide (x.1*y.2-x.2*y.1<0)else decide (clk u x<clk u y)
section
variable{P:Program}(A:Pr P)
theorem a9b{e:Sp×Sp}{x:Sp}(i:SmE e)(hx:SmP x):iv P A.Mg [dEd e,Aa x] (.bool (onB e x)):=by
 refine ez A.mo A.EN (by simp) ?_;show l7 P (Y4 A.pn) (ly _ _) _;have h:=Wc A i.1 i.2 hx;simp only[Aa]at h;simp only[Y4,Aa,dEd,go_sem,ab,ak,ao];refine Fw h ?_;unfold onB mn mx;by_cases b:gu e.1 e.2 x=0
 ·simp only[go_sem,ab,dw,ak,ao,reduceCtorEq,b,bne_self_eq_false,ff];by_cases d:(if e.2.1<e.1.1 then e.2.1 else e.1.1)<=x.1
  ·simp only[go_sem,ab,dw,ak,ao,reduceCtorEq,d];by_cases f:x.1<=(if e.1.1<e.2.1 then e.2.1 else e.1.1)
   ·simp only[go_sem,ab,dw,ft,fk,fp,ak,ao,reduceCtorEq,f];by_cases g:(if e.2.2<e.1.2 then e.2.2 else e.1.2)<=x.2
    ·simp only[go_sem,ab,dw,ft,fk,fp,ak,ao,reduceCtorEq,g]
    simp only[go_sem,ab,g,fh]
   simp only[go_sem,ab,f,fh]
  simp only[go_sem,ab,d,fh]
 have c:(gu e.1 e.2 x==0)=false:=by simpa using b
 have a:(gu e.1 e.2 x !=0)=true:=by simpa using b
 simp only[go_sem,ab,reduceCtorEq,c,a,fh]
theorem CN{e f:Sp×Sp}(a:SmE e)(b:SmE f):iv P A.Ce [dEd e,dEd f] (.bool (Cx e f)):=by
 refine ez A.mo A.dG (by simp) ?_;show l7 P (M4 A.pn A.Bx) (ly _ _) _;have d:=Wc A a.1 a.2 b.1;have g:=Wc A a.1 a.2 b.2;have h:=Wc A b.1 b.2 a.1;have i:=Wc A b.1 b.2 a.2;have j:=sT (gu e.1 e.2 f.1) (gu e.1 e.2 f.2);have b2:=sT (gu f.1 f.2 e.1) (gu f.1 f.2 e.2);have w1:=dr _ (by lia) (by lia:sgn (gu e.1 e.2 f.1)*sgn (gu e.1 e.2 f.2)<=9223372036854775807);have w2:=dr _ (by lia) (by lia:sgn (gu f.1 f.2 e.1)*sgn (gu f.1 f.2 e.2)<=9223372036854775807);simp only[Aa]at d g h i;simp only[M4,dEd,go_sem,ab,ak,ao];refine Fw d ?_;simp only[go_sem,ab];refine gq (tC A _) ?_;simp only[go_sem,ab,ak,ao];refine Fw g ?_;simp only[go_sem,ab];refine gq (tC A _) ?_;simp only[go_sem,ab,reduceCtorEq,w1];by_cases c:sgn (gu e.1 e.2 f.1)*sgn (gu e.1 e.2 f.2)<0
 ·simp only[go_sem,ab,ak,ao,c];refine Fw h ?_;simp only[go_sem,ab];refine gq (tC A _) ?_;simp only[go_sem,ab,ak,ao];refine Fw i ?_;simp only[go_sem,ab];refine gq (tC A _) ?_;simp only[go_sem,ab,reduceCtorEq,w2,Cx,c]
 simp only[go_sem,ab,c,Cx,fh]
end
def dW(s:ByteArray)(i:Nat):Nat:=match s[i]? with|some u=>u.toNat|none=>0
def dV(i n:Nat):Bool:=(decide (97<=n)&&decide (n<=122))||(decide (i≠0)&&(decide (48<=n)&&decide (n<=57)))
def zb(s:ByteArray):Bool:=decide (1<=s.size)&&(decide (s.size<=20)&&(fc s.size).all λi=>dV i (dW s i))
theorem bn(k:Nat):((k:Int)).toNat=k:=rfl
theorem Wp{k:Nat}(h:k≠0):((k:Int)==0)=false:=by simp;lia
section
variable{P:Program}(A:Pr P)
theorem E9{s:ByteArray}{k:Nat}(a:k<s.size)(h:dV k (dW s k)=ag):zb s=false:=by
 unfold zb;rw[OI,OI];refine .inr (.inr ?_);rw[iJ];exact⟨k,er.2 a,by simp[h]⟩
theorem qX{s:ByteArray}(a:1<=s.size)(b:s.size<=20)(h:∀i,i<s.size->dV i (dW s i)=ah):zb s=true:=by
 unfold zb;simp only[a,b,decide_true,rv];rw[dg];exact λi c=>h i (er.1 c)
theorem Eh{k n:Nat}(a:¬(97<=n/\n<=122))(b:k=0\/n<48\/57<n):dV k n=false:=by
 unfold dV;simp only[K4,OI,decide_eq_false_iff_not];constructor<;>lia
theorem Wo{k n:Nat}(h:(97<=n/\n<=122)\/(k≠0/\48<=n/\n<=57)):dV k n=true:=by
 unfold dV;simp only[Oi,dc,decide_eq_true_eq];exact h
theorem CR(s:ByteArray):iv P A.um [.str s] (.bool (zb s)):=by
 refine ez A.mo A.uT (by simp) ?_;show l7 P Kd (ly _ _) _;by_cases g:(s.size:Int)<1
 ·have:zb s=false:=by unfold zb;rw[decide_eq_false (by lia)];rfl
  simp only[Kd,go_sem,ab,reduceCtorEq,g,this]
 by_cases j:(20:Int)<s.size
 ·have h:¬s.size<=20:=by lia
  have:zb s=false:=by unfold zb;simp only[h,decide_false,fh,sf]
  simp only[Kd,go_sem,ab,reduceCtorEq,g,j,this]
 simp only[Kd,go_sem,ab,reduceCtorEq,g,j];refine gf s.size (λk s'=>s'.tmp 0= .d (.str s)/\s'.tmp 3= .d (.int aj k)/\∀i,i<k->dV i (dW s i)=ah) ?_ ?_
 ·simp[ar]
 rintro k s' q ⟨e0,b,l⟩;by_cases m:(k:Int)<s.size
 ·have c:k<s.size:=by lia
  obtain⟨u,f⟩:∃u,s[k]? =aa u:=⟨s[k],by simp[c]⟩
  have p:dW s k=u.toNat:=by unfold dW;rw[f]
  have n:=dr ((k:Int)+1) (by lia) (by lia)
  have nx:∀ok:dV k (dW s k)=ah,∀i,i<k+1->dV i (dW s i)=true:=λok i o=>by
   by_cases e:i=k
   ·subst e;exact ok
   exact l i (by lia)
  simp only[go_sem,ab,reduceCtorEq,e0,b,m,bn,f,aw];by_cases q1:(97:Int)<=u.toNat
  ·by_cases q2:(u.toNat:Int)<=122
   ·simp only[go_sem,ab,reduceCtorEq,e0,b,bn,f,aw,q1,q2,n];exact⟨c,by simp,nx (Wo (by lia))⟩
   simp only[go_sem,ab,reduceCtorEq,e0,b,bn,f,aw,q1,q2];by_cases q3:k=0
   ·subst q3;simp only[go_sem,ab,fZ,ff];rw[E9 c (Eh (by lia) (by lia))]
   have a:=Wp q3
   have q4:¬(u.toNat:Int)<48:=by lia
   have q5:(57:Int)<u.toNat:=by lia
   simp only[go_sem,ab,reduceCtorEq,e0,b,bn,f,aw,a,q4,q5];rw[E9 c (Eh (by lia) (by lia))]
  simp only[go_sem,ab,reduceCtorEq,b,q1];by_cases q3:k=0
  ·subst q3;simp only[go_sem,ab,fZ,ff];rw[E9 c (Eh (by lia) (by lia))]
  have a:=Wp q3;by_cases q4:(u.toNat:Int)<48
  ·simp only[go_sem,ab,reduceCtorEq,e0,b,bn,f,aw,a,q4];rw[E9 c (Eh (by lia) (by lia))]
  by_cases q5:(57:Int)<u.toNat
  ·simp only[go_sem,ab,reduceCtorEq,e0,b,bn,f,aw,a,q4,q5];rw[E9 c (Eh (by lia) (by lia))]
  simp only[go_sem,ab,reduceCtorEq,e0,b,bn,f,aw,a,q4,q5,n];exact⟨c,by simp,nx (Wo (by lia))⟩
 simp only[go_sem,ab,reduceCtorEq,e0,b,m];rw[qX (by lia) (by lia) λi o=>l i (by lia)]
theorem Za(s:ByteArray):iv P A.lb [.str s] (.bool (zb s)):=by
 refine ez A.mo A.dM (by simp) ?_;show l7 P F0 (ly _ _) _;by_cases l:(s.size:Int)<1
 ·have:zb s=false:=by unfold zb;rw[decide_eq_false (by lia)];rfl
  simp only[F0,go_sem,ab,reduceCtorEq,l,this]
 by_cases n:(20:Int)<s.size
 ·have m:¬s.size<=20:=by lia
  have:zb s=false:=by unfold zb;simp only[m,decide_false,fh,sf]
  simp only[F0,go_sem,ab,reduceCtorEq,l,n,this]
 simp only[F0,go_sem,ab,reduceCtorEq,l,n];refine gf s.size (λk s'=>s'.tmp 0= .d (.str s)/\s'.tmp 15= .d (.int aj k)/\s'.tmp 14= .d (.int aj s.size)/\∀i,i<k->dV i (dW s i)=ah) ?_ ?_
 ·simp[ar]
 rintro k s' x ⟨e0,g,f,o⟩;by_cases r:(k:Int)<s.size
 ·have h:k<s.size:=by lia
  obtain⟨u,p⟩:∃u,s[k]? =aa u:=⟨s[k],by simp[h]⟩
  have w:dW s k=u.toNat:=by unfold dW;rw[p]
  have t:=dr ((k:Int)+1) (by lia) (by lia)
  have nx:∀ok:dV k (dW s k)=ah,∀i,i<k+1->dV i (dW s i)=true:=λok i v=>by
   by_cases e:i=k
   ·subst e;exact ok
   exact o i (by lia)
  have j:¬(97<=u.toNat/\u.toNat<=122)->∀q:Prop,(k=0->q)->(k≠0->(u.toNat:Int)<48->q)->(k≠0->¬(u.toNat:Int)<48->(57:Int)<u.toNat->q)->(k≠0->¬(u.toNat:Int)<48->¬(57:Int)<u.toNat->q)->q:=λ_ q a b c d=>by
   by_cases q3:k=0
   ·exact a q3
   by_cases q4:(u.toNat:Int)<48
   ·exact b q3 q4
   by_cases q5:(57:Int)<u.toNat
   ·exact c q3 q4 q5
   exact d q3 q4 q5
  simp only[go_sem,ab,reduceCtorEq,e0,f,g,r,bn,p,aw];by_cases q1:(u.toNat:Int)<97
  ·simp only[go_sem,ab,reduceCtorEq,q1];refine j (by lia) _ (λq3=>?_) (λq3 q4=>?_) (λq3 q4 q5=>?_) (λq3 q4 q5=>?_)
   ·subst q3;simp only[go_sem,ab,fZ,ff];rw[E9 h (Eh (by lia) (by lia))]
   ·simp only[go_sem,ab,reduceCtorEq,Wp q3,q4];rw[E9 h (Eh (by lia) (by lia))]
   ·simp only[go_sem,ab,reduceCtorEq,Wp q3,q4,q5];rw[E9 h (Eh (by lia) (by lia))]
   simp only[go_sem,ab,reduceCtorEq,e0,f,g,Wp q3,q4,q5,t];exact⟨h,by simp,nx (Wo (by lia))⟩
  by_cases q2:(122:Int)<u.toNat
  ·simp only[go_sem,ab,reduceCtorEq,q1,q2];refine j (by lia) _ (λq3=>?_) (λq3 q4=>?_) (λq3 q4 q5=>?_) (λq3 q4 q5=>?_)
   ·subst q3;simp only[go_sem,ab,fZ,ff];rw[E9 h (Eh (by lia) (by lia))]
   ·lia
   ·simp only[go_sem,ab,reduceCtorEq,Wp q3,q4,q5];rw[E9 h (Eh (by lia) (by lia))]
   lia
  simp only[go_sem,ab,reduceCtorEq,e0,f,g,q1,q2,t];exact⟨h,by simp,nx (Wo (by lia))⟩
 simp only[go_sem,ab,reduceCtorEq,f,g,r];rw[qX (by lia) (by lia) λi v=>o i (by lia)]
end
structure Pm where
 n:ByteArray
 v:Int
structure Vl where
 n:ByteArray
 t:Int
 a:Int
def mg(p:Pm):List D:=[.str p.n,.int aj p.v]
def B4(v:Vl):List D:=[.str v.n,.int aj v.t,.int aj v.a]
def ki(l:List Pm):D:= .gd 2 (l.map mg)
def qx(l:List Vl):D:= .gd 3 (l.map B4)
def Rv(n:Int):Bool:=decide (-1000000<=n)&&decide (n<=1000000)
def isE(s:ByteArray):Bool:=s.toList==(⟨#[]⟩:ByteArray).toList
def strLt(a b:ByteArray):Bool:=Ws a.toList b.toList
def Lx(v:Vl):Bool:=Rv v.t&&(Rv v.a&&(zb v.n||(isE v.n&&v.t==0)))
def xt(l:List ByteArray)(i:Nat):Bool:=decide (i=0)||match l[i-1]?,l[i]? with|some a,aa b=>strLt a b|_,_=>ag
def oA(l:List Pm)(i:Nat):Bool:=match l[i]? with|some p=>zb p.n&&(Rv p.v&&xt (l.map Pm.n) i)|none=>ag
def Av(l:List Pm):Bool:=decide (l.length<=20)&&(fc l.length).all (oA l)
theorem all_false{f:Nat->Bool}{n k:Nat}(a:k<n)(h:f k=ag):(fc n).all f=false:=by
 rw[iJ];exact⟨k,er.2 a,by simp[h]⟩
theorem all_true{f:Nat->Bool}{n:Nat}(h:∀i,i<n->f i=ah):(fc n).all f=true:=by
 rw[dg];exact λi a=>h i (er.1 a)
theorem rz{p:Nat->Prop}{k:Nat}(h:∀i,i<k->p i)(a:p k):∀i,i<k+1->p i:=λi b=>by
 by_cases e:i=k
 ·subst e;exact a
 exact h i (by lia)
theorem Jv{k:Nat}(h:0<(k:Int)):((k:Int)-1).toNat=k-1:=by lia
section
variable{P:Program}(A:Pr P)
theorem jK(n:Int):iv P A.v8 [.int aj n] (.bool (Rv n)):=by
 refine ez A.mo A.lH (by simp) ?_;show l7 P Kc (ly _ _) _;by_cases a: -1000000<=n
 ·simp only[Kc,go_sem,ab,cu,reduceCtorEq,Rv,a]
 simp only[Kc,go_sem,ab,cu,reduceCtorEq,Rv,a,fh]
theorem jI(n:Int):iv P A.ss [.int aj n] (.bool (Rv n)):=by
 refine ez A.mo A.dL (by simp) ?_;show l7 P Hz (ly _ _) _;by_cases a: -1000000<=n
 ·simp only[Hz,go_sem,ab,cu,reduceCtorEq,Rv,a]
 simp only[Hz,go_sem,ab,cu,reduceCtorEq,Rv,a,fh]
theorem tH(v:Vl):iv P A.An [.agg (B4 v)] (.bool (Lx v)):=by
 refine ez A.mo A.Yi (by simp) ?_;show l7 P (Jb A.v8 A.um) (ly _ _) _;unfold Lx;simp only[Jb,B4,go_sem,ab,ak,ao];refine gq (jK A _) ?_;cases c:Rv v.t
 ·simp only[go_sem,ab,fh]
 simp only[go_sem,ab,ak];refine gq (jK A _) ?_;cases d:Rv v.a
 ·simp only[go_sem,ab,fh]
 simp only[go_sem,ab,ak,ao];refine gq (CR A _) ?_;cases e:zb v.n
 ·cases b:isE v.n
  ·simp only[isE]at b;simp only[go_sem,ab,ak,ao,b,fh,R0]
  simp only[isE]at b;simp only[go_sem,ab,ak,ao,reduceCtorEq,b,C0]
 simp only[go_sem,ab,D1]
theorem Xd(l:List Pm):iv P A.qy [ki l] (.bool (Av l)):=by
 refine ez A.mo A.X0 (by simp) ?_;show l7 P (Er A.um A.v8) (ly _ _) _;unfold Av;by_cases m:(20:Int)<l.length
 ·have c:¬l.length<=20:=by lia
  simp only[Er,ki,go_sem,ab,reduceCtorEq,al,m,c,fh]
 have c:l.length<=20:=by lia
 simp only[Er,ki,go_sem,ab,reduceCtorEq,al,m,c];refine gf l.length (λk s'=>s'.tmp 0= .d (.gd 2 (l.map mg))/\s'.tmp 3= .d (.int aj k)/\∀i,i<k->oA l i=ah) ?_ ?_
 ·simp[ar]
 rintro k s' t ⟨e0,e,j⟩;by_cases p:(k:Int)<l.length
 ·have b:k<l.length:=by lia
  have h:(l.map mg)[k]? =aa [.str l[k].n,.int aj l[k].v]:=by simp[b,mg]
  have q:=dr ((k:Int)+1) (by lia) (by lia)
  have g:oA l k=(zb l[k].n&&(Rv l[k].v&&xt (l.map Pm.n) k)):=by unfold oA;simp[b]
  simp only[go_sem,ab,ak,ao,reduceCtorEq,e0,e,al,p,bn,h,aw];refine gq (CR A _) ?_;cases q1:zb l[k].n
  ·simp only[go_sem,ab];rw[all_false b (by rw[g,q1];rfl)]
  simp only[go_sem,ab,ak,reduceCtorEq,e0,e,h,aw,bn];refine gq (jK A _) ?_;cases q2:Rv l[k].v
  ·simp only[go_sem,ab];rw[all_false b (by rw[g,q1,q2];rfl)]
  by_cases q3:(0:Int)<k
  ·have f:(l.map mg)[k-1]? =aa [.str l[k-1].n,.int aj l[k-1].v]:=by
    have:k-1<l.length:=by lia
    simp[this,mg]
   have w1:=dr ((k:Int)-1) (by lia) (by lia)
   have z:(0:Int)<=(k:Int)-1:=by lia
   have o:xt (l.map Pm.n) k=strLt l[k-1].n l[k].n:=by
    unfold xt
    have r:k≠0:=by lia
    have:k-1<l.length:=by lia
    simp[r,this,b]
   cases q4:strLt l[k-1].n l[k].n
   ·have a:=q4;unfold strLt at a;simp only[go_sem,ab,ak,ao,reduceCtorEq,e0,e,q3,w1,Jv q3,f,h,z,bn,aw,a];rw[all_false b (by rw[g,q1,q2,o,q4];rfl)]
   have a:=q4;unfold strLt at a;simp only[go_sem,ab,ak,ao,reduceCtorEq,e0,e,q3,w1,Jv q3,f,h,z,bn,aw,a,q];exact⟨b,by simp,rz j (by rw[g,q1,q2,o,q4];rfl)⟩
  simp only[go_sem,ab,reduceCtorEq,e0,e,q3,q];exact⟨b,by simp,rz j (by rw[g,q1,q2];unfold xt;simp;lia)⟩
 simp only[go_sem,ab,reduceCtorEq,e0,e,al,p];rw[all_true λi s=>j i (by lia)]
end
theorem iv.w0{P:Program}{f sz:Nat}{a:List D}{r:D}(h:iv P f (.gd sz []::a) r):iv P f (.cj::a) r:=by
 refine⟨h.1,λG w vs d e b=>h.2 G w vs d e λi x v hx c=>?_⟩
 cases i with
 |zero=>
  simp only[iw,av]at hx;subst hx;exact Mc G v (b 0 .cj v rfl c)
 |succ i=>exact b (i+1) x v hx c
theorem iv.w1{P:Program}{f sz:Nat}{a:D}{b:List D}{r:D}(h:iv P f (a:: .gd sz []::b) r):iv P f (a:: .cj::b) r:=by
 refine⟨h.1,λG w vs e g c=>h.2 G w vs e g λi x v hx d=>?_⟩
 match i with
 |0=>exact c 0 x v hx d
 |1=>
  simp only[mq,iw,av]at hx;subst hx;exact Mc G v (c 1 .cj v rfl d)
 |i+2=>exact c (i+2) x v hx d
def zC(k:Nat):ByteArray:=[(⟨#[98,111,120]⟩:ByteArray),⟨#[112,114,105,115,109]⟩,⟨#[115,108,97,110,116]⟩,⟨#[112,121,114,97,109,105,100]⟩,⟨#[117,110,105,111,110]⟩,⟨#[105,110,116,101,114,115,101,99,116]⟩,⟨#[115,117,98,116,114,97,99,116]⟩,⟨#[99,108,105,112]⟩,⟨#[115,104,105,102,116]⟩,⟨#[115,121,109,109,101,116,114,121]⟩,⟨#[115,99,97,108,101]⟩,⟨#[115,117,109]⟩,⟨#[99,111,114,101]⟩,⟨#[114,101,112,101,97,116]⟩].getD k ⟨#[]⟩
def Ji(k:Nat):Int:=([6,2,4,4,0,0,0,4,3,1,2,6,6,4]:List Int).getD k 0
def kIn(k:Nat):Int:=([0,0,0,0,2,2,2,1,1,1,1,1,1,1]:List Int).getD k 0
def qt(s:ByteArray):List D:=[.str s]
def kn(l:List ByteArray):D:= .gd 1 (l.map qt)
def i6(a b:ByteArray):Bool:=a.toList==b.toList
def hasB(l:List ByteArray)(s:ByteArray):Bool:=l.any λx=>i6 x s
section
variable{P:Program}(A:Pr P)
theorem HC:iv P A.Eb [] (.gd 1 ((fc 14).map λk=>[.str (zC k)])):=by
 refine ez A.mo A.oO (by simp) ?_;show l7 P Ra (ly _ _) _;simp only[Ra,go_sem,ak,ao,reduceCtorEq,cw];rfl
theorem LX{k:Nat}(h:k<14):((fc 14).map λk=>[D.str (zC k)])[k]? =aa [.str (zC k)]:=by
 rw[dn,Nk h];rfl
theorem CS(k:Int):iv P A.Cd [.int aj k] (.str (if 0<=k/\k<14 then zC k.toNat else⟨#[]⟩)):=by
 refine ez A.mo A.dF (by simp) ?_;show l7 P (Hy A.Eb) (ly _ _) _;by_cases c:k<0
 ·have a:¬0<=k:=by lia
  simp only[Hy,go_sem,ab,reduceCtorEq,c,a,false_and]
 have a:0<=k:=by lia
 simp only[Hy,go_sem,ab,reduceCtorEq,c,a];refine Ic (HC A) ?_;by_cases d:(14:Int)<=k
 ·have b:¬k<14:=by lia
  simp only[V4,jB,wO,tK,N0,wV,vI,V6,cF,RB,DJ,RF,yL,aI,Dk,AL,a7r,ar,PS.vz,ab,mq,lg.qi,my.app,PS.put,my.uk,afd,Pz,vX,pN,fC,bY,CZ,Zg,a5o,or_true,reduceCtorEq,decide_true,ge_iff_le,da,bp,eq_self,al,a8u,d,b]
 have b:k<14:=by lia
 simp only[xS,V4,jB,wP,N0,V6,cF,DJ,RF,yL,RK,aI,Dk,AL,ar,PS.vz,ab,mq,lg.qi,afi,my.app,PS.put,my.uk,afd,Pz,vX,pN,fC,a5o,or_true,reduceCtorEq,decide_false,ge_iff_le,da,bp,eq_self,al,a8u,d,b];refine Ic (HC A) ?_;simp only[tK,N0,vI,V6,RB,RG,RE,aI,AL,ar,ab,iw,mq,Ae,PS.put,Cw,Ld,afk,afl,mkd,bY,CZ,Zg,gj,and_self,bm,adp,reduceCtorEq,da,bp,eq_self,a,LX (show k.toNat<14 by lia)]
theorem DX{k:Nat}(h:k<14):([[D.int aj 6],[D.int aj 2],[D.int aj 4],[D.int aj 4],[D.int aj 0],[D.int aj 0],[D.int aj 0],[D.int aj 4],[D.int aj 3],[D.int aj 1],[D.int aj 2],[D.int aj 6],[D.int aj 6],[D.int aj 4]]:List (List D))[k]? =aa [.int aj (Ji k)]:=by
 match k,h with
 |0,_|1,_|2,_|3,_|4,_|5,_|6,_|7,_|8,_|9,_|10,_|11,_|12,_|13,_=>rfl
 |n+14,h=>lia
theorem PZ{k:Nat}(h:k<14):iv P A.F9 [.int aj k] (.int aj (Ji k)):=by
 refine ez A.mo A.lJ (by simp) ?_;show l7 P Pg (ly _ _) _
 have a:(k:Int)<14:=by lia
 simp only[Pg,go_sem,ab,ak,ao,reduceCtorEq,cw,bn,aw,a,DX h]
theorem YX{k:Nat}(h:k<14):([[D.int aj 0],[D.int aj 0],[D.int aj 0],[D.int aj 0],[D.int aj 2],[D.int aj 2],[D.int aj 2],[D.int aj 1],[D.int aj 1],[D.int aj 1],[D.int aj 1],[D.int aj 1],[D.int aj 1],[D.int aj 1]]:List (List D))[k]? =aa [.int aj (kIn k)]:=by
 match k,h with
 |0,_|1,_|2,_|3,_|4,_|5,_|6,_|7,_|8,_|9,_|10,_|11,_|12,_|13,_=>rfl
 |n+14,h=>lia
theorem xM{k:Nat}(h:k<14):iv P A.F8 [.int aj k] (.int aj (kIn k)):=by
 refine ez A.mo A.lI (by simp) ?_;show l7 P Pf (ly _ _) _
 have a:(k:Int)<14:=by lia
 simp only[Pf,go_sem,ab,ak,ao,reduceCtorEq,cw,bn,aw,a,YX h]
end
def uu(l:List Sp):D:= .gd 2 (l.map Ci)
def kh(ls:List (List Sp)):D:= .gd 1 (ls.map λl=>[uu l])
def Ep(e:Sp×Sp):List D:=[.int aj e.1.1,.int aj e.1.2,.int aj e.2.1,.int aj e.2.2]
def T3(l:List (Sp×Sp)):D:= .gd 4 (l.map Ep)
def u9(l:List Sp)(k:Nat):Sp×Sp:=(l.getD k (0,0),l.getD ((k+1)%l.length) (0,0))
def jb(l:List Sp):List (Sp×Sp):=(fc l.length).map (u9 l)
def dm(ls:List (List Sp)):List (Sp×Sp):=ls.flatMap jb
theorem qh(l:List Sp):(jb l).length=l.length:=by simp[jb]
theorem Pq{l:List Sp}{k:Nat}(h:k<l.length):(jb l).take (k+1)=(jb l).take k++[u9 l k]:=by
 rw[j3,jb];simp[h]
theorem Yo{ls:List (List Sp)}{i:Nat}(h:i<ls.length):dm (ls.take (i+1))=dm (ls.take i)++jb ls[i]:=by
 unfold dm;rw[j3,adt];simp[h]
theorem Mw{ls:List (List Sp)}{i k:Nat}(h:i<ls.length)(a:k<=ls[i].length):(dm (ls.take i)++(jb ls[i]).take k).length<=(dm ls).length:=by
 have e:dm ls=dm (ls.take (i+1))++dm (ls.drop (i+1)):=by
  unfold dm;rw[<-adt,Ej]
 rw[e,Yo h];simp only[dz,ey];lia
theorem bK{k n:Nat}:((k:Int)+1).tmod n=(((k+1)%n:Nat):Int):=by
 rw[a5n (by lia)];exact(Int.natCast_emod (k+1) n).symm
theorem Es{l:List Sp}{k:Nat}(h:k<l.length):(l.map Ci)[k]? =aa [.int aj (l.getD k (0,0)).1,.int aj (l.getD k (0,0)).2]:=by
 simp[h,Ci,cz]
theorem Fo{ls:List (List Sp)}{i:Nat}(h:i<ls.length):(ls.map λl=>[uu l])[i]? =aa [.gd 2 (ls[i].map Ci)]:=by
 simp[h,uu]
section
variable{P:Program}(A:Pr P)
theorem XE(ls:List (List Sp))(B:ls.length<=2^30)(C:(dm ls).length<=2^30):iv P A.Ec [kh ls] (T3 (dm ls)):=by
 have f:iv P A.Ec [kh ls] (if(dm ls).map Ep=[]then .cj else .gd 4 ((dm ls).map Ep)):=by
  refine ez A.mo A.oY (by simp) ?_;show l7 P Rg (ly _ _) _;simp only[Rg,kh,go_sem];refine gf ls.length (λi s'=>s'.tmp 0= .d (.gd 1 (ls.map λl=>[uu l]))/\s'.tmp 4= .d (.int aj i)/\s'.base=0/\u0 s' 45 4 ((dm (ls.take i)).map Ep) (s'.tmp 3)) ?_ ?_
  ·refine⟨by simp[ar],by simp[ar],rfl,?_⟩;simp only[ar,reduceIte,ab];exact u0.nil
  rintro i s' E ⟨e0,a,b,acc⟩;by_cases s:(i:Int)<ls.length
  ·have c:i<ls.length:=by lia
   have wi:=dr ((i:Int)+1) (by lia) (by lia);have e:=Fo c;simp only[go_sem,ab,reduceCtorEq,e0,a,al,s];refine gf ls[i].length (λk s'=>s'.tmp 0= .d (.gd 1 (ls.map λl=>[uu l]))/\s'.tmp 4= .d (.int aj i)/\s'.tmp 5= .d (.int aj k)/\s'.base=0/\u0 s' 45 4 ((dm (ls.take i)++(jb ls[i]).take k).map Ep) (s'.tmp 3)) ?_ ?_
   ·refine⟨by simp[ar,e0],by simp[ar,a],by simp[ar],b,?_⟩;simp only[ar,reduceIte,ab,My,pt];exact acc.mono rfl rfl
   rintro k s' F ⟨e0,a,m,b,acc⟩;by_cases q:(k:Int)<ls[i].length
   ·have h:k<ls[i].length:=by lia
    have w:=Mw c (aep h)
    have u:ls[i].length<=2^30:=by
     have:=Mw c (bm ls[i].length);simp only[dz,ey,qh]at this;lia
    have t:=dr ((k:Int)+1) (by lia) (by lia);have x:(k+1)%ls[i].length<ls[i].length:=Ht _ (by lia)
    have y:(((k+1)%ls[i].length:Nat):Int)<ls[i].length:=by lia
    have z:¬((ls[i].length:Nat):Int)=0:=by lia
    simp only[go_sem,ab,ak,ao,reduceCtorEq,cw,e0,a,m,al,q,bn,aw,e,Es h,Es x,t,bK,z];refine r4 (dv:=(dm (ls.take i)++(jb ls[i]).take k).map Ep) (ys:=[Ep (u9 ls[i] k)]) (osz:=aa 4) ?_ ?_ rfl (by simp[Ep,D.one]) ?_ (by simp) ?_
    ·simp only[go_sem,ab,b];exact acc.mono (by simp[ar]) (by simp[ar])
    ·simp only[go_sem,ab,b,pj];rfl
    ·simp only[al,cq,ew];lia
    intro H g;simp only[go_sem,ab,reduceCtorEq,g.tmp,m,t];refine⟨h,by simp[e0],by simp[a],by simp,by rw[g.base];exact b,?_⟩;have n:=g.acc (by simp);rw[g.tmp,de]at n;rw[Pq h,<-uy];simp only[b,gj,fj,du,ic]at n|-;exact n.mono rfl rfl
   have o:k=ls[i].length:=by lia
   simp only[go_sem,ab,reduceCtorEq,e0,a,m,al,q,bn,aw,e,wi];refine⟨c,by simp,b,?_⟩;rw[Yo c];rw[o,D0 (l:=jb ls[i]) (by rw[qh];exact bm _)]at acc;exact acc.mono rfl rfl
  simp only[go_sem,ab,reduceCtorEq,e0,a,al,s]
  have:i=ls.length:=by lia
  subst this;rw[fm]at acc;rcases acc with ⟨a1,j⟩|⟨a1,j,a3⟩
  ·simp only[go_sem,a1,j]
  have r:PS.dv s' 45 (s'.ba 45)=aa (4,(dm ls).map Ep):=by unfold PS.dv;rw[bc rfl,a3]
  rw[aq a1,j];simp only[a3,da]
 refine f.Nl λG v p=>?_;split at p
 ·rename_i r;unfold T3;rw[r];exact Mc G v p
 exact p
end
abbrev Ed:=Sp×Sp
def yw(e:Ed):Ed:=((-e.1.2,e.1.1),(-e.2.2,e.2.1))
def dbl(p:Sp):Sp:=(2*p.1,2*p.2)
def K6(m:Sp)(f:Ed):Int:=
 if(2*f.1.1<=m.1/\m.1<2*f.2.1)/\gu (dbl f.1) (dbl f.2) m<0 then-1
 else if(2*f.2.1<=m.1/\m.1<2*f.1.1)/\0<gu (dbl f.1) (dbl f.2) m then 1 else 0
def e0:Ed:=((0,0),(0,0))
def pb(f:Nat->Int):Nat->Int
 |0=>0
 |k+1=>pb f k+f k
def qd(e:Ed):Sp:=(e.1.1+e.2.1,e.1.2+e.2.2)
def Ta(l:List Ed)(a i:Nat):Int:=if i=a then 0 else K6 (qd (l.getD a e0)) (l.getD i e0)
def Tn(l:List Ed)(a:Nat):Int:=pb (Ta l a) l.length+if(l.getD a e0).2.1<(l.getD a e0).1.1 then 1 else 0
def U9(l:List Ed)(a:Nat):Int:=if(l.getD a e0).1.1=(l.getD a e0).2.1 then Tn (l.map yw) a else Tn l a
theorem WA(m:Sp)(f:Ed): -1<=K6 m f/\K6 m f<=1:=by unfold K6;split<;>(try split)<;>lia
theorem sM{f:Nat->Int}(h:∀i,-1<=f i/\f i<=1):∀k:Nat,-(k:Int)<=pb f k/\pb f k<=k:=by
 intro k
 induction k with
 |zero=>simp[pb]
 |succ k a=>have:=h k;simp only[pb];lia
theorem OM(l:List Ed)(a i:Nat): -1<=Ta l a i/\Ta l a i<=1:=by
 unfold Ta;split
 ·lia
 exact WA _ _
theorem Et{l:List Ed}{k:Nat}(h:k<l.length):(l.map Ep)[k]? =aa [.int aj (l.getD k e0).1.1,.int aj (l.getD k e0).1.2,.int aj (l.getD k e0).2.1,.int aj (l.getD k e0).2.2]:=by
 simp[h,Ep,cz]
def SmS(n:Int):Prop:= -1000<=n/\n<=1000
def GN(e:Ed):Prop:=SmS e.1.1/\SmS e.1.2/\SmS e.2.1/\SmS e.2.2
theorem a5r{n:Int}(h:SmS n):Qy aj (0-n)= -n:=by
 obtain⟨a,b⟩:=h;rw[dr _ (by lia) (by lia)];lia
section
variable{P:Program}(A:Pr P)
def a0p(l:List Ed)(a:Nat)(s':PS):Prop:=
 s'.tmp 0= .d (.gd 4 (l.map Ep))/\s'.tmp 1= .d (.int aj a)/\s'.base=0/\s'.tmp 5= .gz 5 (s'.ba 5) 0/\s'.di 5=aa (.loc ((Ep (l.getD a e0)).map .d))
theorem a2v(l:List Ed)(a:Nat)(O:a<l.length)(hl:l.length<=1000)(hs:∀e∈l,GN e):iv P A.I6 [T3 l,.int aj a] (.int aj (U9 l a)):=by
 refine ez A.mo A.uV (by simp) ?_;show l7 P (Tf A.pn) (ly _ _) _
 have G:∀k,k<l.length->GN (l.getD k e0):=λk B=>by
  have:l.getD k e0=l[k]:=by simp[cz,B]
  rw[this];exact hs _ (dj B)
 have a0:(a:Int)<l.length:=by lia
 simp only[Tf,T3,go_sem,ab,dw,ak,ao,reduceCtorEq,bn,aw,Et O];refine jV (a0p (if(l.getD a e0).1.1=(l.getD a e0).2.1 then l.map yw else l) a) ?_ ?_
 ·by_cases Q:(l.getD a e0).1.1=(l.getD a e0).2.1
  ·have H:((l.getD a e0).1.1==(l.getD a e0).2.1)=true:=by simpa using Q
   rw[bc Q];simp only[go_sem,ab,H];refine gf l.length (λk s'=>s'.tmp 0= .d (.gd 4 (l.map Ep))/\s'.tmp 1= .d (.int aj a)/\s'.tmp 7= .d (.int aj k)/\s'.base=0/\s'.tmp 5= .gz 5 (s'.ba 5) 0/\s'.di 5=aa (.loc ((Ep (l.getD a e0)).map .d))/\u0 s' 61 4 (((l.take k).map yw).map Ep) (s'.tmp 6)) ?_ ?_
   ·simp only[go_sem,ab,reduceCtorEq,Ep];exact u0.nil
   rintro k s' B ⟨n,s,S,I,o,p,acc⟩;by_cases K:(k:Int)<l.length
   ·have t:k<l.length:=by lia
    have z:=dr ((k:Int)+1) (by lia) (by lia);obtain⟨z1,z2,z3,z4⟩:=G k t;simp only[go_sem,ab,dw,ft,fk,fp,ak,ao,reduceCtorEq,cw,n,S,al,K,bn,aw,Et t,a5r z2,a5r z4,I];refine r4 (dv:=((l.take k).map yw).map Ep) (ys:=[Ep (yw (l.getD k e0))]) (osz:=aa 4) ?_ ?_ rfl (by simp[Ep,D.one]) ?_ (by simp) ?_
    ·simp only[go_sem,ab];exact acc.mono (by simp[ar]) (by simp[ar])
    ·simp only[go_sem,ab,pj];rfl
    ·simp only[al,cq,ew,ey];lia
    intro s2 g;have R:=g.acc (by simp);rw[g.tmp,de]at R;simp only[gj]at R;have gv:=g.ba 5 (by simp)
    have gb:s2.di 5=s'.di 5:=by rw[g.di];simp[ar]
    simp only[go_sem,ab,reduceCtorEq,g.tmp,n,s,o,S,z,g.base,gb,gv,p];refine⟨t,by simp,?_⟩;rw[j3,fj,fj]
    have e1:(l[k]?.toList.map yw).map Ep=[Ep (yw (l.getD k e0))]:=by simp[t,cz]
    rw[e1];exact R.mono rfl rfl
   have W:k=l.length:=by lia
   subst W;rw[fm]at acc
   have l8:(l.map yw).map Ep≠[]:=by
    intro h;simp only[fw]at h;subst h;simp at O
   rcases acc with ⟨q,_⟩|⟨_,q1,q2⟩
   ·exact absurd q l8
   have he:PS.dv s' 61 (s'.ba 61)=aa (4,(l.map yw).map Ep):=by unfold PS.dv;rw[bc rfl,q2]
   have U:((l.map yw).map Ep)[a]? =aa (Ep ((l.map yw).getD a e0)):=by simp[O,cz]
   simp only[go_sem,ab,ak,reduceCtorEq,n,s,S,al,K,KZ,I,vC,Hm,q1,V.x7,C.x7,fa,kz,or_false,q2,bn,aw,U,Ep,o,p];refine⟨by simp[ar],by simp[ar,s],rfl,by simp[ar,o],by simp[ar,Ep]⟩
  have H:((l.getD a e0).1.1==(l.getD a e0).2.1)=false:=by simpa using Q
  rw[aq Q];simp only[go_sem,ab,H];refine⟨by simp[ar],by simp[ar],rfl,by simp[ar],by simp[ar,Ep]⟩
 have M:(if(l.getD a e0).1.1=(l.getD a e0).2.1 then l.map yw else l).length=l.length:=by split<;>simp
 have E:∀k,k<l.length->GN ((if(l.getD a e0).1.1=(l.getD a e0).2.1 then l.map yw else l).getD k e0):=by
  intro k B;split
  ·have e:(l.map yw).getD k e0=yw (l.getD k e0):=by simp[cz,B]
   rw[e];obtain⟨⟨z1,z2⟩,⟨z3,z4⟩,⟨z5,z6⟩,z7,z8⟩:=G k B;refine⟨⟨?_,?_⟩,⟨?_,?_⟩,⟨?_,?_⟩,?_,?_⟩<;>simp only[yw]<;>lia
  exact G k B
 have X:U9 l a=Tn (if(l.getD a e0).1.1=(l.getD a e0).2.1 then l.map yw else l) a:=by
  unfold U9;split<;>rfl
 rw[X];generalize(if(l.getD a e0).1.1=(l.getD a e0).2.1 then l.map yw else l)=m at M E|-;rintro s' ⟨n,s,I,o,p⟩;obtain⟨⟨y1,y2⟩,⟨y3,y4⟩,⟨y5,y6⟩,y7,y8⟩:=E a O;have Y:=dr ((m.getD a e0).1.1+(m.getD a e0).2.1) (by lia) (by lia);have Z:=dr ((m.getD a e0).1.2+(m.getD a e0).2.2) (by lia) (by lia);simp only[go_sem,ab,dw,ft,fk,fp,ak,ao,reduceCtorEq,o,p,Ep,I,Y,Z]
 refine gf m.length (λk s'=>s'.tmp 0= .d (.gd 4 (m.map Ep))/\s'.tmp 1= .d (.int aj a)/\s'.tmp 10= .d (.int aj k)/\s'.tmp 9= .d (.int aj (pb (Ta m a) k))/\s'.base=0/\
  s'.tmp 5= .gz 5 (s'.ba 5) 0/\s'.di 5=aa (.loc ((Ep (m.getD a e0)).map .d))/\s'.tmp 8= .gz 8 (s'.ba 8) 0/\s'.di 8=aa (.loc [.d (.int aj (qd (m.getD a e0)).1),.d (.int aj (qd (m.getD a e0)).2)])) ?_ ?_
 ·simp only[go_sem,ab,reduceCtorEq,n,s,pb,qd,Ep,fZ,o,p]
 rintro k s2 B ⟨n,s,i,w,I,o,p,v,u⟩;by_cases K:(k:Int)<m.length
 ·have t:k<m.length:=by lia
  have z:=dr ((k:Int)+1) (by lia) (by lia);obtain⟨⟨z1,z2⟩,⟨z3,z4⟩,⟨z5,z6⟩,z7,z8⟩:=E k (by lia);have v1:=dr (2*(m.getD k e0).1.1) (by lia) (by lia);have v2:=dr (2*(m.getD k e0).1.2) (by lia) (by lia);have v3:=dr (2*(m.getD k e0).2.1) (by lia) (by lia);have v4:=dr (2*(m.getD k e0).2.2) (by lia) (by lia);have sb:=sM (OM m a) k;have w1:=dr (pb (Ta m a) k+1) (by lia) (by lia);have w2:=dr (pb (Ta m a) k-1) (by lia) (by lia);have T:=Wc A (a:=dbl (m.getD k e0).1) (b:=dbl (m.getD k e0).2) (c:=qd (m.getD a e0)) ⟨⟨by simp only[dbl];lia,by simp only[dbl];lia⟩,by simp only[dbl];lia,by simp only[dbl];lia⟩ ⟨⟨by simp only[dbl];lia,by simp only[dbl];lia⟩,by simp only[dbl];lia,by simp only[dbl];lia⟩ ⟨⟨by simp only[qd];lia,by simp only[qd];lia⟩,by simp only[qd];lia,by simp only[qd];lia⟩;have F:=T;simp only[Aa,dbl]at F
  have r:Ta m a k=if k=a then 0 else K6 (qd (m.getD a e0)) (m.getD k e0):=rfl
  simp only[go_sem,ab,dw,ft,fk,fp,ak,ao,reduceCtorEq,n,s,i,al,K,bn,aw,Et t,v1,v2,v3,v4,I];by_cases j:k=a
  ·have q:((k:Int)==(a:Int))=true:=by simp[j]
   simp only[go_sem,ab,dw,reduceCtorEq,n,s,w,i,o,v,p,u,q,z,t];simp only[pb,r,bc j,JI];simp
  have q:((k:Int)==(a:Int))=false:=by simp;lia
  simp only[go_sem,ab,dw,ak,ao,reduceCtorEq,v,u,q];by_cases J:2*(m.getD k e0).1.1<=(qd (m.getD a e0)).1
  ·simp only[go_sem,ab,dw,ak,ao,reduceCtorEq,v,u,J];by_cases N:(qd (m.getD a e0)).1<2*(m.getD k e0).2.1
   ·simp only[go_sem,ab,ak,v,u,N];refine Fw F ?_;by_cases x:gu (dbl (m.getD k e0).1) (dbl (m.getD k e0).2) (qd (m.getD a e0))<0
    ·have hz:K6 (qd (m.getD a e0)) (m.getD k e0)= -1:=by unfold K6;rw[bc ⟨⟨J,N⟩,x⟩]
     have f:=x;simp only[dbl]at f;simp only[go_sem,ab,reduceCtorEq,n,s,w,i,o,v,p,u,z,t,f,w2];simp only[pb,r,aq j,hz];simp;rfl
    have y:¬2*(m.getD k e0).2.1<=(qd (m.getD a e0)).1:=by lia
    have hz:K6 (qd (m.getD a e0)) (m.getD k e0)=0:=by unfold K6;rw[aq (λh=>x h.2),aq (λh=>y h.1.1)]
    have f:=x;simp only[dbl]at f;simp only[go_sem,ab,dw,ak,ao,reduceCtorEq,n,s,w,i,o,v,p,u,z,t,f,y];simp only[pb,r,aq j,hz,JI];simp
   have y:2*(m.getD k e0).2.1<=(qd (m.getD a e0)).1:=by lia
   have L:¬(qd (m.getD a e0)).1<2*(m.getD k e0).1.1:=by lia
   have hz:K6 (qd (m.getD a e0)) (m.getD k e0)=0:=by unfold K6;rw[aq (λh=>N h.1.2),aq (λh=>L h.1.2)]
   simp only[go_sem,ab,dw,ak,ao,reduceCtorEq,n,s,w,i,o,v,p,u,z,t,N,y,L];simp only[pb,r,aq j,hz,JI];simp
  simp only[go_sem,ab,dw,ak,ao,reduceCtorEq,v,u,J]
  have L:(qd (m.getD a e0)).1<2*(m.getD k e0).1.1:=by lia
  by_cases y:2*(m.getD k e0).2.1<=(qd (m.getD a e0)).1
  ·simp only[go_sem,ab,dw,ak,ao,reduceCtorEq,v,u,y,L];refine Fw F ?_;by_cases x:0<gu (dbl (m.getD k e0).1) (dbl (m.getD k e0).2) (qd (m.getD a e0))
   ·have hz:K6 (qd (m.getD a e0)) (m.getD k e0)=1:=by unfold K6;rw[aq (λh=>J h.1.1),bc ⟨⟨y,L⟩,x⟩]
    have f:=x;simp only[dbl]at f;simp only[go_sem,ab,reduceCtorEq,n,s,w,i,o,v,p,u,z,t,f,w1];simp only[pb,r,aq j,hz];simp
   have hz:K6 (qd (m.getD a e0)) (m.getD k e0)=0:=by unfold K6;rw[aq (λh=>J h.1.1),aq (λh=>x h.2)]
   have f:=x;simp only[dbl]at f;simp only[go_sem,ab,reduceCtorEq,n,s,w,i,o,v,p,u,z,t,f];simp only[pb,r,aq j,hz,JI];simp
  have hz:K6 (qd (m.getD a e0)) (m.getD k e0)=0:=by unfold K6;rw[aq (λh=>J h.1.1),aq (λh=>y h.1.1)]
  simp only[go_sem,ab,reduceCtorEq,n,s,w,i,o,v,p,u,z,t,y];simp only[pb,r,aq j,hz,JI];simp
 have:k=m.length:=by lia
 subst this;have sb:=sM (OM m a) m.length;have w1:=dr (pb (Ta m a) m.length+1) (by lia) (by lia);by_cases hg:(m.getD a e0).2.1<(m.getD a e0).1.1
 ·simp only[go_sem,ab,dw,ak,ao,reduceCtorEq,n,w,i,al,K,o,p,Ep,hg,w1,Tn]
 simp only[go_sem,ab,dw,ak,ao,reduceCtorEq,n,w,i,al,K,o,p,Ep,hg,Tn,JI]
end
def Gl(a:Sp):Bool:=decide (-500<=a.1)&&(decide (a.1<=500)&&(decide (-500<=a.2)&&decide (a.2<=500)))
theorem cr2{u v:Sp}(a:SmP u)(b:SmP v):Qy aj (u.1*v.2)=u.1*v.2/\Qy aj (u.2*v.1)=u.2*v.1/\Qy aj (u.1*v.2-u.2*v.1)=u.1*v.2-u.2*v.1/\
  Qy aj (u.1*v.1)=u.1*v.1/\Qy aj (u.2*v.2)=u.2*v.2/\Qy aj (u.1*v.1+u.2*v.2)=u.1*v.1+u.2*v.2:=by
 obtain⟨⟨a1,c⟩,a3,a4⟩:=a;obtain⟨⟨d,b2⟩,b3,b4⟩:=b;have e:=oD (x:=u.1) (y:=v.2) (by lia) (by lia);have f:=oD (x:=u.2) (y:=v.1) (by lia) (by lia);have g:=oD (x:=u.1) (y:=v.1) (by lia) (by lia);have h:=oD (x:=u.2) (y:=v.2) (by lia) (by lia);exact⟨dr _ (by lia) (by lia),dr _ (by lia) (by lia),dr _ (by lia) (by lia),dr _ (by lia) (by lia),dr _ (by lia) (by lia),dr _ (by lia) (by lia)⟩
section
variable{P:Program}(A:Pr P)
theorem eO{u v:Sp}(d:SmP u)(e:SmP v):iv P A.zf [Aa u,Aa v] (.int aj (clk u v)):=by
 refine ez A.mo A.Zz (by simp) ?_;show l7 P Kf (ly _ _) _;obtain⟨w1,w2,f,g,h,i⟩:=cr2 d e;simp only[Kf,Aa,go_sem,ab,dw,ft,fk,fp,ak,ao,reduceCtorEq,w1,w2,f,g,h,i];by_cases a:u.1*v.2-u.2*v.1<0
 ·simp only[go_sem,ab,a,clk]
 simp only[go_sem,ab,reduceCtorEq,a];by_cases b:0<u.1*v.2-u.2*v.1
 ·simp only[go_sem,ab,a,b,clk]
 simp only[go_sem,ab,reduceCtorEq,b];by_cases c:u.1*v.1+u.2*v.2<0
 ·simp only[go_sem,ab,a,b,c,clk]
 simp only[go_sem,ab,a,b,c,clk]
theorem PF{u x y:Sp}(c:SmP u)(hx:SmP x)(hy:SmP y):iv P A.Fa [Aa u,Aa x,Aa y] (.bool (Dh u x y)):=by
 refine ez A.mo A.lK (by simp) ?_;show l7 P (Ph A.zf) (ly _ _) _;obtain⟨w1,w2,d,e,f,g⟩:=cr2 hx hy;have c1:=eO A c hx;have b:=eO A c hy;simp only[Aa]at c1 b;simp only[Ph,Aa,go_sem,ab,ak];refine ir c1 ?_;simp only[go_sem,ab,ak];refine ir b ?_;simp only[go_sem,ab,reduceCtorEq];by_cases h:clk u x=clk u y
 ·have a:(clk u x !=clk u y)=false:=by simp[h]
  simp only[go_sem,ab,dw,ft,fk,fp,ak,ao,reduceCtorEq,a,w1,w2,d,Dh,bc h]
 have a:(clk u x !=clk u y)=true:=by simp[h]
 simp only[go_sem,ab,reduceCtorEq,a,Dh,aq h]
theorem WM(a:Sp):iv P A.Gd [Aa a] (.bool (Gl a)):=by
 refine ez A.mo A.oT (by simp) ?_;show l7 P G8 (ly _ _) _;unfold Gl;by_cases b: -500<=a.1
 ·by_cases c:a.1<=500
  ·by_cases d: -500<=a.2
   ·simp only[G8,Aa,go_sem,ab,dw,ft,cu,fk,fp,ak,ao,reduceCtorEq,b,c,d]
   simp only[G8,Aa,go_sem,ab,dw,ft,cu,fk,fp,ak,ao,reduceCtorEq,b,c,d,fh]
  simp only[G8,Aa,go_sem,ab,dw,cu,ak,ao,reduceCtorEq,b,c,fh]
 simp only[G8,Aa,go_sem,ab,dw,cu,ak,ao,reduceCtorEq,b,fh]
end
def w9(a b:Sp):Bool:=a.1==b.1&&a.2==b.2
def dq(a b:Sp):Sp:=(a.1-b.1,a.2-b.2)
def U6(a d w:Sp):Bool:= !(!w9 w a&&(!w9 w d&&Dh a w d))
def Xz(p at_ nx:Sp)(e:Ed):Bool:=
 if w9 at_ e.1 then U6 (dq p at_) (dq nx at_) (dq e.2 at_)
 else if w9 at_ e.2 then U6 (dq p at_) (dq nx at_) (dq e.1 at_)else ah
def Gk(l:List Sp)(k:Nat)(e:Ed):Bool:=Xz (l.getD k (0,0)) (l.getD ((k+1)%l.length) (0,0)) (l.getD ((k+2)%l.length) (0,0)) e
def Ly(ls:List (List Sp))(es:List Ed):Bool:=
 (fc ls.length).all λi=>(fc (ls.getD i []).length).all λk=>(fc es.length).all λj=>Gk (ls.getD i []) k (es.getD j e0)
theorem CA{k n:Nat}:((k:Int)+2).tmod n=(((k+2)%n:Nat):Int):=by
 rw[a5n (by lia)];exact(Int.natCast_emod (k+2) n).symm
def SmL(p:Sp):Prop:=SmS p.1/\SmS p.2
theorem SmL.sub{a b:Sp}(c:SmL a)(hb:SmL b):SmP (dq a b):=by
 obtain⟨⟨a1,d⟩,a3,a4⟩:=c;obtain⟨⟨e,b2⟩,b3,b4⟩:=hb;refine⟨⟨?_,?_⟩,?_,?_⟩<;>simp only[dq]<;>lia
theorem SmL.p{a:Sp}(b:SmL a):SmP a:=by
 obtain⟨⟨a1,c⟩,a3,a4⟩:=b;exact⟨⟨by lia,by lia⟩,by lia,by lia⟩
section
variable{P:Program}(A:Pr P)
theorem xF{a b:Sp}(c:SmL a)(hb:SmL b):iv P A.xx [.agg [.int aj a.1,.int aj a.2],.agg [.int aj b.1,.int aj b.2]] (.agg [.int aj (a.1-b.1),.int aj (a.2-b.2)]):=
 WU A c.p hb.p
def wF(ls:List (List Sp))(es:List Ed)(i k n:Nat)(p at_ nx:Sp)(s':PS):Prop:=
 s'.tmp 0= .d (.gd 1 (ls.map λl=>[uu l]))/\s'.tmp 1= .d (.gd 4 (es.map Ep))/\s'.tmp 5= .d (.int aj i)/\s'.tmp 6= .d (.int aj n)/\s'.tmp 7= .d (.int aj k)/\s'.base=0/\
 s'.tmp 8= .gz 8 (s'.ba 8) 0/\s'.di 8=aa (.loc [.d (.int aj at_.1),.d (.int aj at_.2)])/\
 s'.tmp 9= .gz 9 (s'.ba 9) 0/\s'.di 9=aa (.loc [.d (.int aj nx.1),.d (.int aj nx.2)])/\
 s'.tmp 10= .gz 10 (s'.ba 10) 0/\s'.di 10=aa (.loc [.d (.int aj (p.1-at_.1)),.d (.int aj (p.2-at_.2))])
theorem WI(ls:List (List Sp))(es:List Ed)(h1:ls.length<=1000)(h2:es.length<=1000)(h3:∀l∈ls,l.length<=1000/\∀p∈l,SmL p)(h4:∀e∈es,SmL e.1/\SmL e.2):
  iv P A.Gc [kh ls,T3 es] (.bool (Ly ls es)):=by
 refine ez A.mo A.oS (by simp) ?_;show l7 P (Rc A.xx A.Fa) (ly _ _) _;simp only[Rc,kh,T3,go_sem]
 refine gf ls.length (λi s'=>s'.tmp 0= .d (.gd 1 (ls.map λl=>[uu l]))/\s'.tmp 1= .d (.gd 4 (es.map Ep))/\s'.tmp 5= .d (.int aj i)/\s'.base=0/\
  ∀O,O<i->((fc (ls.getD O []).length).all λk=>(fc es.length).all λj=>Gk (ls.getD O []) k (es.getD j e0))=ah) ?_ ?_
 ·simp only[go_sem,ab,reduceCtorEq];simp
 rintro i s' hi ⟨h,g,m,x,hI⟩;by_cases ju:(i:Int)<ls.length
 ·have I:i<ls.length:=by lia
  have wi:=dr ((i:Int)+1) (by lia) (by lia);have K:=Fo I
  have F:ls.getD i []=ls[i]:=by simp[cz,I]
  obtain⟨hn,hp⟩:=h3 ls[i] (dj I);simp only[go_sem,ab,reduceCtorEq,h,m,al,ju,K,bn,aw]
  refine gf ls[i].length (λk s'=>s'.tmp 0= .d (.gd 1 (ls.map λl=>[uu l]))/\s'.tmp 1= .d (.gd 4 (es.map Ep))/\s'.tmp 5= .d (.int aj i)/\s'.tmp 6= .d (.int aj ls[i].length)/\s'.tmp 7= .d (.int aj k)/\s'.base=0/\
   ∀R,R<k->((fc es.length).all λj=>Gk (ls.getD i []) R (es.getD j e0))=ah) ?_ ?_
  ·simp only[go_sem,ab,reduceCtorEq,h,g,m,x];simp
  rintro k s' hk ⟨h,g,m,f6,n,x,hK⟩;by_cases Z:(k:Int)<ls[i].length
  ·have S:k<ls[i].length:=by lia
   have wk:=dr ((k:Int)+1) (by lia) (by lia);have Y:=dr ((k:Int)+2) (by lia) (by lia);have M:(k+1)%ls[i].length<ls[i].length:=Ht _ (by lia);have N:(k+2)%ls[i].length<ls[i].length:=Ht _ (by lia)
   have l8:¬((ls[i].length:Nat):Int)=0:=by lia
   have sm:∀q,q<ls[i].length->SmL (ls[i].getD q (0,0)):=λq hq=>by
    have:ls[i].getD q (0,0)=ls[i][q]:=by simp[cz,hq]
    rw[this];exact hp _ (dj hq)
   have y:=sm _ M;have T:=sm _ N;have X:=sm _ S
   have G:(∀e,Gk (ls.getD i []) k e=Xz (ls[i].getD k (0,0)) (ls[i].getD ((k+1)%ls[i].length) (0,0)) (ls[i].getD ((k+2)%ls[i].length) (0,0)) e):=λe=>by unfold Gk;rw[F]
   simp only[go_sem,ab,ak,reduceCtorEq,h,m,f6,n,x,Z,K,bn,aw,wk,Y,bK,CA,l8,Es M,Es N,Es S];refine ir (xF A X y) ?_;generalize ls[i].getD k (0,0)=p at X G|-;generalize ls[i].getD ((k+1)%ls[i].length) (0,0)=at_ at y G|-;generalize ls[i].getD ((k+2)%ls[i].length) (0,0)=nx at T G|-;simp only[go_sem,ab,ak];refine gf es.length (λj s'=>wF ls es i k ls[i].length p at_ nx s'/\s'.tmp 11= .d (.int aj j)/\∀Q,Q<j->Gk (ls.getD i []) k (es.getD Q e0)=ah) ?_ ?_
   ·simp only[wF,go_sem,ab,reduceCtorEq,h,g,m,f6,n];simp
   rintro j s' hj ⟨⟨h,g,m,f6,n,x,r,o,z,b9,c,b⟩,a,J⟩;by_cases SP:(j:Int)<es.length
   ·have C:j<es.length:=by lia
    have U:=dr ((j:Int)+1) (by lia) (by lia)
    have B:es.getD j e0=es[j]:=by simp[cz,C]
    obtain⟨q1,q2⟩:=h4 es[j] (dj C);have v:=Et C;rw[B]at v;simp only[go_sem,ab,ak,ao,reduceCtorEq,g,x,r,o,a,al,SP,v,bn,aw]
    have bad:Gk (ls.getD i []) k (es.getD j e0)=ag->Ly ls es=false:=λhb=>
     all_false I (all_false (k:=k) (by rw[F];exact S) (all_false C hb))
    refine wv (λs'=>wF ls es i k ls[i].length p at_ nx s'/\s'.tmp 11= .d (.int aj j)/\∃w:Sp,SmP w/\Gk (ls.getD i []) k (es.getD j e0)=U6 (dq p at_) (dq nx at_) w/\s'.tmp 12= .gz 12 (s'.ba 12) 0/\s'.di 12=aa (.loc [.d (.int aj w.1),.d (.int aj w.2)])) ?_ ?_
    ·cases V:(at_.1==es[j].1.1&&at_.2==es[j].1.2)
     ·simp only[go_sem,ab,ak,g,a,v,bn,aw];cases hB:(at_.1==es[j].2.1&&at_.2==es[j].2.2)
      ·have f:Gk (ls.getD i []) k (es.getD j e0)=true:=by
        rw[G,B];unfold Xz w9;rw[V,hB];rfl
       simp only[go_sem,ab,reduceCtorEq,h,g,m,f6,n,a,U,C];simp only[wF,go_sem,ab,reduceCtorEq,h,g,m,f6,n,r,o,z,b9,c,b];simp;exact rz J f
      have f:Gk (ls.getD i []) k (es.getD j e0)=U6 (dq p at_) (dq nx at_) (dq es[j].1 at_):=by
       rw[G,B];unfold Xz w9;rw[V,hB];rfl
      simp only[go_sem,ab,ak,ao,g,r,o,a,v,bn,aw];refine ir (xF A q1 y) ?_;simp only[go_sem,ab,ak,a];exact⟨by simp only[wF,go_sem,ab,reduceCtorEq,h,g,m,f6,n,r,o,z,b9,c,b],_,q1.sub y,f,rfl⟩
     have f:Gk (ls.getD i []) k (es.getD j e0)=U6 (dq p at_) (dq nx at_) (dq es[j].2 at_):=by
      rw[G,B];unfold Xz w9;rw[V];rfl
     simp only[go_sem,ab,ak,g,r,o,a,v,bn,aw];refine ir (xF A q2 y) ?_;simp only[go_sem,ab,ak,a];exact⟨by simp only[wF,go_sem,ab,reduceCtorEq,h,g,m,f6,n,r,o,z,b9,c,b],_,q2.sub y,f,rfl⟩
    rintro s3 ⟨⟨h,g,m,f6,n,x,r,o,z,b9,c,b⟩,a,w,hw,f,E,D⟩;have hs:=PF A (X.sub y) hw (T.sub y);simp only[Aa,dq]at hs;cases c1:(w.1==(dq p at_).1&&w.2==(dq p at_).2)
    ·have s:=c1;simp only[dq]at s;simp only[go_sem,ab,ak,x,r,o,z,b9,c,b,E,D,s];refine ir (xF A T y) ?_;cases H:(w.1==(dq nx at_).1&&w.2==(dq nx at_).2)
     ·have t:=H;simp only[dq]at t;simp only[go_sem,ab,ak,r,o,z,b9,c,b,E,D,t];refine ir (xF A T y) ?_;simp only[go_sem,ab];refine Fw hs ?_;cases c3:Dh (dq p at_) w (dq nx at_)
      ·have u:=c3;simp only[dq]at u
       have ok:Gk (ls.getD i []) k (es.getD j e0)=true:=by rw[f];unfold U6 w9;rw[c1,H,c3];rfl
       simp only[go_sem,ab,reduceCtorEq,a,U,C,u];simp only[wF,go_sem,ab,reduceCtorEq,h,g,m,f6,n,r,o,z,b9,c,b];simp;exact rz J ok
      have u:=c3;simp only[dq]at u
      have no:Gk (ls.getD i []) k (es.getD j e0)=false:=by rw[f];unfold U6 w9;rw[c1,H,c3];rfl
      simp only[go_sem,ab,u,bad no]
     have t:=H;simp only[dq]at t
     have ok:Gk (ls.getD i []) k (es.getD j e0)=true:=by rw[f];unfold U6 w9;rw[c1,H];rfl
     simp only[go_sem,ab,reduceCtorEq,a,U,C,t];simp only[wF,go_sem,ab,reduceCtorEq,h,g,m,f6,n,r,o,z,b9,c,b];simp;exact rz J ok
    have s:=c1;simp only[dq]at s
    have ok:Gk (ls.getD i []) k (es.getD j e0)=true:=by rw[f];unfold U6 w9;rw[c1];rfl
    simp only[go_sem,ab,ak,reduceCtorEq,x,c,b,a,U,C,E,D,s];simp only[wF,go_sem,ab,reduceCtorEq,h,g,m,f6,n,r,o,z,b9,c,b];simp;exact rz J ok
   have:j=es.length:=by lia
   subst this;simp only[go_sem,ab,reduceCtorEq,h,g,m,f6,n,x,a,al,SP,wk];exact⟨S,by simp,rz hK (all_true λQ W=>J Q W)⟩
  have:k=ls[i].length:=by lia
  subst this;simp only[go_sem,ab,reduceCtorEq,h,g,m,f6,n,x,Z,wi];exact⟨I,by simp,rz hI (all_true λR L=>hK R (by rw[F]at L;exact L))⟩
 have:i=ls.length:=by lia
 subst this;simp only[go_sem,ab,reduceCtorEq,h,m,al,ju];have:Ly ls es=true:=all_true λO F7=>hI O F7;rw[this]
end
def uc(ls:List (List Sp)):Nat:=(ls.map Ae).sum
def Hi(ls:List (List Sp))(i:Nat):Bool:=
 decide (3<=(ls.getD i []).length)&&(decide (uc (ls.take (i+1))<=60)&&(fc (ls.getD i []).length).all λk=>Gl ((ls.getD i []).getD k (0,0)))
def kE(ls:List (List Sp)):Bool:=(fc ls.length).all (Hi ls)
def X6(e f:Ed):Bool:=e.1.1==f.1.1&&(e.1.2==f.1.2&&(e.2.1==f.2.1&&e.2.2==f.2.2))
def Zy(e f:Ed):Bool:=(!w9 f.1 e.1&&(!w9 f.1 e.2&&onB e f.1))||Cx e f
def X7(i k:Nat)(e f:Ed):Bool:=decide (i≠k)&&(X6 e f||(w9 e.1 f.2&&w9 e.2 f.1))
def Ty(es:List Ed)(i:Nat):Bool:=
 !w9 (es.getD i e0).1 (es.getD i e0).2&&(fc es.length).all λk=> !Zy (es.getD i e0) (es.getD k e0)&& !X7 i k (es.getD i e0) (es.getD k e0)
def ye(es:List Ed):Bool:=(fc es.length).all (Ty es)
def Jh(es:List Ed):Bool:=(fc es.length).all λi=>U9 es i==1
def oe(ls:List (List Sp)):Bool:=kE ls&&(ye (dm ls)&&(Jh (dm ls)&&Ly ls (dm ls)))
theorem Qf{ls:List (List Sp)}{i:Nat}(h:i<ls.length):uc (ls.take (i+1))=uc (ls.take i)+(ls.getD i []).length:=by
 unfold uc
 have e:ls[i]?.toList=[ls[i]]:=by simp[h]
 rw[j3,e,fj,a8n];simp only[du,ic,a1r,List.sum_nil,Ad,cz,bh h,jj]
theorem P5(ls:List (List Sp)):(dm ls).length=uc ls:=by
 unfold dm uc
 induction ls with
 |nil=>rfl
 |cons l r a=>simp[qh,a]
theorem DT{ls:List (List Sp)}(h:∀i,i<ls.length->Hi ls i=ah):∀k,k<=ls.length->3*k<=uc (ls.take k):=by
 intro k
 induction k with
 |zero=>intro _;simp
 |succ k b=>
  intro d;have c:=b (by lia);have a:=h k (by lia);unfold Hi at a;simp only[dc,decide_eq_true_eq]at a;rw[Qf (by lia)];lia
theorem Sj{p:Sp}(h:Gl p=ah):SmL p:=by
 unfold Gl at h;simp only[dc,decide_eq_true_eq]at h;exact⟨⟨by lia,by lia⟩,by lia,by lia⟩
theorem qZ{ls:List (List Sp)}{e:Ed}(h:e∈dm ls):∃l∈ls,e.1∈l/\e.2∈l:=by
 unfold dm at h;obtain⟨l,g,b⟩:=K3.1 h;refine⟨l,g,?_⟩;unfold jb at b;obtain⟨k,f,rfl⟩:=j6.1 b;have a:=er.1 f;have c:(k+1)%l.length<l.length:=Ht _ (by lia);unfold u9
 have d:l.getD k (0,0)=l[k]:=by simp[cz,a]
 have e2:l.getD ((k+1)%l.length) (0,0)=l[(k+1)%l.length]:=by simp[cz,c]
 rw[d,e2];exact⟨dj a,dj c⟩
theorem eY{ls:List (List Sp)}(h:kE ls=ah):ls.length<=20/\uc ls<=60/\∀l∈ls,l.length<=60/\∀p∈l,Gl p=true:=by
 have a:∀i,i<ls.length->Hi ls i=true:=λi b=>dg.1 h i (er.2 b)
 have c:uc ls<=60:=by
  by_cases g:ls.length=0
  ·have:ls=[]:=jf g;subst this;simp[uc]
  have:=a (ls.length-1) (by lia);unfold Hi at this;simp only[dc,decide_eq_true_eq]at this
  have e:ls.length-1+1=ls.length:=by lia
  rw[e,fm]at this;exact this.2.1
 have d:=DT a ls.length (bm _);rw[fm]at d;refine⟨by lia,c,λl d=>?_⟩;obtain⟨i,b,rfl⟩:=j0.1 d;have:=a i b
 have e:ls.getD i []=ls[i]:=by simp[cz,b]
 unfold Hi at this;rw[e]at this;simp only[dc,decide_eq_true_eq]at this;refine⟨?_,λp m=>?_⟩
 ·have j:=this.2.1;rw[Qf b,e]at j;lia
 obtain⟨k,f,rfl⟩:=j0.1 m;have:=dg.1 this.2.2 k (er.2 f);simpa[cz,f]using this
section
variable{P:Program}(A:Pr P)
theorem KR(ls:List (List Sp))(h1:ls.length<=2^30)(h2:∀l∈ls,l.length<=2^30):iv P A.Ge [kh ls] (.bool (oe ls)):=by
 refine ez A.mo A.oX (by simp) ?_;show l7 P (Rf A.Gd A.Ec A.Mg A.Ce A.I6 A.Gc) (ly _ _) _;simp only[Rf,kh,go_sem];refine gf ls.length (λi s'=>s'.tmp 0= .d (.gd 1 (ls.map λl=>[uu l]))/\s'.tmp 4= .d (.int aj i)/\s'.tmp 3= .d (.int aj (uc (ls.take i):Nat))/\uc (ls.take i)<=60/\∀w,w<i->Hi ls w=ah) ?_ ?_
 ·simp only[go_sem,ab,reduceCtorEq];simp[uc]
 rintro i s' hi ⟨a,v,B,ht,hI⟩;by_cases ju:(i:Int)<ls.length
 ·have G:i<ls.length:=by lia
  have wi:=dr ((i:Int)+1) (by lia) (by lia);have E:=Fo G
  have j:ls.getD i []=ls[i]:=by simp[cz,G]
  have a5:=h2 ls[i] (dj G);have W:=Qf G;rw[j]at W;have wt:=dr ((uc (ls.take i):Int)+ls[i].length) (by lia) (by lia)
  have no:Hi ls i=ag->oe ls=false:=λh=>by unfold oe;rw[show kE ls=ag from all_false G h];rfl
  simp only[go_sem,ab,reduceCtorEq,a,B,v,al,ju,E,bn,aw,wt];by_cases c1:(ls[i].length:Int)<3
  ·have:Hi ls i=false:=by unfold Hi;rw[j,decide_eq_false (by lia)];rfl
   simp only[go_sem,ab,c1,no this]
  by_cases y:(60:Int)<(uc (ls.take i):Int)+ls[i].length
  ·have:Hi ls i=false:=by
    unfold Hi
    have:¬uc (ls.take (i+1))<=60:=by lia
    simp only[this,decide_false,fh,sf]
   simp only[go_sem,ab,reduceCtorEq,B,c1,y,no this]
  simp only[go_sem,ab,reduceCtorEq,B,c1,y];refine gf ls[i].length (λk s'=>s'.tmp 0= .d (.gd 1 (ls.map λl=>[uu l]))/\s'.tmp 4= .d (.int aj i)/\s'.tmp 5= .d (.int aj k)/\s'.tmp 3= .d (.int aj ((uc (ls.take i):Int)+ls[i].length))/\∀u,u<k->Gl ((ls.getD i []).getD u (0,0))=ah) ?_ ?_
  ·simp only[go_sem,ab,reduceCtorEq,a,v];simp
  rintro k s' hk ⟨a,v,f5,B,Q⟩;by_cases J:(k:Int)<ls[i].length
  ·have o:k<ls[i].length:=by lia
   have wk:=dr ((k:Int)+1) (by lia) (by lia);simp only[go_sem,ab,ak,reduceCtorEq,a,v,f5,al,J,E,bn,aw,Es o];refine gq (WM A _) ?_;cases c3:Gl (ls[i].getD k (0,0))
   ·have:Hi ls i=false:=by
     unfold Hi;rw[all_false (k:=k) (by rw[j];exact o) (by rw[j];exact c3)];simp only[sf]
    simp only[go_sem,ab,no this]
   simp only[go_sem,ab,reduceCtorEq,a,B,v,f5,wk,o];exact⟨by simp,rz Q (by rw[j];exact c3)⟩
  simp only[go_sem,ab,reduceCtorEq,a,B,v,f5,al,J,E,bn,aw,wi,G];refine⟨by simp,?_,by lia,rz hI ?_⟩
  ·rw[W];simp
  unfold Hi
  rw[j,decide_eq_true (by lia),decide_eq_true (by lia),all_true λu b0=>by have:=Q u (by lia);rw[j]at this;exact this]
  rfl
 have:i=ls.length:=by lia
 subst this;have U:kE ls=true:=all_true hI;obtain⟨g1,g2,Z⟩:=eY U;have a7:=P5 ls;have R:=XE A ls h1 (by lia)
 have s:∀e∈dm ls,SmL e.1/\SmL e.2:=λe he=>by
  obtain⟨l,S,k1,k2⟩:=qZ he;exact⟨Sj ((Z l S).2 _ k1),Sj ((Z l S).2 _ k2)⟩
 have t:=WI A ls (dm ls) (by lia) (by lia) (λl S=>⟨by have:=(Z l S).1;lia,λp hp=>Sj ((Z l S).2 p hp)⟩) s
 simp only[kh]at R t;simp only[go_sem,ab,reduceCtorEq,a,v,al,ju];refine gq R ?_
 have a4:oe ls=(ye (dm ls)&&(Jh (dm ls)&&Ly ls (dm ls))):=by unfold oe;rw[U];rfl
 rw[a4]
 have a3:(dm ls).length<=60:=by lia
 generalize dm ls=es at a3 s t|-;simp only[T3]at t|-;simp only[go_sem,ab]
 have r:∀k,k<es.length->SmE (es.getD k e0)/\GN (es.getD k e0):=λk hk=>by
  have e:es.getD k e0=es[k]:=by simp[cz,hk]
  rw[e];obtain⟨H,I⟩:=s es[k] (dj hk);exact⟨⟨H.p,I.p⟩,H.1,H.2,I.1,I.2⟩
 refine gf es.length (λi s'=>s'.tmp 0= .d (.gd 1 (ls.map λl=>[uu l]))/\s'.tmp 6= .d (.gd 4 (es.map Ep))/\s'.tmp 7= .d (.int aj i)/\∀w,w<i->Ty es w=ah) ?_ ?_
 ·simp only[go_sem,ab,reduceCtorEq,a];simp
 clear B v a;rintro i s1 a8 ⟨a,f6,b,N⟩;by_cases K:(i:Int)<es.length
 ·have F:i<es.length:=by lia
  have wi:=dr ((i:Int)+1) (by lia) (by lia)
  have no:Ty es i=ag->(ye es&&(Jh es&&Ly ls es))=false:=λh=>by rw[show ye es=ag from all_false F h];rfl
  simp only[go_sem,ab,ak,ao,reduceCtorEq,f6,b,al,K,Et F,bn,aw];cases c1:((es.getD i e0).1.1==(es.getD i e0).2.1&&(es.getD i e0).1.2==(es.getD i e0).2.2)
  ·simp only[go_sem,ab];refine gf es.length (λk s'=>s'.tmp 0= .d (.gd 1 (ls.map λl=>[uu l]))/\s'.tmp 6= .d (.gd 4 (es.map Ep))/\s'.tmp 7= .d (.int aj i)/\s'.tmp 8= .d (.int aj k)/\∀u,u<k->(!Zy (es.getD i e0) (es.getD u e0)&& !X7 i u (es.getD i e0) (es.getD u e0))=ah) ?_ ?_
   ·simp only[go_sem,ab,reduceCtorEq,a,f6,b];simp
   rintro k s2 b1 ⟨a,f6,b,c,Q⟩;by_cases J:(k:Int)<es.length
   ·have o:k<es.length:=by lia
    have wk:=dr ((k:Int)+1) (by lia) (by lia)
    have X:(!Zy (es.getD i e0) (es.getD k e0)&& !X7 i k (es.getD i e0) (es.getD k e0))=ag->(ye es&&(Jh es&&Ly ls es))=false:=λh=>no (by
     unfold Ty
     rw[all_false o h,sf])
    have V:=a9b A (r i F).1 (r k o).1.1;have q:=CN A (r i F).1 (r k o).1;simp only[dEd,Aa]at V q;simp only[go_sem,ab,ak,ao,reduceCtorEq,f6,b,c,al,J,Et F,Et o,bn,aw];have C:=Et F;have D:=Et o
    generalize a6:es.getD i e0=f at*
    generalize a1:es.getD k e0=g at*
    refine Zd (λs'=>s'.tmp 0= .d (.gd 1 (ls.map λl=>[uu l]))/\s'.tmp 6= .d (.gd 4 (es.map Ep))/\s'.tmp 7= .d (.int aj i)/\s'.tmp 8= .d (.int aj k)/\s'.tmp 122= .d (.bool (Zy f g))) ?_ ?_
    ·cases y:(g.1.1==f.1.1&&g.1.2==f.1.2)
     ·cases c3:(g.1.1==f.2.1&&g.1.2==f.2.2)
      ·simp only[go_sem,ab,ak,ao,f6,b,c,C,D,bn,aw,c3];refine ir V ?_;cases c4:onB f g.1
       ·simp only[go_sem,ab,ak,f6,b,c,C,D,bn,aw];refine ir q ?_;simp only[go_sem,ab,reduceCtorEq,a,f6,b,c,Zy,w9,y,c3,c4,C0,sf]
       simp only[go_sem,ab,reduceCtorEq,a,f6,b,c,Zy,w9,y,c3,c4,D1]
      simp only[go_sem,ab,ak,ao,f6,b,c,C,D,bn,aw,c3];refine ir q ?_;simp only[go_sem,ab,reduceCtorEq,a,f6,b,c,Zy,w9,y,c3,C0,fh,sf]
     simp only[go_sem,ab,ak,f6,b,c,C,D,bn,aw];refine ir q ?_;simp only[go_sem,ab,reduceCtorEq,a,f6,b,c,Zy,w9,y,C0,fh]
    rintro s3 ⟨a,f6,b,c,m⟩;cases L:Zy f g
    ·rw[L]at m;simp only[go_sem,ab,reduceCtorEq,b,c,m];refine Zd (λs'=>s'.tmp 0= .d (.gd 1 (ls.map λl=>[uu l]))/\s'.tmp 6= .d (.gd 4 (es.map Ep))/\s'.tmp 7= .d (.int aj i)/\s'.tmp 8= .d (.int aj k)/\s'.tmp 162= .d (.bool (X7 i k f g))) ?_ ?_
     ·by_cases M:i=k
      ·have z:((i:Int) !=(k:Int))=false:=by simp[M]
       have hd:X7 i k f g=false:=by unfold X7;simp[M]
       simp only[go_sem,ab,reduceCtorEq,a,f6,b,c,z,hd]
      have z:((i:Int) !=(k:Int))=true:=by simp;lia
      simp only[go_sem,ab,ak,f6,b,c,z,C,D,bn,aw];cases c7:(f.1.1==g.1.1&&(f.1.2==g.1.2&&(f.2.1==g.2.1&&f.2.2==g.2.2)))
      ·cases c8:(f.1.1==g.2.1&&f.1.2==g.2.2)
       ·simp only[go_sem,ab,ak,ao,reduceCtorEq,a,f6,b,c,c7,c8,C,D,bn,aw,X7,X6,w9,M,C0,fh,sf]
       simp only[go_sem,ab,ak,ao,reduceCtorEq,a,f6,b,c,c7,c8,C,D,bn,aw,X7,X6,w9,M,C0]
      simp only[go_sem,ab,reduceCtorEq,a,f6,b,c,c7,X7,X6,w9,M,D1]
     rintro s4 ⟨a,f6,b,c,n⟩;cases Y:X7 i k f g
     ·rw[Y]at n;simp only[go_sem,ab,reduceCtorEq,a,f6,b,c,wk,o,n];exact⟨by simp,rz Q (by rw[a1,L,Y];rfl)⟩
     rw[Y]at n;simp only[go_sem,n,X (by rw[L,Y];rfl)]
    rw[L]at m;simp only[go_sem,m,X (by rw[L];rfl)]
   have:k=es.length:=by lia
   subst this;simp only[go_sem,ab,reduceCtorEq,a,f6,b,c,al,J,wi,F];refine⟨by simp,rz N ?_⟩;unfold Ty w9;rw[c1,all_true Q];rfl
  have:Ty es i=false:=by unfold Ty w9;rw[c1];rfl
  simp only[go_sem,ab,no this]
 have:i=es.length:=by lia
 subst this;have a0:ye es=true:=all_true N;rw[a0,rv];simp only[go_sem,ab,reduceCtorEq,f6,b,al,K];refine gf es.length (λi s'=>s'.tmp 0= .d (.gd 1 (ls.map λl=>[uu l]))/\s'.tmp 6= .d (.gd 4 (es.map Ep))/\s'.tmp 9= .d (.int aj i)/\∀w,w<i->(U9 es w==1)=ah) ?_ ?_
 ·simp only[go_sem,ab,reduceCtorEq,a,f6];simp
 rintro i s2 a9 ⟨a,f6,f9,O⟩;by_cases dC:(i:Int)<es.length
 ·have Vh:i<es.length:=by lia
  have wi:=dr ((i:Int)+1) (by lia) (by lia);have T:=a2v A es i Vh (by lia) (λe he=>by obtain⟨H,I⟩:=s e he;exact⟨H.1,H.2,I.1,I.2⟩);simp only[T3]at T;simp only[go_sem,ab,reduceCtorEq,f6,f9,al,dC];refine ir T ?_;by_cases c1:U9 es i=1
  ·have x:(U9 es i !=1)=false:=by simp[c1]
   simp only[go_sem,ab,reduceCtorEq,a,f6,f9,x,wi,Vh];exact⟨by simp,rz O (by simp[c1])⟩
  have x:(U9 es i !=1)=true:=by simp[c1]
  have:Jh es=false:=all_false Vh (by simp[c1]);simp only[go_sem,ab,reduceCtorEq,x,this,fh]
 have:i=es.length:=by lia
 subst this;have a2:Jh es=true:=all_true O;simp only[go_sem,ab,reduceCtorEq,a,f6,f9,al,dC];refine ir t ?_;simp only[go_sem,ab,a2]
end
structure Ft where
 k:Int
 vs:List Vl
 ls:List (List Sp)
structure Nd where
 n:ByteArray
 f:Ft
 ins:List ByteArray
structure Tr where
 ps:List Pm
 ns:List Nd
def cFt(f:Ft):List D:=[.int aj f.k,qx f.vs,kh f.ls]
def pa(n:Nd):List D:=[.str n.n,.int aj n.f.k,qx n.f.vs,kh n.f.ls,kn n.ins]
def lr(l:List Nd):D:= .gd 5 (l.map pa)
def vt(t:Tr):List D:=[ki t.ps,lr t.ns]
def v0:Vl:=⟨⟨#[]⟩,0,0⟩
def pT(vs:List Vl):Bool:=(fc vs.length).all λi=>Lx (vs.getD i v0)
def kP(k:Int):Bool:=k==1||(k==2||k==3)
def yc(pr:List (List Sp)->Bool)(f:Ft):Bool:=
 decide (0<=f.k/\f.k<14)&&(((f.vs.length:Int)==Ji f.k.toNat)&&(pT f.vs&&(if kP f.k then pr f.ls else(f.ls.length:Int)==0)))
theorem SD{k:Nat}(h:k<14):((zC k).toList==(⟨#[]⟩:ByteArray).toList)=false:=by
 match k,h with
 |0,_|1,_|2,_|3,_|4,_|5,_|6,_|7,_|8,_|9,_|10,_|11,_|12,_|13,_=>decide+kernel
 |n+14,h=>lia
theorem Wq{l:List Vl}{k:Nat}(h:k<l.length):(l.map B4)[k]? =aa [.str (l.getD k v0).n,.int aj (l.getD k v0).t,.int aj (l.getD k v0).a]:=by
 simp[h,B4,cz]
section
variable{P:Program}(A:Pr P)
theorem qK(f:Ft)(z:f.vs.length<=2^30)(w:f.ls.length<=2^30)(x:∀l∈f.ls,l.length<=2^30):iv P A.yv [.agg (cFt f)] (.bool (yc oe f)):=by
 refine ez A.mo A.oQ (by simp) ?_;show l7 P (Rb A.Cd A.F9 A.An A.Ge) (ly _ _) _;simp only[Rb,cFt,qx,kh,go_sem,ab,ak,ao];refine gq (CS A _) ?_;by_cases h:0<=f.k/\f.k<14
 ·have g:f.k.toNat<14:=by lia
  have p:((f.k.toNat:Nat):Int)=f.k:=by lia
  have t:=PZ A g;rw[p]at t;rw[bc h];simp only[go_sem,ab,ak,ao,SD g,al];refine gq t ?_;by_cases c1:(f.vs.length:Int)=Ji f.k.toNat
  ·have b:((f.vs.length:Int) !=Ji f.k.toNat)=false:=by simp[c1]
   simp only[go_sem,ab,reduceCtorEq,b];refine gf f.vs.length (λi s'=>s'.tmp 1= .gz 1 (s'.ba 1) 0/\s'.di 1=aa (.loc [.d (.int aj f.k),.d (.gd 3 (f.vs.map B4)),.d (.gd 1 (f.ls.map λl=>[uu l]))])/\s'.tmp 3= .d (.int aj i)/\∀u,u<i->Lx (f.vs.getD u v0)=ah) ?_ ?_
   ·simp only[go_sem,ab];simp
   rintro i s' y ⟨e,a,n,s⟩;by_cases v:(i:Int)<f.vs.length
   ·have m:i<f.vs.length:=by lia
    have wi:=dr ((i:Int)+1) (by lia) (by lia);simp only[go_sem,ab,ak,ao,reduceCtorEq,e,a,n,al,v,Wq m,bn,aw];refine gq (tH A (f.vs.getD i v0)) ?_;cases r:Lx (f.vs.getD i v0)
    ·have:yc oe f=false:=by unfold yc;rw[show pT f.vs=ag from all_false m r];simp only[fh,sf]
     simp only[go_sem,ab,this]
    simp only[go_sem,ab,reduceCtorEq,e,a,n,wi,m];exact⟨by simp,rz s r⟩
   have:i=f.vs.length:=by lia
   subst this;have q:pT f.vs=true:=all_true s
   have o:yc oe f=if kP f.k then oe f.ls else(f.ls.length:Int)==0:=by
    unfold yc
    have c:((f.vs.length:Int)==Ji f.k.toNat)=true:=by simp[c1]
    rw[decide_eq_true h,q,c];rfl
   rw[o];have j:=KR A f.ls w x;simp only[kh]at j;unfold kP;simp only[go_sem,ab,ak,ao,reduceCtorEq,e,a,n,al,v];cases q1:(f.k==1)
   ·cases q2:(f.k==2)
    ·cases q3:(f.k==3)
     ·simp only[go_sem,ab,ak,ao,reduceCtorEq,e,a,al,q2,q3,Bool.or_self]
     simp only[go_sem,ab,ak,ao,reduceCtorEq,e,a,q2,q3,C0];refine gq j ?_;simp only[go_sem,ab]
    simp only[go_sem,ab,ak,ao,reduceCtorEq,e,a,q2,C0,D1];refine gq j ?_;simp only[go_sem,ab]
   simp only[go_sem,ab,ak,e,a,D1];refine gq j ?_;simp only[go_sem,ab]
  have b:((f.vs.length:Int) !=Ji f.k.toNat)=true:=by simp[c1]
  have c:((f.vs.length:Int)==Ji f.k.toNat)=false:=by simp[c1]
  have:yc oe f=false:=by unfold yc;rw[c];simp only[fh,sf]
  simp only[go_sem,ab,reduceCtorEq,b,this]
 have:yc oe f=false:=by unfold yc;rw[decide_eq_false h];rfl
 rw[aq h];simp only[go_sem,ab,ff,this]
end
end Go.PI
