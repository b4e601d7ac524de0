/- A part of the proof for HistoryApplies: PS12 to PS27. Printed from longer texts. -/
import Derived.Test.YtjhpceooekjbfaaGreatDoorA
import Derived.MapKept
import Derived.Scope
import Derived.Deep.LoopGhost
set_option linter.all false
set_option maxHeartbeats 64000000
open Array renaming all_eq_true_iff_forall_mem->Lu,getD_eq_getD_getElem?->kl,getElem?_append_left->Bn,getElem?_append_right->jA,getElem?_eq_getElem->bz,getElem?_eq_some_iff->la,getElem?_map->Yx,getElem?_modify->Em,getElem?_push->gB,getElem?_replicate->Xy,getElem?_setIfInBounds->a1w,getElem?_setIfInBounds_ne->Xx,getElem?_setIfInBounds_self->Ut,getElem?_toList->ad5,length_toList->x9,mapM_eq_mapM_toList->sK,range->afb,replicate->iK
open Bool renaming and_eq_true->dc,false->ag,false_eq_true->gp,not_eq_true'->ot,or_eq_true->Oi,true->ah
open Go.Builtin renaming append_->A9,len_->aes
open Go.Code renaming region->aew
open Go.Deferred renaming ofValue->a1v
open Go.Ending renaming returned->adl
open Go.Instr renaming alloc->aev,build->aeu,buildSlice->sH,checkKey->JL,entryStore->acm,extract->ady,findAsking->a1u,findNow->ack,keyThatStays->JK,loadAt->aeq,lookup->af0,makeFunc->aec,mapEntry->aeb,mapUpdate->VQ,sameBits->JJ,sameNow->aci,sliceAt->As,storeAt->a8r,sureAddr->a5p
open Go.IntKind renaming i64->aj
open Go.Next renaming value->JB
open Go.Op renaming equal->ad8,maxDepth->af3
open Go.Oper renaming upon_enter->ad7,wp->afr
open Go.Program renaming cellsOf->a8k
open Go.Region renaming binds->ad6,ready->J7,wanted->ado
open Go.Result renaming andThen_ok->br
open Go.Sem renaming run_bind->df,run_map->af5,run_pure->fl
open Go.Value renaming slice->af1
open List renaming all_cons->X8,all_eq_true->dg,append_of_mem->nS,cons_append->qc,contains_eq_mem->adg,drop_drop->JF,eq_nil_iff_forall_not_mem->VO,eq_nil_of_length_eq_zero->jf,ext_getElem?->wJ,filter_append->Jy,filter_cons->Bl,filter_eq_self->Qx,flatMap_cons->a8x,getD->cz,getElem?_append_left->kq,getElem?_append_right->l9,getElem?_cons_succ->mq,getElem?_cons_zero->iw,getElem?_drop->pv,getElem?_eq_getElem->bh,getElem?_eq_none->nQ,getElem?_eq_some_iff->bd,getElem?_map->dn,getElem?_range->Nk,getElem?_replicate->S6,getElem?_set->u7,getElem?_toArray->B7,getElem_mem->dj,length->Ae,length_append->dz,length_cons->cq,length_flatten->adr,length_map->al,length_nil->ew,map->afi,map_append->fj,map_congr_left->Nj,map_cons->du,map_drop->a1s,map_take->Mm,mem_append->jz,mem_append_left->sE,mem_append_right->nP,mem_cons->fa,mem_cons_of_mem->sD,mem_filter->ya,mem_flatMap->K3,mem_iff_getElem->j0,mem_map->j6,mem_range->er,mem_singleton->Q9,not_mem_nil->kz,pairwise_append->sA,pairwise_cons->yh,pairwise_map->U5,range->fc,range'->GO,range'_succ->ace,range_eq_range'->ade,replicate->jq,set_append_right->nO,sum_replicate_nat->acd
open List.Pairwise renaming filter->adi
open List.cons renaming injEq->iI
open Nat renaming add_mul->kj,le_refl->bm,mul_eq_zero->ad9,mul_le_mul_right->ig,one_mul->Cj,sub_zero->Wt,zero_add->gj
open Ne renaming symm->P8
open Option renaming bind_eq_some_iff->BS,bind_some->rX,getD_some->jj,isSome_iff_exists->ma,map_eq_some_iff->ax,map_some->jc,none->ae,some->aa,toList_some->JA
open Option.some renaming injEq->av
open Prod.mk renaming inj->af2,injEq->db
namespace Go.PI
open Go Go.RowKit
section
variable{P:Program}{B0 nt:Nat}{w0 w w':World}{G0 G G':ix}{s s':PS}{E E':Env}{a:Act}
theorem a0d(G:ix)(w:World)(W:Bool):∀(n:Nat) (t:TypeId) (l:List LK),Cl P n t=aa l->∀m,n<=m->∀g,C1 P t=aa g->∀(us:Array Value),us.size=l.length->
  (JL W m t (Gu g us)).run P w= .ok () w:=by
 intro n
 induction n with
 |zero=>intro t l h;cases h
 |succ n X=>
  intro t l h m hm g C us Y;obtain⟨m,rfl⟩:∃k,m=k+1:=⟨m-1,by lia⟩
  have b:∀(k:LK) (d:TypeDesc),P.underlying t=aa d->k.fits d=ah->(JL W (m+1) t (Gu g us)).run P w= .ok () w:=by
   intro k d c hd;generalize Gu g us=v;unfold JL;simp only[df,underlying,run_program,br,c,fl];cases d<;>simp[LK.fits]at hd<;>cases v<;>rfl
  have h0:=h;simp only[Cl]at h;split at h
  ·rename_i c;split at h
   ·injection h with h;exact b .bool _ c rfl
   cases h
  ·rename_i k c;split at h
   ·injection h with h;exact b .int _ c rfl
   cases h
  ·rename_i c;split at h
   ·injection h with h;exact b .str _ c rfl
   cases h
  ·rename_i len e c;split at h
   ·rename_i le F;split at h
    ·rename_i hs
     injection h with h
     subst h
     have x:g=true:=by unfold C1 at C;rw[c]at C;simpa using C.symm
     subst x;obtain⟨u,A,B,T,_⟩:=a06 (G:=G) (w:=w) n e le F n (bm _)
     have R:us.size=len*le.length:=by simpa using Y
     simp only[Gu,da];unfold JL;simp only[df,underlying,run_program,br,c,fl];simp only[Std.Legacy.Range.forIn_eq_forIn_range',Std.Legacy.Range.size,Wt,Nat.add_one_sub_one,Nat.div_one]
     have p:∀i∈GO 0 len,i<len:=by
      intro i N;simp[List.mem_range']at N;lia
     generalize GO 0 len=is at p
     induction is with
     |nil=>simp
     |cons j is z=>
      have hj:j*le.length+le.length<=us.size:=by
       have:=p j (by simp);rw[R];have:(j+1)*le.length<=len*le.length:=ig _ this;rw[kj,Cj]at this;exact this
      have U:=Ma (w:=w) A B T hj;have V:=X e le F m (by lia) u B (us.extract (j*le.length) (j*le.length+le.length)) (by simp;lia);simp only[List.forIn_cons,df,u6 A,br,U,V,fl];exact z (λy hy=>p y (by simp[hy]))
    cases h
   cases h
  ·rename_i fs c;split at h
   ·split at h
    ·rename_i M O;split at h
     ·injection h with h
      subst h
      have x:g=true:=by unfold C1 at C;rw[c]at C;simpa using C.symm
      subst x;simp only[Gu,da];unfold JL;simp only[df,underlying,run_program,br,c,fl];rw[<-Array.forIn_toList]
      have key:∀(L:List Field) (off:Nat) (l:List LK),Ho P (Cl P n) L off=aa l->off+l.length<=us.size->
        ∀f∈L,f.name≠ "_"/\∃u,(part f.type us f.offset).run P w= .ok (Gu u (us.extract f.offset (f.offset+(P.cellsOf f.type)))) w/\
         ∃M,Cl P n f.type=aa M/\C1 P f.type=aa u/\(us.extract f.offset (f.offset+(P.cellsOf f.type))).size=M.length:=by
       intro L
       induction L with
       |nil=>intro off l _ _ f D;cases D
       |cons f0 r S=>
        intro off l o H f D;simp only[Ho]at o;split at o
        ·rename_i K;split at o
         ·rename_i J q;split at o
          ·rename_i I;split at o
           ·rename_i mr Q
            injection o with o
            subst o;simp only[dz]at H;rcases fa.1 D with rfl|D
            ·obtain⟨u,A,B,T,_⟩:=a06 (G:=G) (w:=w) n _ J q n (bm _)
             have Z:P.cellsOf f.type=J.length:=by
              unfold lx at A;simp only[ax]at A;obtain⟨i,N,he⟩:=A;simp[a8k,N,he]
             rw[Z,K.2];exact⟨K.1,u,Ma A B T (by lia),J,q,B,by simp;lia⟩
            exact S _ _ Q (by lia) f D
           cases o
          cases o
         cases o
        cases o
      have key:=key fs.toList 0 M O (by lia);generalize fs.toList=L at key
      induction L with
      |nil=>simp
      |cons f L z=>
       obtain⟨K,u,U,J,q,B,I⟩:=key f (by simp);have V:=X f.type J q m (by lia) u B _ I;simp only[List.forIn_cons,df,K,ne_eq,not_false_eq_true,da,br,U,V,fl];exact z (λy hy=>key y (by simp[hy]))
     cases h
    cases h
   cases h
  cases h
def Jj{α:Type}(b:KK)(k:D):List (D×α)->Nat->Option (Option Nat)
 |[],_=>aa ae
 |(a,_)::r,i=>match G3 b k a with
  |some ah=>aa (aa i)
  |some ag=>Jj b k r (i+1)
  |none=>ae
theorem rD{α:Type}{g:KK}{k:D}:∀{ds:List (D×α)} {r:Option α} (i:Nat),Iv g k ds=aa r->(r=ae/\Jj g k ds i=aa ae)\/∃j e,Jj g k ds i=aa (aa (i+j))/\ds[j]? =aa e/\r=aa e.2:=by
 intro ds
 induction ds with
 |nil=>intro r i h;simp only[Iv]at h;split at h<;>cases h;exact .inl ⟨rfl,rfl⟩
 |cons e ds m=>
  obtain⟨a,b⟩:=e;intro r i h;simp only[Iv]at h;split at h
  ·rename_i c
   injection h with h
   subst h;exact .inr ⟨0,(a,b),by simp[Jj,c],rfl,rfl⟩
  ·rename_i c;rcases m (i+1) h with ⟨d,f⟩|⟨j,e,d,f,l⟩
   ·exact .inl ⟨d,by simp[Jj,c,f]⟩
   exact .inr ⟨j+1,e,by simp only[Jj,c,d];congr 2;lia,by simpa using f,l⟩
  cases h
theorem SI{α:Type}{f:KK}{k:D}{v:α}:∀{ds c:List (D×α)} (i:Nat),O9 f k v ds=aa c->(c=ds++[(k,v)]/\Jj f k ds i=aa ae)\/
  ∃j e,Jj f k ds i=aa (aa (i+j))/\ds[j]? =aa e/\G3 f k e.1=aa ah/\c=ds.set j (k,v):=by
 intro ds
 induction ds with
 |nil=>intro c i h;simp only[O9]at h;split at h<;>cases h;exact .inl ⟨rfl,rfl⟩
 |cons e ds o=>
  obtain⟨a,b⟩:=e;intro c i h;simp only[O9]at h;split at h
  ·rename_i d
   injection h with h
   subst h;exact .inr ⟨0,(a,b),by simp[Jj,d],rfl,d,rfl⟩
  ·rename_i d;simp only[ax]at h;obtain⟨d1,h,rfl⟩:=h;rcases o (i+1) h with ⟨g,l⟩|⟨j,e,g,l,m,n⟩
   ·exact .inl ⟨by simp[g],by simp[Jj,d,l]⟩
   exact .inr ⟨j+1,e,by simp only[Jj,d,g];congr 2;lia,by simpa using l,m,by simp[n]⟩
  cases h
theorem Z8{k:LK}{d:TypeDesc}(e:k.fits d=ah){x y:D}{b:Bool}(c:Ps k x y=aa b){u v:Value}(hx:iz G x u)(hy:iz G y v):aci d u v=aa b:=by
 unfold Ps at c;split at c
 ·split at c
  ·rename_i h;subst h
   injection c with c
   subst c;cases hx;cases hy;cases d<;>simp[LK.fits]at e;simp[aci]
  cases c
 ·injection c with c
  subst c;cases hx;cases hy;cases d<;>simp[LK.fits]at e;simp[aci]
 ·injection c with c
  subst c;cases hx;cases hy;cases d<;>simp[LK.fits]at e;simp[aci]
 cases c
theorem Xc{k:LK}{x y:D}(b:Ps k x y=aa ah){u v:Value}(hx:iz G x u)(hy:iz G y v)(n:Nat):JJ n v u=true:=by
 unfold Ps at b;split at b
 ·split at b
  ·rename_i h;subst h;simp only[av,beq_iff_eq]at b;subst b;cases hx;cases hy;cases n<;>simp[JJ]
  cases b
 ·simp only[av]at b;have b:=(MapKept.bytes_beq _ _).1 b;subst b;cases hx;cases hy;cases n<;>simp[JJ,MapKept.bytes_beq]
 ·simp only[av,beq_iff_eq]at b;subst b;cases hx;cases hy;cases n<;>simp[JJ]
 cases b
theorem sZ{n:Nat}:∀{ks:List LK} {xs ys:List D},C3 ks xs ys=aa ah->∀{us vs:List Value},us.length=xs.length->vs.length=ys.length->
  (∀(i:Nat) (x:D) (u:Value),xs[i]? =aa x->us[i]? =aa u->iz G x u)->(∀(i:Nat) (x:D) (u:Value),ys[i]? =aa x->vs[i]? =aa u->iz G x u)->
  ((vs.zip us).all λ(x,y)=>JJ n x y)=true:=by
 intro ks
 induction ks with
 |nil=>intro xs ys h us vs b d;cases xs<;>cases ys<;>simp_all [C3]
 |cons k ks l=>
  intro xs ys h us vs b d f g
  cases xs with
  |nil=>simp[C3]at h
  |cons a xs=>
   cases ys with
   |nil=>simp[C3]at h
   |cons c ys=>
    simp only[C3]at h;split at h
    ·rename_i p q j e2;simp only[av,dc]at h;obtain⟨rfl,rfl⟩:=h
     match us,vs,b,d with
     |u::us,v::vs,b,d=>
      simp only[List.zip_cons_cons,X8,dc]
      exact⟨Xc j (f 0 a u rfl rfl) (g 0 c v rfl rfl) n,
       l e2 (by simpa using b) (by simpa using d) (λi x u hx e=>f (i+1) x u (by simpa using hx) (by simpa using e)) (λi x u hx e=>g (i+1) x u (by simpa using hx) (by simpa using e))⟩
    cases h
theorem Z9{g:KK}{x y:D}(b:G3 g x y=aa ah){u v:Value}(hx:iz G x u)(hy:iz G y v):JJ 10000 v u=true:=by
 unfold G3 at b;split at b
 ·exact Xc b hx hy _
 ·cases hx with
  |agg h e=>
   cases hy with
   |agg j f=>
    obtain⟨k,l⟩:=Si b;rename_i us vs;have c:=sZ (n:=9999) b (us:=us.toList) (vs:=vs.toList) (by simpa using h) (by simpa using j) (λi x u hx d=>e i x u hx (by simpa using d)) (λi x u hx d=>f i x u hx (by simpa using d));unfold JJ;simp only[dc,beq_iff_eq];exact⟨by lia,c⟩
 cases b
theorem pV{t:TypeId}{k:LK}(h:S9 P t=aa (.one k)):∃d,P.underlying t=aa d/\k.fits d=ah/\Cl P 8 t=aa [k]/\C1 P t=aa false:=by
 unfold S9 at h;split at h
 ·rename_i g b c
  injection h with h
  injection h with h
  subst h;have f:=b;simp only[Cl]at b;split at b
  ·rename_i e;split at b<;>simp at b;subst b;exact⟨_,e,rfl,f,c⟩
  ·rename_i e;split at b<;>simp at b;subst b;exact⟨_,e,rfl,f,c⟩
  ·rename_i e;split at b<;>simp at b;subst b;exact⟨_,e,rfl,f,c⟩
  ·rename_i e;unfold C1 at c;rw[e]at c;cases c
  ·rename_i e;unfold C1 at c;rw[e]at c;cases c
  cases b
 ·cases h
 cases h
theorem pU{t:TypeId}{ks:List LK}(h:S9 P t=aa (.row ks)):∃d,P.underlying t=aa d/\(∀u v,aci d u v=ae)/\Cl P 8 t=aa ks/\C1 P t=aa true:=by
 unfold S9 at h;split at h
 ·cases h
 ·rename_i e c
  injection h with h
  injection h with h
  subst h;unfold C1 at c;split at c
  ·rename_i b;exact⟨_,b,λu v=>by cases u<;>cases v<;>rfl,e,by unfold C1;rw[b]⟩
  ·rename_i b;exact⟨_,b,λu v=>by cases u<;>cases v<;>rfl,e,by unfold C1;rw[b]⟩
  ·cases c
  cases c
 cases h
theorem To{c:KK}{x y:D}{b:Bool}(h:G3 c x y=aa b):Qk c x=true:=by
 unfold G3 at h;split at h
 ·rfl
 ·obtain⟨d,_⟩:=Si h;simp[Qk,d]
 cases h
theorem kH{α:Type}{d:KK}{k:D}:∀{ds:List (D×α)} {r:Option α},Iv d k ds=aa r->Qk d k=ah
 |[],_,h=>by simp only[Iv]at h;split at h<;>simp_all
 |(a,b)::ds,r,h=>by
  simp only[Iv]at h;split at h
  ·rename_i c;exact To c
  ·rename_i c;exact To c
  cases h
theorem LM{α:Type}{d:KK}{k:D}{v:α}:∀{ds r:List (D×α)},O9 d k v ds=aa r->Qk d k=ah
 |[],_,h=>by simp only[O9]at h;split at h<;>simp_all
 |(a,b)::ds,r,h=>by
  simp only[O9]at h;split at h
  ·rename_i c;exact To c
  ·rename_i c;exact To c
  cases h
theorem cW{c:KK}{t:TypeId}(h:S9 P t=aa c){k:D}{v:Value}(n:iz G k v)(b:Qk c k=ah)(e:Bool):
  (JL e 10000 t v).run P w= .ok () w:=by
 have m:(∃ks xs,c= .row ks/\k= .agg xs/\xs.length=ks.length)\/∃l,c= .one l:=by
  unfold Qk at b;split at b
  ·exact .inr ⟨_,rfl⟩
  ·exact .inl ⟨_,_,rfl,rfl,by simpa using b⟩
  cases b
 rcases m with ⟨ks,xs,rfl,rfl,p⟩|⟨l,rfl⟩
 ·obtain⟨d,f,_,g,i⟩:=pU h
  cases n with
  |agg q o=>exact a0d G w e 8 t ks g 10000 (by lia) ah i _ (by lia)
 obtain⟨d,f,j,_,_⟩:=pV h;unfold JL;simp only[df,underlying,run_program,br,f,fl];cases d<;>simp[LK.fits]at j<;>cases v<;>rfl
theorem AJ{α:Type}{k:LK}{d:TypeDesc}(p:k.fits d=ah){o:D}{t:Value}(q:iz G o t):∀{ds:List (D×α)} {es:List MapEntry} {i:Nat} {r:Option Nat},Jj (.one k) o ds i=aa r->es.length=ds.length->
  (∀(j:Nat) (e:D×α) (x:MapEntry),ds[j]? =aa e->es[j]? =aa x->iz G e.1 x.key)->
  ack d t es i=aa (r.map λj=>(j,((es[j-i]?).map (·.val)).getD undef)):=by
 intro ds
 induction ds with
 |nil=>intro es i r h c g;cases es with
  |nil=>simp only[Jj,av]at h;subst h;rfl
  |cons _ _=>cases c
 |cons e ds l=>
  obtain⟨a,b⟩:=e;intro es i r h c g
  cases es with
  |nil=>cases c
  |cons x es=>
   have n:=g 0 (a,b) x rfl rfl;simp only[Jj]at h;split at h
   ·rename_i f
    injection h with h
    subst h;simp[ack,Z8 p f q n]
   ·rename_i f;simp only[ack,Z8 p f q n];rw[l h (by simpa using c) (λj e x v hx=>g (j+1) e x (by simpa using v) (by simpa using hx))]
    cases r with
    |none=>rfl
    |some j=>
     have y:i+1<=j:=by
      clear c g l f n
      have:∀(ds:List (D×α)) (i j:Nat),Jj (.one k) o ds i=aa (aa j)->i<=j:=by
       intro ds
       induction ds with
       |nil=>intro i j h;cases h
       |cons e ds l=>
        intro i j h;simp only[Jj]at h;split at h
        ·injection h with h;injection h with h;lia
        ·have:=l _ _ h;lia
        cases h
      exact this _ _ _ h
     obtain⟨m,rfl⟩:∃m,j=i+1+m:=⟨j-(i+1),by lia⟩
     have u:i+1+m-i=m+1:=by lia
     have e2:i+1+m-(i+1)=m:=by lia
     simp[u,e2]
   cases h
theorem ID{α:Type}{d:KK}{c:D}:∀{ds:List (D×α)} {i j:Nat},Jj d c ds i=aa (aa j)->i<=j:=by
 intro ds
 induction ds with
 |nil=>intro i j h;cases h
 |cons e ds b=>
  intro i j h;simp only[Jj]at h;split at h
  ·injection h with h;injection h with h;lia
  ·have:=b h;lia
  cases h
theorem lX{α:Type}{ks:List LK}{t:TypeId}(C:Cl P 8 t=aa ks)(F:C1 P t=aa ah){o:D}{p:Value}(H:iz G o p):∀{ds:List (D×α)} {es:List MapEntry} {i:Nat} {r:Option Nat},Jj (.row ks) o ds i=aa r->es.length=ds.length->
  (∀(j:Nat) (e:D×α) (x:MapEntry),ds[j]? =aa e->es[j]? =aa x->iz G e.1 x.key)->
  (a1u t p es i).run P w= .ok (r.map λj=>(j,((es[j-i]?).map (·.val)).getD undef)) w:=by
 have q:∀{a:D} {v:Value} {b:Bool},G3 (.row ks) o a=aa b->iz G a v->(ad8 t p v).run P w= .ok b w:=by
  intro a v b c B;obtain⟨g,N,k,O,J⟩:=a06 (G:=G) (w:=w) 8 t ks C af3 (by decide);rw[F]at k
  injection k with k
  subst k;unfold G3 at c;split at c
  ·rename_i d;cases d
  ·rename_i d
   injection d with d
   subst d
   cases H with
   |agg K z=>
    cases B with
    |agg L A=>exact J _ _ _ _ b ⟨K,z⟩ ⟨L,A⟩ c
  cases c
 intro ds
 induction ds with
 |nil=>intro es i r h f n;cases es with
  |nil=>simp only[Jj,av]at h;subst h;simp[a1u]
  |cons _ _=>cases f
 |cons e ds I=>
  obtain⟨a,b⟩:=e;intro es i r h f n
  cases es with
  |nil=>cases f
  |cons x es=>
   have u:=n 0 (a,b) x rfl rfl;simp only[Jj]at h;split at h
   ·rename_i l
    injection h with h
    subst h;simp[a1u,q l u]
   ·rename_i l;simp only[a1u,df,q l u,br,gp,bp];rw[I h (by simpa using f) (λj e x c hx=>n (j+1) e x (by simpa using c) (by simpa using hx))]
    cases r with
    |none=>rfl
    |some j=>
     have M:=ID h;obtain⟨m,rfl⟩:∃m,j=i+1+m:=⟨j-(i+1),by lia⟩
     have y:i+1+m-i=m+1:=by lia
     have e2:i+1+m-(i+1)=m:=by lia
     simp[y,e2]
   cases h
theorem Vt{α:Type}{g:KK}{t:TypeId}(h:S9 P t=aa g){m:D}{n:Value}(i:iz G m n){ds:List (D×α)}{es:List MapEntry}{r:Option Nat}(b:Jj g m ds 0=aa r)(c:es.length=ds.length)
  (l:∀(j:Nat) (e:D×α) (x:MapEntry),ds[j]? =aa e->es[j]? =aa x->iz G e.1 x.key):
  (Instr.findKey t n es).run P w= .ok (r.map λj=>(j,((es[j]?).map (·.val)).getD undef)) w:=by
 unfold Instr.findKey
 cases g with
 |one k=>
  obtain⟨d,f,q,_,_⟩:=pV h;simp only[df,underlying,run_program,br,f,fl,AJ q i b c l,Wt]
 |row ks=>
  obtain⟨d,f,u,o,p⟩:=pU h;simp only[df,underlying,run_program,br,f,fl]
  cases es with
  |nil=>
   cases ds with
   |nil=>simp only[Jj,av]at b;subst b;simp[ack]
   |cons _ _=>cases c
  |cons x es=>
   simp only[ack,u];rw[lX o p i b c l];simp only[Wt]
end
section
variable{P:Program}{B0 nt:Nat}{w0 w w':World}{G0 G G':ix}{s s':PS}{E E':Env}{a:Act}
theorem RT(h:jw B0 w0 nt G0 s G E a w){x:V}{es:List (D×C)}(hx:Lc s x=aa es){v:Value}(f:j4 G E s x v):
  ∃ents:Array MapEntry,ents.size=es.length/\(∀(i:Nat) (e:D×C) (x:MapEntry),es[i]? =aa e->ents[i]? =aa x->iz G e.1 x.key/\zx G E s e.2 x.val)/\
   ((v= .map ae/\ents= #[])\/∃r clock,v= .map (aa r)/\w.heap[r]? =aa (.map ents clock)):=by
 unfold Lc at hx;split at hx
 ·injection hx with hx
  subst hx;cases f;exact⟨#[],rfl,λi e x c _=>by simp at c,.inl ⟨rfl,rfl⟩⟩
 ·injection hx with hx
  subst hx
  cases f with
  | @map _ r fs l u m n=>
   obtain⟨ents,clock,g,d⟩:=h.gok.mv _ _ l
   have t:ents.size=fs.length:=by rw[<-d];simp
   refine⟨ents,by simp only[al];lia,λi e x c hx=>?_,.inr ⟨r,clock,rfl,g⟩⟩
   have k:fs[i]? =aa (x.key,x.val):=by rw[<-d];simp[hx]
   simp only[dn,ax]at c;obtain⟨j,b,rfl⟩:=c;exact⟨m i j _ b k,n i j _ b k⟩
 ·rename_i id ba;unfold PS.ents at hx;split at hx
  ·rename_i q;obtain⟨_,o⟩:=f;obtain⟨_,_,ents,clock,g,d,p,_⟩:=h.mp id es hx;exact⟨ents,d,p,.inr ⟨_,clock,o q (by rw[hx];rfl),g⟩⟩
  cases hx
 cases hx
def Cp(w:World)(r:Nat)(o:Obj):World:={w with heap:=w.heap.setIfInBounds r o}
theorem Pb{r:Nat}{ents:Array MapEntry}{clock:Nat}(h:w.heap[r]? =aa (.map ents clock))(o:Obj):(setObj r o).run P w= .ok () (Cp w r o):=by
 simp[setObj,Sem.run,h,Cp]
theorem Bh.Cp{r:Nat}{d:Obj}(h:w.heap[r]? =aa d)(o:Obj):Bh w (Cp w r o) r o:=by
 have c:=(la.1 h).1;exact⟨rfl,rfl,rfl,rfl,by simp[PI.Cp],λk b=>by simp[PI.Cp,a1w,P8 b],by simp[PI.Cp,c]⟩
theorem YP{cs:List C}{vs:Array Value}(b:vs.size=cs.length)(h:∀(i:Nat) (c:C) (u:Value),cs[i]? =aa c->vs[i]? =aa u->zx G E s c u):j4 G E s (mkt cs) (.tuple vs):=by
 unfold mkt
 cases f:Mj cs with
 |some ds=>
  have e:=T7 f;subst e;exact iz.Bb (by simpa using b) λi x v hx g=>h i (.d x) v (by simp[hx]) g
 |none=>exact Lg.2 ⟨_,rfl,b,h⟩
theorem a07{x:V}{c:C}{v:Value}(b:x.ent s=aa c)(e:j4 G E s x v):zx G E s c v:=by
 cases x with
 |d y=>simp only[V.ent,av]at b;subst b;exact e
 |ref i u l=>simp only[V.ent]at b;split at b<;>simp at b;subst b;exact e
 |o8 i u=>simp only[V.ent]at b;split at b<;>simp at b;subst b;exact e
 |gz i u o=>simp only[V.ent]at b;split at b<;>simp at b;subst b;exact e
 |_=>cases b
theorem eF.push{ents:Array MapEntry}{clock:Nat}(h:eF ents clock)(k v:Value):eF (ents.push {key:=k,val:=v,born:=clock}) (clock+1):=by
 obtain⟨b,c⟩:=h;refine⟨λi x hx=>?_,λi j x y hx hy e=>?_⟩
 ·rw[gB]at hx;split at hx
  ·injection hx with hx;subst hx;exact Nat.lt_succ_self _
  exact Nat.lt_succ_of_lt (b i x hx)
 rw[gB]at hx hy;split at hx
 ·split at hy
  ·lia
  injection hx with hx;subst hx
  have:=b j y hy;simp at e;lia
 split at hy
 ·injection hy with hy;subst hy
  have:=b i x hx;simp at e;lia
 exact c i j x y hx hy e
theorem eF.modify{ents:Array MapEntry}{clock:Nat}(h:eF ents clock)(j:Nat){f:MapEntry->MapEntry}(g:∀e,(f e).born=e.born):eF (ents.modify j f) clock:=by
 obtain⟨c,d⟩:=h
 have get:∀(i:Nat) (x:MapEntry),(ents.modify j f)[i]? =aa x->∃y:MapEntry,ents[i]? =aa y/\x.born=y.born:=by
  intro i x hx;rw[Em]at hx;split at hx
  ·simp only[ax]at hx;obtain⟨y,hy,rfl⟩:=hx;exact⟨y,hy,g y⟩
  exact⟨x,hx,rfl⟩
 refine⟨λi x hx=>?_,λi k x y hx hy e=>?_⟩
 ·obtain⟨z,hz,e⟩:=get i x hx;rw[e];exact c i z hz
 obtain⟨z,hz,m⟩:=get i x hx;obtain⟨l,b,e2⟩:=get k y hy;exact d i k z l hz b (by lia)
theorem uH(h:jw B0 w0 nt G0 s G E a w){t V e:TypeId}{z:Value}{F:D}{M:KK}(n:P.underlying t=aa (.map V e))(hz:(P.info? e).bind (·.zero)=aa z)(K:Yq z=aa F)(q:S9 P V=aa M)
  {x i:ov}{O N:Value}{ok:Bool}(hx:j4 G E s (x.ev s) O)(J:j4 G E s (i.ev s) N){d:Nat}{ids:List Nat}{R:my}(g:(lg.lookup M F x i ok).qi d s=aa (ids,R)):
  ∃u y,(af0 t O N ok).run P w= .ok u w/\ids=[]/\R= .val y/\j4 G E s y u:=by
 simp only[lg.qi]at g;split at g
 ·rename_i es k I Z;rw[Z]at J;split at g
  ·rename_i r U;simp only[my.uk,av,db]at g;obtain⟨rfl,rfl⟩:=g;obtain⟨ents,W,Q,hv⟩:=RT h I hx
   have A:(zeroValue e).run P w= .ok z w:=by
    cases m:P.info? e with
    |none=>rw[m]at hz;cases hz
    |some i=>
     rw[m]at hz;simp only[rX]at hz;simp[zeroValue,typeInfo,m,hz]
   have L:iz G F z:=h.ev (x:= .const z) (o:= .c F) (by simp[xy,K]);have p:=cW (w:=w) q J (kH U) ents.isEmpty
   have run:∀f,Jj M k es 0=aa f->(af0 t O N ok).run P w= .ok (match f with
     |some j=>if ok then .tuple #[((ents.toList[j]?).map (·.val)).getD undef,.bool ah]else((ents.toList[j]?).map (·.val)).getD undef
     |none=>if ok then .tuple #[z,.bool ag]else z) w:=by
    intro f uP;have S:=Vt (P:=P) (w:=w) q J uP (es:=ents.toList) (by simpa using W) (λj e x g hx=>(Q j e x g (by simpa using hx)).1);unfold af0;rcases hv with ⟨rfl,rfl⟩|⟨r',clock,rfl,H⟩
    ·simp only[df,underlying,run_program,br,n,fl,p,S];cases f<;>simp[A]
    simp only[df,underlying,run_program,br,n,fl,Hl H,p,S];cases f<;>simp[A]
   have l:∀{x:C} {v:Value} (b:Bool),zx G E s x v->j4 G E s (if ok then mkt [x,.d (.bool b)]else x.toV) (if ok then .tuple #[v,.bool b]else v):=by
    intro x v b hx
    cases ok with
    |false=>exact hx
    |true=>
     refine YP rfl λi y u hy n=>?_
     match i with
     |0=>simp at hy n;subst hy n;exact hx
     |1=>simp at hy n;subst hy n;exact iz.bool
     |i+2=>simp at hy
   rcases rD 0 U with ⟨rfl,B⟩|⟨j,X,Y,B,rfl⟩
   ·refine⟨_,_,run _ B,rfl,rfl,?_⟩;exact l ag L
   refine⟨_,_,run _ Y,rfl,rfl,?_⟩
   have T:j<ents.size:=by have:=(bd.1 B).1;lia
   have:=(Q j X ents[j] B (bz T)).2;simp only[gj]
   have ev:((ents.toList[j]?).map (·.val)).getD undef=ents[j].val:=by simp[T]
   rw[ev];exact l ah this
  cases g
 cases g
theorem DP(h:jw B0 w0 nt G0 s G E a w){t Z e:TypeId}{S:KK}(X:P.underlying t=aa (.map Z e))(r:S9 P Z=aa S)
  {x k v:ov}{vx f o:Value}(hx:j4 G E s (x.ev s) vx)(n:j4 G E s (k.ev s) f)(B:j4 G E s (v.ev s) o){d:Nat}{dst:Option Nat}{ids:List Nat}{V:my}(b:(lg.cK S x k v).qi d s=aa (ids,V)):
  tz P B0 nt w0 G0 a w dst (((VQ t vx f o).run P w).andThen λ_ w=> .ok .skip w) (V.app dst (s.vz ids)):=by
 simp only[lg.qi]at b;split at b
 ·rename_i id ba kd vd O L M;rw[L]at n;have B:=a07 M B;split at b
  ·rename_i es c;simp only[ax,db]at b;obtain⟨l,U,rfl,rfl⟩:=b;rw[O]at hx;unfold PS.ents at c;split at c
   ·rename_i pg;obtain⟨_,hm⟩:=hx;have N:=hm pg (by rw[c];rfl);subst N;obtain⟨_,_,ents,clock,u,R,F,Y⟩:=h.mp id es c;have q:=cW (w:=w) r n (LM U) ag;have g:=λQ (J:Jj S kd es 0=aa Q)=>Vt (P:=P) (w:=w) r n J (es:=ents.toList) (by simpa using R) (λj e x b hx=>(F j e x b (by simpa using hx)).1)
    have p:∀(z:Array MapEntry) (T:Nat),(VQ t (.map (aa (E.m id))) f o).run P w= .ok () (Cp w (E.m id) (.map z T))->z.size=l.length->
      (∀(i:Nat) (e:D×C) (x:MapEntry),l[i]? =aa e->z[i]? =aa x->iz G e.1 x.key/\zx G E s e.2 x.val)->eF z T->
      tz P B0 nt w0 G0 a w dst (((VQ t (.map (aa (E.m id))) f o).run P w).andThen λ_ w=> .ok .skip w) (my.app dst (s.vz []) (.bQ id l)):=by
     intro z T Kv hl hr I;rw[Kv];exact⟨.skip,undef,_,G,E,_,.no,rfl,.inr ⟨rfl,rfl⟩,h.bQ c (Bh.Cp u _) hl hr I,trivial,rfl⟩
    rcases SI 0 U with ⟨rfl,A⟩|⟨j,e',h1,A,h3,rfl⟩
    ·refine p (ents.push {key:=f,val:=o,born:=clock}) (clock+1) ?_ (by simp[R]) (λi e x b hx=>?_) (Y.push _ _)
     ·unfold VQ;simp only[df,underlying,run_program,br,X,fl,Hl u,q,g _ A,Option.map_none,Pb u]
     by_cases J:i<es.length
     ·rw[kq J]at b;rw[gB,aq (by lia)]at hx;exact F i e x b hx
     rw[l9 (by lia)]at b
     have K:i-es.length=0:=by have:=(bd.1 b).1;simp at this;lia
     rw[K]at b;simp only[iw,av]at b;subst b;rw[gB,bc (by lia)]at hx
     injection hx with hx
     subst hx;exact⟨n,B⟩
    have W:j<ents.size:=by have:=(bd.1 A).1;lia
    refine p (ents.modify j λe=>{e with key:=f,val:=o}) clock ?_ (by simp[R]) (λi e x b hx=>?_) (Y.modify j λ_=>rfl)
    ·unfold VQ;have hs:=Z9 h3 n (F j e' ents[j] A (bz W)).1
     have xv:(JK (((ents[j]?).map (·.key)).getD f) f).run P w= .ok f w:=by
      unfold JK;simp only[bz W,jc,jj,hs,da,fl]
     simp only[df,underlying,run_program,br,X,fl,Hl u,q,g _ h1,jc,gj,xv,Pb u]
    rw[u7]at b;rw[Em]at hx;by_cases H:j=i
    ·subst H;rw[bc rfl,bc (by lia)]at b;simp only[da,ax,av]at b hx;obtain⟨y,_,rfl⟩:=hx;subst b;exact⟨n,B⟩
    rw[aq H]at b;rw[aq H]at hx;exact F i e x b hx
   cases c
  cases b
 cases b
theorem yV(h:jw B0 w0 nt G0 s G E a w){t:TypeId}{d:Nat}{dst:Option Nat}{ids:List Nat}{b:my}(c:lg.Ks.qi d s=aa (ids,b)):
  tz P B0 nt w0 G0 a w dst (((Instr.makeMap t ae).run P w).andThen λv w=> .ok (.value v) w) (b.app dst (s.vz ids)):=by
 simp only[lg.qi,av,db]at c;obtain⟨rfl,rfl⟩:=c;have run:(Instr.makeMap t ae).run P w= .ok (.map (aa w.heap.size)) (w.alloc (.map #[] 0)):=rfl;rw[run];refine⟨_,_,_,G,_,_,.o8 d (s.ba d+1),rfl,.inl rfl,h.gG d,?_,rfl⟩;refine⟨by simp[de,PS.vz],λ_ _=>by simp[de]⟩
end
section
variable{P:Program}{B0 nt:Nat}{w0 w w':World}{G0 G G':ix}{s s':PS}{E E':Env}{a:Act}
theorem Ss(S:Sem Value):(do pure (JB (<-S)):Sem Next).run P w=(S.run P w).andThen λv w=> .ok (.value v) w:=by
 simp only[df,fl]
theorem yZ(S:Sem Unit):(do S;pure Next.skip:Sem Next).run P w=(S.run P w).andThen λ_ w=> .ok .skip w:=by
 simp only[df,fl]
theorem tz.lift(h:jw B0 w0 nt G0 s G E a w){S:Sem Value}{u:Value}{y:V}{dst:Option Nat}(b:S.run P w= .ok u w)(c:j4 G E s y u):
  tz P B0 nt w0 G0 a w dst ((do pure (JB (<-S)):Sem Next).run P w) (my.app dst (s.vz []) (.val y)):=by
 rw[Ss,b];exact tz.val h rfl c
theorem uj{v:V}{ids:List Nat}{e:my}(h:aa (my.uk v)=aa (ids,e)):ids=[]/\e= .val v:=by
 simp only[my.uk,av,db]at h;exact⟨h.1.symm,h.2.symm⟩
theorem C5{α:Type}{x:Option α}{f:α->V}{ids:List Nat}{e:my}(h:x.map (λv=>my.uk (f v))=aa (ids,e)):∃v,x=aa v/\ids=[]/\e= .val (f v):=by
 simp only[ax]at h;obtain⟨v,b,c⟩:=h;obtain⟨d,g⟩:=uj (congrArg aa c);exact⟨v,b,d,g⟩
theorem UA(h:jw B0 w0 nt G0 s G E a w){t:TypeId}{n:Nat}{x:ov}{v:Value}(g:j4 G E s (x.ev s) v){d:Nat}{dst:Option Nat}{ids:List Nat}{c:my}(b:(lg.box n x).qi d s=aa (ids,c)):
  tz P B0 nt w0 G0 a w dst ((do pure (JB (<-Instr.box t v)):Sem Next).run P w) (c.app dst (s.vz ids)):=by
 simp only[lg.qi]at b;split at b
 ·rename_i cs e;split at b
  ·simp only[av,db]at b;obtain⟨rfl,rfl⟩:=b;obtain⟨i,j⟩:=T4 e g;have f:=h.new d (.loc cs) v.cells t ⟨i.symm,j⟩;refine⟨_,_,_,G,_,_,.gz d (s.ba d+1) 0,rfl,.inl rfl,f,?_,rfl⟩;exact⟨by simp[de,PS.vz],λ_ _=>by simp[de]⟩
  cases b
 cases b
theorem FF(h:jw B0 w0 nt G0 s G E a w){t:TypeId}{z:List D}(hz:H0 P t=aa z){d:Nat}{dst:Option Nat}{ids:List Nat}{e:my}(f:(lg.alloc z).qi d s=aa (ids,e)):
  tz P B0 nt w0 G0 a w dst ((do pure (JB (<-aev t ah (.tuple #[]))):Sem Next).run P w) (e.app dst (s.vz ids)):=by
 simp only[lg.qi,av,db]at f;obtain⟨rfl,rfl⟩:=f;obtain⟨g,_,c,b⟩:=Gz hz h;have i:=h.new d (.loc (z.map .d)) g.cells t ⟨b.1.symm,b.2⟩
 have run:(aev t ah (.tuple #[])).run P w= .ok (.pointer (aa ⟨w.heap.size,0,ae⟩)) (w.alloc (.cells g.cells t)):=by
  unfold aev;simp only[df,c,br];rfl
 rw[Ss,run];refine⟨_,_,_,G,_,_,.gz d (s.ba d+1) 0,rfl,.inl rfl,i,?_,rfl⟩;exact⟨by simp[de,PS.vz],λ_ _=>by simp[de]⟩
theorem AU(h:jw B0 w0 nt G0 s G E a w){t:TypeId}{z:List D}(hz:H0 P t=aa z){d:Nat}{dst:Option Nat}{ids:List Nat}{e:my}(f:(lg.zr z.length).qi d s=aa (ids,e)):
  tz P B0 nt w0 G0 a w dst ((do pure (JB (<-aev t ah (.tuple #[]))):Sem Next).run P w) (e.app dst (s.vz ids)):=by
 simp only[lg.qi,av,db]at f;obtain⟨rfl,rfl⟩:=f;obtain⟨g,_,c,b⟩:=Gz hz h;have i:=h.new d (.Tj z.length) g.cells t (by have:=b.1;simp at this;exact this.symm)
 have run:(aev t ah (.tuple #[])).run P w= .ok (.pointer (aa ⟨w.heap.size,0,ae⟩)) (w.alloc (.cells g.cells t)):=by
  unfold aev;simp only[df,c,br];rfl
 rw[Ss,run];refine⟨_,_,_,G,_,_,.gz d (s.ba d+1) 0,rfl,.inl rfl,i,?_,rfl⟩;exact⟨by simp[de,PS.vz],λ_ _=>by simp[de]⟩
theorem FE(h:jw B0 w0 nt G0 s G E a w){f:Nat}{first j9:Array Operand}{os:List ov}(I:first.size=0)(b:Jw j9.toList=aa os){d:Nat}{dst:Option Nat}{ids:List Nat}{z:my}(g:(lg.Oj f os).qi d s=aa (ids,z)):
  tz P B0 nt w0 G0 a w dst ((do pure (JB (<-aec (.func f) (first.map a.eval) (j9.map a.eval))):Sem Next).run P w) (z.app dst (s.vz ids)):=by
 have e0:first.map a.eval= #[]:=by
  have:first= #[]:=by simpa using I
  subst this;simp
 rw[e0];obtain⟨j9⟩:=j9;simp only at b
 have key:∀(vs:List Value) (y:V),j9.map a.eval=vs->ids=[]->z= .val y->j4 G E s y (.func (.func f) #[] vs.toArray)->tz P B0 nt w0 G0 a w dst ((do pure (JB (<-aec (.func f) #[] (j9.toArray.map a.eval))):Sem Next).run P w) (z.app dst (s.vz ids)):=by
  intro vs y j e2 H J;subst e2 H;exact tz.lift h (u:= .func (.func f) #[] vs.toArray) (by simp[aec,<-j]) J
 have ptr:∀{x:Operand} {t id ba:Nat},xy x=aa (.t t)->s.tmp t= .gz id ba 0->j4 G E s (.gz id ba 0) (a.eval x):=by
  intro x t id ba e A;have:=h.ev e;simp only[ov.ev,A]at this;exact this
 simp only[lg.qi]at g;split at g
 ·rename_i M t0
  match j9,b with
  |[c0],b=>
   simp only[Jw]at b;split at b
   ·rename_i a0 B k e;simp only[Jw,av]at e;subst e;simp only[av,iI,and_true]at b;subst b;split at g
    ·rename_i id ba l;obtain⟨j,e2⟩:=uj g;refine key [a.eval c0] _ rfl j e2 ?_;obtain⟨C,D⟩:=ptr k l;refine⟨λp q=>?_,λc=>?_⟩
     ·simp at q;subst q;exact C
     have:=D (c (id,ba) (by simp)).1 (c (id,ba) (by simp)).2;simp[this]
    ·rename_i x l;obtain⟨j,e2⟩:=uj g;refine key [a.eval c0] _ rfl j e2 ?_;have:=h.ev k;simp only[ov.ev,l]at this;refine iz.qb rfl λi y u hy n=>?_
     match i with
     |0=>simp at hy n;subst hy n;exact this
     |i+1=>simp at hy
    cases g
   cases b
  |[],b=>simp[Jw]at b
  |c0::c1::r,b=>
   simp only[Jw]at b;split at b
   ·rename_i a0 B k e;simp only[av,iI]at b;obtain⟨_,rfl⟩:=b;split at e<;>cases e
   cases b
 ·rename_i M t0 t1
  match j9,b with
  |[c0,c1],b=>
   simp only[Jw]at b;split at b
   ·rename_i a0 B k e;split at e
    ·rename_i a1 N A o;simp only[av]at e o;subst o e;simp only[av,iI,and_true]at b;obtain⟨rfl,rfl⟩:=b;split at g
     ·rename_i id ba v F l m;obtain⟨j,e2⟩:=uj g;refine key [a.eval c0,a.eval c1] _ rfl j e2 ?_;obtain⟨C,D⟩:=ptr k l;obtain⟨K,L⟩:=ptr A m;refine⟨λp q=>?_,λc=>?_⟩
      ·simp at q;rcases q with rfl|rfl
       ·exact C
       exact K
      have q1:=D (c (id,ba) (by simp)).1 (c (id,ba) (by simp)).2;have q2:=L (c (v,F) (by simp)).1 (c (v,F) (by simp)).2;simp[q1,q2]
     ·rename_i x y l m;obtain⟨j,e2⟩:=uj g;refine key [a.eval c0,a.eval c1] _ rfl j e2 ?_;have q1:=h.ev k;simp only[ov.ev,l]at q1;have q2:=h.ev A;simp only[ov.ev,m]at q2;refine iz.qb rfl λi y u hy n=>?_
      match i with
      |0=>simp at hy n;subst hy n;exact q1
      |1=>simp at hy n;subst hy n;exact q2
      |i+2=>simp at hy
     cases g
    cases e
   cases b
  |[],b=>simp[Jw]at b
  |[c0],b=>
   simp only[Jw]at b;split at b
   ·rename_i a0 B k e;simp only[av]at e;subst e;simp at b
   cases b
  |c0::c1::c2::r,b=>
   simp only[Jw]at b;split at b
   ·rename_i a0 B k e;simp only[av,iI]at b;obtain⟨_,rfl⟩:=b;split at e
    ·rename_i o;simp only[av,iI]at e;obtain⟨_,rfl⟩:=e;split at o<;>cases o
    cases e
   cases b
 ·match j9,b with
  |[],b=>
   obtain⟨j,e2⟩:=uj g;exact key [] _ rfl j e2 (iz.qb rfl (by simp))
  |c0::r,b=>
   simp only[Jw]at b;split at b<;>cases b
 cases g
end
section
variable{P:Program}{B0 nt:Nat}{w0 w w':World}{G0 G G':ix}{s s':PS}{E E':Env}{a:Act}
theorem rM{op:BinOp}(d:op= .eql\/op= .neq){t:TypeId}{ks:List LK}(l:Cl P 8 t=aa ks)(k:C1 P t=aa ah)(m:P.eqGuardType P.depth t=ag){xs ys:List D}{b:Bool}(j:C3 ks xs ys=aa b)
  {u v:Value}(hx:iz G (.agg xs) u)(hy:iz G (.agg ys) v)(ox oy:Operand):
  (do eqGuard op t ox oy u v;binOp op t u v:Sem Value).run P w= .ok (.bool (if decide (op= .neq)then !b else b)) w:=by
 obtain⟨g,q,e,r,n⟩:=a06 (G:=G) (w:=w) 8 t ks l af3 (by decide);rw[k]at e
 injection e with e
 subst e
 cases hx with
 |agg o h=>
  cases hy with
  |agg p i=>
   rename_i us vs;have f:=n us vs xs ys b ⟨o,h⟩ ⟨p,i⟩ j;simp only[Gu,da]at f
   have c:(eqGuard op t ox oy (.agg us) (.agg vs)).run P w= .ok () w:=by
    unfold eqGuard;rcases d with rfl|rfl<;>simp[m]
   rcases d with rfl|rfl
   ·simp only[df,c,br,binOp,ad8,f];simp
   simp only[df,c,br,binOp,ad8,f];simp
theorem GD:∀{l:List Operand} {os:List ov},Jw l=aa os->os.length=l.length/\∀(i:Nat) (x:Operand) (o:ov),l[i]? =aa x->os[i]? =aa o->xy x=aa o:=by
 intro l
 induction l with
 |nil=>intro os h;simp only[Jw,av]at h;subst h;exact⟨rfl,by simp⟩
 |cons x r e=>
  intro os h;simp only[Jw]at h;split at h
  ·rename_i o k c d
   injection h with h
   subst h;obtain⟨f,g⟩:=e d;refine⟨by simp[f],λi y j hy b=>?_⟩
   cases i with
   |zero=>simp at hy b;subst hy b;exact c
   |succ i=>simp at hy b;exact g i y j hy b
  cases h
theorem DY{x:V}{v:Value}(hb:isNil s .fn x=aa ag)(c:j4 G E s x v):∃f p q,v= .func (.func f) p q:=by
 cases x with
 |d z=>cases z with
  |qb f j9=>cases c;exact⟨_,_,_,rfl⟩
  |_=>simp[isNil]at hb
 |qb f ids=>
  simp only[isNil]at hb;split at hb
  ·rename_i b;simp only[V.live,dg]at b;obtain⟨_,k⟩:=c;refine⟨_,_,_,k λp h=>?_⟩;obtain⟨cs,e⟩:=ma.1 (b p h);obtain⟨g,e2⟩:=xl e;exact⟨g,_,e2,rfl⟩
  cases hb
 |_=>simp[isNil]at hb
theorem vG:∀{ps:List (Nat×Nat×List C)} {cs b:List C},Nc cs ps=aa b->b.length=cs.length:=by
 intro ps
 induction ps with
 |nil=>intro cs b h;simp only[Nc,av]at h;subst h;rfl
 |cons p ps c=>
  intro cs b h;obtain⟨o,n,xs⟩:=p;simp only[Nc]at h;split at h
  ·rename_i d;rw[c h,so _ _ _ (by lia)]
  cases h
theorem FR(h:jw B0 w0 nt G0 s G E a w){t e:TypeId}{n sz:Nat}{z:List D}{ps:Array (Nat×Operand)}{W:List (Nat×Nat×ov)}(N:P.underlying t=aa (.slice e))(X:lx P e=aa sz)(hz:H0 P e=aa z)
  (hn:n*sz<=2^20)(F:z.length=sz)(h0:0<sz)(y:S0 sz ps.toList=aa W){d:Nat}{dst:Option Nat}{ids:List Nat}{T:my}(f:(lg.dT n sz z W).qi d s=aa (ids,T)):
  tz P B0 nt w0 G0 a w dst (((sH t n (ps.map λ(p:Nat×Operand)=>(p.1,a.eval p.2))).run P w).andThen λv w=> .ok (.value v) w) (T.app dst (s.vz ids)):=by
 simp only[lg.qi]at f;split at f
 ·rename_i pc o;split at f
  ·rename_i cs U;split at f
   ·rename_i yr;simp only[av,db]at f;obtain⟨rfl,rfl⟩:=f;obtain⟨R,a1,O,C⟩:=Gz hz h
    have a0:R.cells.size=sz:=by have:=C.1;simp at this;lia
    have m:P6 G E s (((jq n z).flatten).map .d) ((afb (n*sz)).map ((if n*sz=0 then(#[]:Array Value)else R.cells)[· %(if n*sz=0 then(#[]:Array Value)else R.cells).size]!)):=by
     by_cases c:n*sz=0
     ·have M:n=0:=by
       rcases ad9.1 c with h|h
       ·exact h
       lia
      subst M;simp[P6]
     rw[aq c];have:=pQ h C (n:=n) (by lia);rw[F]at this;exact this
    obtain⟨q1,q2⟩:=Vv y
    obtain⟨r1,r2⟩:=cC h (get:=λj _=>aa (j*sz,sz)) q1 (λi p q o y=>by
     obtain⟨⟨Y,Z⟩,hc⟩:=q2 i p q o y
     exact⟨by simp[Y,<-Z],hc⟩) o
    obtain⟨vs,k,A⟩:=aN (place:=λj=>aa (j*sz,sz)) (ev:=a.eval) r1 (λi p q o y=>by
     obtain⟨V,Q⟩:=r2 i p q o y
     exact⟨by simpa using V,Q⟩) U m
    have l:=vG U;simp only[al,adr,List.map_replicate,acd,F]at l
    have H:cs.length=n*sz:=by simpa using l
    obtain⟨c1,S⟩:=mW sz n cs H
    have B:vs.size=n*sz:=by have:=A.1;lia
    have hh:Holds G E s vs (.ru sz (chunks sz n cs)):=by
     refine⟨by rw[c1,B];exact bm _,λi e J=>(S i e J).1,λi e j x u J K N=>?_⟩;obtain⟨V,Q⟩:=S i e J
     have L:j<sz:=by have:=(bd.1 K).1;lia
     rw[Q j L]at K;exact A.2 (i*sz+j) x u K N
    have run:(sH t n (ps.map λ(p:Nat×Operand)=>(p.1,a.eval p.2))).run P w= .ok (.slice (aa ⟨w.heap.size,0,ae⟩) n n) (w.alloc (.cells vs e)):=by
     unfold sH;simp only[df,underlying,run_program,br,N,fl,u6 X];rw[aq (by lia)]
     have r:(ps.map λ(p:Nat×Operand)=>(p.1,a.eval p.2)).toList=ps.toList.map λp=>(p.1,a.eval p.2):=by simp
     by_cases c:n*sz=0
     ·rw[bc c];simp only[bc c]at k;simp only[df,fl,br,r,k];rfl
     rw[aq c];simp only[aq c]at k;simp only[df,O,fl,br,r,k];rfl
    have I:=h.new d _ vs e hh;rw[run];refine⟨_,_,_,G,_,_,.ref d (s.ba d+1) n,rfl,.inl rfl,I,?_,rfl⟩;have:=C4 (G':=G) (s':={s with di:=lu s.di d (aa (.ru sz (chunks sz n cs))),ba:=lu s.ba d (s.ba d+1)})
     (E':={E with b:=lu E.b d w.heap.size,n:=lu E.n d vs.size}) (id:=d) (sz:=sz) (n:=(chunks sz n cs).length) (len:=n) (cap:=n) (g:=w.heap.size) (de _ _ _) rfl (de _ _ _) (by
      show lu E.n d _ d=_
      rw[de,B]) c1 (bm _)
    have hv:lu s.ba d (s.ba d+1) d=s.ba d+1:=de _ _ _;simpa[hv]using this
   cases f
  cases f
 cases f
theorem Xl(h:jw B0 w0 nt G0 s G E a w){t:TypeId}{id m j d off:Nat}{sz:Nat}{b nb:B}{cs:List C}(hs:lx P t=aa 1)(hb:s.di id=aa b)(H:b.Ei=aa (sz,m))(x:nb.Ei=aa (sz,j))(Z:j<=m)(S:nb.isVar=ag)
  (R:∀cells,Holds G E s cells b->Holds G E s cells nb)(Q:s.cs d (s.ba d)=aa cs)(O:off+1<=cs.length){v:Value}(J:j4 G E s (.Iz id (s.ba id) m j) v){cap:Nat}(X:E.n id=cap*sz)(U:m<=cap):
  ∃w' E',(storeVar t ⟨E.b d,off,ae⟩ v).run P w= .ok () w'/\
   jw B0 w0 nt G0 {s with di:=lu (lu s.di id (aa nb)) d (aa (.loc (patch cs off [.ref id (s.ba id+1) j]))),ba:=lu s.ba id (s.ba id+1)} G E' a w':=by
 obtain⟨_,e2⟩:=xl Q
 have W:d≠id:=by
  intro e;subst e;rw[hb]at e2
  injection e2 with e2
  subst e2;cases H
 obtain⟨_,_,k⟩:=J;obtain⟨_,A⟩:=k rfl sz m ((yf hb).trans H);obtain⟨_,K⟩:=A rfl;subst K;clear A k;have M:=h.a0b (b':=nb) (j:=j) (m:=j*sz) hb H x (by rw[X];exact ig _ (by lia)) R
 have r:lu s.di id (aa nb) d=aa (.loc cs):=by rw[ie _ _ _ _ W];exact e2
 obtain⟨cells,Y,L,V,I,hw⟩:=M.zp (id:=d) r;obtain⟨T,F⟩:=I;have D:(af1 (aa ⟨E.b id,0,ae⟩) j j).cells= #[af1 (aa ⟨E.b id,0,ae⟩) j j]:=rfl
 have y:off+[C.ref id (s.ba id+1) j].length<=cs.length:=by simpa using O
 have l:off+(af1 (aa ⟨E.b id,0,ae⟩) j j).cells.toList.length<=cells.toList.length:=by rw[D];simp;lia
 have run:=Ou (P:=P) (v:= .slice (aa ⟨E.b id,0,ae⟩) j j) (o:=off) hs (by rw[D];rfl) L (by lia) (λu f=>by rw[D]at f;simp at f;subst f;rfl)
 have N:=M.set r (b':= .loc (patch cs off [.ref id (s.ba id+1) j])) .loc (Bh.setRow L (patch cells.toList off (af1 (aa ⟨E.b id,0,ae⟩) j j).cells.toList).toArray) (by simp[so _ _ _ l];exact V) ⟨by simp[so _ _ _ y,so _ _ _ l,T],λq c u p f=>by
  rw[F1 _ _ _ y]at p;rw[B7,F1 _ _ _ l]at f;rw[D]at f;simp only[cq,ew,gj]at p f;split at p
  ·rename_i i
   have z:q-off=0:=by lia
   rw[bc i,z]at f;rw[z]at p;simp at p f;subst p f;have:=C4 (G':=G) (s':={s with di:=lu s.di id (aa nb),ba:=lu s.ba id (s.ba id+1)}) (E':={E with n:=lu E.n id (j*sz)}) (id:=id) (sz:=sz) (n:=j) (len:=j) (cap:=j) (g:=E.b id) (de _ _ _) x rfl (de _ _ _) rfl (bm _);have J:lu s.ba id (s.ba id+1) id=s.ba id+1:=de _ _ _;simp only[J]at this;exact this
  rename_i i;rw[aq i]at f
  exact F q c u p (by simpa using f)⟩
 exact⟨_,_,run,N⟩
theorem mP(h:jw B0 w0 nt G0 s G E a w){t:TypeId}{n:Nat}{x y:V}{ad v:Value}{ids:List Nat}{F:my}{dst:Option Nat}(hs:lx P t=aa n)(e:zo s n x y=aa (ids,F))(hx:j4 G E s x v)(hy:j4 G E s y ad):
  tz P B0 nt w0 G0 a w dst (((a8r t ad v).run P w).andThen λ_ w=> .ok .skip w) (F.app dst (s.vz ids)):=by
 cases x with
 |Iz id ba m j=>
  cases y with
  |gz f p off=>
   have ptr:∀cs,s.cs f p=aa cs->ad= .pointer (aa ⟨E.b f,off,ae⟩)/\s.cs f (s.ba f)=aa cs:=by
    intro cs k;obtain⟨D,e2⟩:=xl k;exact⟨hy.2 D ⟨_,e2,rfl⟩,by rw[D];exact k⟩
   have H:∀{w':World} {E':Env} {C:PS},ad= .pointer (aa ⟨E.b f,off,ae⟩)->(storeVar t ⟨E.b f,off,ae⟩ v).run P w= .ok () w'->jw B0 w0 nt G0 C G E' a w'->
     tz P B0 nt w0 G0 a w dst (((a8r t ad v).run P w).andThen λ_ w=> .ok .skip w) (C.put dst .no):=by
    intro w' E' C l L J;subst l;unfold a8r;simp only[df,Au,br,L];exact⟨_,_,_,G,E',_,.no,rfl,.inr ⟨rfl,rfl⟩,J,trivial,rfl⟩
   have g:∀sz dv,s.Ei id=aa (sz,dv)->s.ba id=ba->dv=m->∃cap,E.n id=cap*sz/\m<=cap:=λsz dv I M K=>((hx.2.2 M sz dv I).2 K).1;simp only[zo]at e;split at e
   ·rename_i sz dv cs hb k;split at e
    ·rename_i d;obtain⟨rfl,u,c,o⟩:=d;simp only[av,db]at e;obtain⟨rfl,rfl⟩:=e;obtain⟨l,i⟩:=ptr cs k;subst u;obtain⟨cap,c1,r⟩:=g sz dv.length (yf hb) rfl c
     obtain⟨w',E',z,A⟩:=Xl h hs hb (b:= .arr sz dv) (nb:= .arr sz (dv.take j)) (m:=m) (j:=j) (by simp[B.Ei,c]) (by have:=hx.1;simp[B.Ei];lia) hx.1 rfl (λ_ q=>q.take) i o hx c1 r
     exact H l z A
    cases e
   ·rename_i sz dv cs hb k;split at e
    ·rename_i d;obtain⟨rfl,u,c,o⟩:=d;simp only[av,db]at e;obtain⟨rfl,rfl⟩:=e;obtain⟨l,i⟩:=ptr cs k;subst u;obtain⟨cap,c1,r⟩:=g sz dv.length (yf hb) rfl c
     obtain⟨w',E',z,A⟩:=Xl h hs hb (b:= .ru sz dv) (nb:= .ru sz (dv.take j)) (m:=m) (j:=j) (by simp[B.Ei,c]) (by have:=hx.1;simp[B.Ei];lia) hx.1 rfl (λ_ q=>q.a5x) i o hx c1 r
     exact H l z A
    cases e
   cases e
  |_=>cases e
 |_=>cases e
theorem CE(h:jw B0 w0 nt G0 s G E a w){t:TypeId}{x:Operand}{lo F mx:Option Operand}{kp cv:Bool}{d:Nat}{r:lg}{dst:Option Nat}(b:U2 P kp cv t x lo F mx=aa r){ids:List Nat}{D:my}(i:r.qi d s=aa (ids,D)):
  tz P B0 nt w0 G0 a w dst ((do pure (JB (<-As t (a.eval x) (lo.map a.eval) (F.map a.eval) (mx.map a.eval))):Sem Next).run P w) (D.app dst (s.vz ids)):=by
 have f:∀{x:Option Operand} {y:Option ov},mZ x=aa y->(y=ae/\x.map a.eval=ae)\/∃o v,y=aa o/\x.map a.eval=aa v/\j4 G E s (o.ev s) v:=by
  intro x y c
  cases x with
  |none=>injection c with c;exact .inl ⟨c.symm,rfl⟩
  |some v=>
   simp only[mZ,ax]at c;obtain⟨o,J,rfl⟩:=c;exact .inr ⟨o,_,rfl,rfl,h.ev J⟩
 unfold U2 at b;split at b
 ·rename_i e q;split at b
  ·split at b
   ·rename_i n y C I L g hy m l B
    injection b with b
    subst b;obtain⟨u,v,p,rfl,rfl,z⟩:=BV h q g (h.ev hy) (f m) (f l) (f B) i;exact tz.lift h p z
   cases b
  split at b
  ·rename_i n y g hy;split at b
   ·rename_i j;simp only[ax]at b;obtain⟨K,A,rfl⟩:=b;have:=sQ (dst:=dst) h q g (h.ev hy) (h.ev A) i;rw[<-Ss]at this;exact this
   split at b
   ·rename_i C I m l
    injection b with b
    subst b;obtain⟨u,v,p,rfl,rfl,z⟩:=xD h q g (h.ev hy) (f m) (f l) i;exact tz.lift h p z
   cases b
  ·rename_i n y k g hy;split at b
   ·rename_i j M H;simp only[ax]at b;obtain⟨K,A,rfl⟩:=b;split at i
    ·obtain⟨u,v,p,rfl,rfl,z⟩:=FQ h q g (h.ev hy) (h.ev A) (h.ev H) i;exact tz.lift h p z
    have:=sR (dst:=dst) h q g (h.ev hy) (h.ev A) (h.ev H) i;rw[<-Ss]at this;exact this
   cases b
  cases b
 ·rename_i N e q;split at b
  ·rename_i n y g hy
   injection b with b
   subst b;obtain⟨u,v,p,rfl,rfl,z⟩:=GI h q g (h.ev hy) i;exact tz.lift h p z
  cases b
 cases b
theorem TS(h:jw B0 w0 nt G0 s G E a w){o:Oper}{im kp cv:Bool}{cm d:Nat}{r:lg}(l:cOp P im kp cv cm o.op=aa r){ids:List Nat}{ef:my}(A:r.qi d s=aa (ids,ef)):
  tz P B0 nt w0 G0 a w o.dst ((execOp a.eval o).run P w) (ef.app o.dst (s.vz ids)):=by
 unfold execOp;generalize o.op=op at l|-;cases op<;>dsimp only
 case makeInterface t x=>
  simp only[cOp,av]at l;subst l;cases A
 case panic x=>
  simp only[cOp,av]at l;subst l;cases A
 case move x=>
  simp only[cOp]at l;simp only[ax]at l;obtain⟨y,hy,rfl⟩:=l
  cases kp with
  |false=>
   obtain⟨rfl,rfl⟩:=uj A;exact tz.val h rfl (h.ev hy)
  |true=>exact jC h (h.ev hy) A
 case assign x=>
  simp only[cOp]at l;simp only[ax]at l;obtain⟨y,hy,rfl⟩:=l
  cases kp with
  |false=>
   obtain⟨rfl,rfl⟩:=uj A;exact tz.val h rfl (h.ev hy)
  |true=>exact jC h (h.ev hy) A
 case pick c x y=>
  simp only[cOp]at l;split at l
  ·rename_i c' x' y' H L R
   injection l with l
   subst l;have hb:=h.ev H;simp only[lg.qi]at A;split at A
   ·rename_i a0;rw[a0]at hb;obtain⟨rfl,rfl⟩:=uj A;generalize b0:a.eval c=vc at hb|-;cases hb;exact tz.val h (by simp[asBool]) (h.ev L)
   ·rename_i a0;rw[a0]at hb;obtain⟨rfl,rfl⟩:=uj A;generalize b0:a.eval c=vc at hb|-;cases hb;exact tz.val h (by simp[asBool]) (h.ev R)
   cases A
  cases l
 case alloc t=>
  simp only[cOp]at l;simp only[ax]at l;obtain⟨z,hz,rfl⟩:=l;exact FF h hz A
 case box t x=>
  simp only[cOp]at l;split at l
  ·rename_i n y H L
   injection l with l
   subst l;exact UA h (h.ev L) A
  cases l
 case load t x=>
  simp only[cOp]at l;split at l
  ·rename_i n g y H L R;split at l
   ·rename_i hg
    injection l with l
    subst l;simp only[lg.qi]at A;obtain⟨v,N,rfl,rfl⟩:=C5 (f:=id) A;obtain⟨u,F,C⟩:=Yd h H L hg N (h.ev R);exact tz.lift h F C
   cases l
  cases l
 case store t x y=>
  simp only[cOp]at l;split at l
  ·rename_i n x' y' H L R
   injection l with l
   subst l;simp only[lg.qi]at A;split at A
   ·rename_i cs Y;obtain⟨k1,k2⟩:=T4 Y (h.ev R)
    obtain⟨w',id,b,F,a7,S⟩:=eJ h H A (h.ev L) k1 k2 (λyr u B=>by
     obtain⟨i,I,b5⟩:=j0.1 B
     have F7:i<(a.eval y).cells.size:=by simpa using I
     have a8:i<cs.length:=by lia
     have k3:=k2 i cs[i] u (bh a8) (by rw[<-b5];simp[F7])
     exact zx.yI k3 (dg.1 yr _ (dj a8)))
    simp only[db]at a7;obtain⟨rfl,rfl⟩:=a7;rw[yZ,F];exact⟨_,_,_,G,E,_,.no,rfl,.inr ⟨rfl,rfl⟩,S,trivial,rfl⟩
   rw[yZ];exact mP h H A (h.ev R) (h.ev L)
  cases l
 case nilCheck x=>
  simp only[cOp]at l;simp only[ax]at l;obtain⟨y,hy,rfl⟩:=l;have C:=h.ev hy;simp only[lg.qi]at A;split at A
  ·rename_i hb;obtain⟨rfl,rfl⟩:=uj A;obtain⟨k,_⟩:=kQ hb C;obtain⟨ad,K,e2⟩:=k rfl
   cases ad with
   |none=>cases e2
   |some p=>
    rw[K]at C|-;exact tz.val h rfl C
  ·rename_i hb _;obtain⟨rfl,rfl⟩:=uj A;obtain⟨f,p,q,K⟩:=DY hb C;rw[K]at C|-;exact tz.val h rfl C
  cases A
 case fieldAddr t x i=>
  simp only[cOp]at l;split at l
  ·rename_i fs y B hy;split at l
   ·rename_i f S;split at l
    ·rename_i n M;split at l
     ·cases l
     rename_i h0
     injection l with l
     subst l;simp only[lg.qi]at A;obtain⟨v,N,rfl,rfl⟩:=C5 (f:=id) A;obtain⟨u,F,C⟩:=NA B S M h0 N (h.ev hy);exact tz.lift h F C
    cases l
   cases l
  cases l
 case indexAddr t x i=>
  simp only[cOp]at l;split at l
  ·rename_i len e y j B hy T;simp only[ax]at l;obtain⟨n,M,rfl⟩:=l;simp only[lg.qi]at A;split at A
   ·rename_i k m U;have I:=h.ev T;rw[U]at I;split at A
    ·rename_i hb;obtain⟨v,N,rfl,rfl⟩:=C5 (f:=id) A;generalize a.eval i=vi at I|-;cases I;obtain⟨u,F,C⟩:=ED B M hb.1 hb.2 N (h.ev hy);exact tz.lift h F C
    cases A
   cases A
  ·rename_i e y j B hy T;simp only[ax]at l;obtain⟨n,M,rfl⟩:=l;simp only[lg.qi]at A;split at A
   ·rename_i k m U;have I:=h.ev T;rw[U]at I;obtain⟨v,N,rfl,rfl⟩:=C5 (f:=id) A;generalize a.eval i=vi at I|-;cases I;obtain⟨u,F,C⟩:=EA h B M N (h.ev hy);exact tz.lift h F C
   cases A
  cases l
 case index t x i=>
  simp only[cOp]at l;split at l
  ·rename_i y j B hy T
   injection l with l
   subst l;simp only[lg.qi]at A;split at A
   ·rename_i b k m hb U;have hx:=h.ev hy;have I:=h.ev T;rw[hb]at hx;rw[U]at I;split at A
    ·rename_i u a3;obtain⟨rfl,rfl⟩:=uj A;generalize a.eval i=vi at I|-;generalize a.eval x=vx at hx|-;cases I;cases hx;exact tz.lift h (EC B a3) iz.int
    cases A
   cases A
  ·rename_i len e y j B hy T;split at l
   ·rename_i n g M hg;split at l
    ·rename_i H
     injection l with l
     subst l;simp only[lg.qi]at A;split at A
     ·rename_i ds k m hd U;have hx:=h.ev hy;have I:=h.ev T;rw[hd]at hx;rw[U]at I;split at A
      ·rename_i hb;obtain⟨rfl,rfl⟩:=uj A;generalize a.eval i=vi at I|-;generalize a.eval x=vx at hx|-;cases I
       cases hx with
       | @agg _ vs N F=>
        obtain⟨u,a3,C⟩:=DZ (P:=P) (w:=w) (G:=G) (E:=E) (s:=s) (cs:=ds.map .d) (vs:=vs) (k:=k) (i:=m) B M hg H hb.1 hb.2.1 (by simpa using hb.2.2) (by simpa using N) (λq c u O B=>by
         simp only[dn,ax]at O;obtain⟨x,hx,rfl⟩:=O
         exact F q x u hx B)
        rw[<-a1s,<-Mm,<-iP]at C;exact tz.lift h a3 C
      cases A
     cases A
    cases l
   cases l
  cases l
 case field t x i=>
  simp only[cOp]at l;split at l
  ·rename_i fs y B hy;split at l
   ·rename_i f S;split at l
    ·rename_i n g M hg;split at l
     ·rename_i H
      injection l with l
      subst l;have hx:=h.ev hy;simp only[lg.qi]at A;split at A
      ·rename_i ds b4;rw[b4]at hx;split at A
       ·rename_i N;obtain⟨rfl,rfl⟩:=uj A;generalize a.eval x=vx at hx|-
        cases hx with
        | @agg _ vs En F=>
         obtain⟨u,a2,C⟩:=lU (G:=G) (E:=E) (s:=s) (w:=w) (cs:=ds.map .d) B S M hg H (by simpa using N) (by simpa using En) (λi c u l B=>by
          simp only[dn,ax]at l;obtain⟨z,hz,rfl⟩:=l
          exact F i z u hz B)
         refine tz.lift h a2 ?_;rw[iP,Mm,a1s];exact C
       cases A
      ·rename_i cs Y;rw[Y]at hx;split at A
       ·rename_i N;obtain⟨rfl,rfl⟩:=uj A;obtain⟨vs,K,En,F⟩:=G6.1 hx;rw[K];obtain⟨u,a2,C⟩:=lU (G:=G) (E:=E) (s:=s) (w:=w) (cs:=cs) B S M hg H N En F;exact tz.lift h a2 C
       cases A
      cases A
     cases l
    cases l
   cases l
  cases l
 case binOp op t x y yt=>
  simp only[cOp]at l;split at l
  ·rename_i p q hp O;have hx:=h.ev hp;have hy:=h.ev O
   have nil:∀(k:TK) (d:TypeDesc),P.underlying t=aa d->k.fits d=ah->dY op x y k p q=aa r->
     tz P B0 nt w0 G0 a w o.dst ((do pure (JB (<-(do eqGuard op t x y (a.eval x) (a.eval y);binOp op t (a.eval x) (a.eval y):Sem Value))):Sem Next).run P w) (ef.app o.dst (s.vz ids)):=by
    intro k d B S b3;obtain⟨z,v,F,rfl,rfl,C⟩:=zD b3 B S hx hy A;exact tz.lift h F C
   have bin:r= .bin op p q->tz P B0 nt w0 G0 a w o.dst ((do pure (JB (<-(do eqGuard op t x y (a.eval x) (a.eval y);binOp op t (a.eval x) (a.eval y):Sem Value))):Sem Next).run P w) (ef.app o.dst (s.vz ids)):=by
    intro F;subst F;simp only[lg.qi]at A;split at A
    ·rename_i d1 d2 K e2;obtain⟨v,N,rfl,rfl⟩:=C5 A;rw[K]at hx;rw[e2]at hy;obtain⟨z,F,C⟩:=NY (P:=P) (w:=w) N hx hy t x y;exact tz.lift h F C
    cases A
   split at l
   ·injection l with l;exact bin l.symm
   ·injection l with l;exact bin l.symm
   ·rename_i B;split at l
    ·rename_i b7
     injection l with l
     subst l;simp only[lg.qi]at A;split at A
     ·rename_i b1 b2 K e2;rw[K]at hx;rw[e2]at hy;obtain⟨rfl,rfl⟩:=uj A;generalize a.eval x=vx at hx|-;generalize a.eval y=vy at hy|-;cases hx;cases hy;exact tz.lift h (NZ b7 B b1 b2 x y) iz.bool
     cases A
    cases l
   ·rename_i B;exact nil _ _ B rfl l
   ·rename_i B;exact nil _ _ B rfl l
   ·rename_i B;exact nil _ _ B rfl l
   ·rename_i B;exact nil _ _ B rfl l
   ·rename_i B;split at l
    ·rename_i ks a1;split at l
     ·rename_i J
      injection l with l
      subst l;simp only[lg.qi]at A;split at A
      ·rename_i xs ys K e2;obtain⟨b,hb,rfl,rfl⟩:=C5 A;rw[K]at hx;rw[e2]at hy;exact tz.lift h (rM J.1 a1 (by unfold C1;rw[B]) J.2 hb hx hy x y) iz.bool
      cases A
     cases l
    cases l
   ·rename_i B;split at l
    ·rename_i ks a1;split at l
     ·rename_i J
      injection l with l
      subst l;simp only[lg.qi]at A;split at A
      ·rename_i xs ys K e2;obtain⟨b,hb,rfl,rfl⟩:=C5 A;rw[K]at hx;rw[e2]at hy;exact tz.lift h (rM J.1 a1 (by unfold C1;rw[B]) J.2 hb hx hy x y) iz.bool
      cases A
     cases l
    cases l
   cases l
  cases l
 case unOp op t x=>
  simp only[cOp]at l;simp only[ax]at l;obtain⟨y,hy,rfl⟩:=l;obtain⟨z,v,F,K,C⟩:=ON (P:=P) (w:=w) (h.ev hy) A;simp only[my.uk,db]at K;obtain⟨rfl,rfl⟩:=K;exact tz.lift h F C
 case convert t u x=>
  simp only[cOp]at l;split at l
  ·rename_i k0 k y h0 H hy
   injection l with l
   subst l;simp only[lg.qi]at A;split at A
   ·rename_i k' n M;have hx:=h.ev hy;rw[M]at hx;obtain⟨rfl,rfl⟩:=uj A;generalize a.eval x=vx at hx|-;cases hx;exact tz.lift h (FV h0 H n) iz.int
   cases A
  ·rename_i y h0 H hy
   injection l with l
   subst l;simp only[lg.qi]at A;split at A
   ·rename_i b hb;have hx:=h.ev hy;rw[hb]at hx;obtain⟨rfl,rfl⟩:=uj A;generalize a.eval x=vx at hx|-;cases hx;exact tz.lift h (BB h0 H b) iz.str
   cases A
  cases l
 case build t ps=>
  simp only[cOp]at l
  have a5:∀(z:List D) (X:List (Nat×Nat×ov)),r= .build z X->(∀pc cs,Kr s X=aa pc->Nc (z.map .d) pc=aa cs->∃us,(aeu t (ps.map λ(p:Nat×Operand)=>(p.1,a.eval p.2))).run P w= .ok (.agg us) w/\P6 G E s cs us)->
    tz P B0 nt w0 G0 a w o.dst ((do pure (JB (<-aeu t (ps.map λ(p:Nat×Operand)=>(p.1,a.eval p.2)))):Sem Next).run P w) (ef.app o.dst (s.vz ids)):=by
   intro z X F hk;subst F;simp only[lg.qi]at A;split at A
   ·rename_i pc b8;split at A
    ·rename_i cs Y;obtain⟨rfl,rfl⟩:=uj A;obtain⟨us,F,C⟩:=hk pc cs b8 Y;exact tz.lift h F (HS C)
    cases A
   cases A
  split at l
  ·rename_i fs z B hz;split at l
   ·rename_i a6;simp only[ax]at l;obtain⟨X,O,rfl⟩:=l;exact a5 z X rfl λpc cs H L=>vU h B hz a6 O H L
   cases l
  ·rename_i len e z B hz;split at l
   ·rename_i n M;simp only[ax]at l;obtain⟨X,O,rfl⟩:=l;exact a5 z X rfl λpc cs H L=>vV h B hz M O H L
   cases l
  cases l
 case buildSlice t n ps=>
  simp only[cOp]at l;split at l
  ·rename_i e B;split at l
   ·rename_i sz z H L;split at l
    ·rename_i hb;simp only[ax]at l;obtain⟨X,O,rfl⟩:=l;rw[Ss];split at A
     ·exact FR h B H L hb.1 hb.2.1 hb.2.2 O A
     exact GG h B H L hb.1 hb.2.1 hb.2.2 O A
    cases l
   cases l
  cases l
 case slice t x lo I mx=>
  simp only[cOp]at l;exact CE h l A
 case makeMap t r'=>
  cases r' with
  |some _=>simp[cOp]at l
  |none=>
   simp only[cOp]at l;split at l
   ·injection l with l
    subst l;rw[Ss];exact yV h A
   cases l
 case lookup t x i ok=>
  simp only[cOp]at l;split at l
  ·rename_i kt e B;split at l
   ·rename_i z y j kk hz hy T hk;simp only[ax]at l;obtain⟨zd,Q,rfl⟩:=l;obtain⟨u,v,F,rfl,rfl,C⟩:=uH h B hz Q hk (h.ev hy) (h.ev T) A;exact tz.lift h F C
   cases l
  cases l
 case mapUpdate t m k v=>
  simp only[cOp]at l;split at l
  ·rename_i kt e m' k' v' B U hk C;simp only[ax]at l;obtain⟨kk,b6,rfl⟩:=l;rw[yZ];exact DP h B b6 (h.ev U) (h.ev hk) (h.ev C) A
  cases l
 case makeFunc f first j9=>
  cases f with
  |func f=>
   simp only[cOp]at l;split at l
   ·rename_i h0;simp only[ax]at l;obtain⟨os,ho,rfl⟩:=l;exact FE h h0 ho A
   cases l
  |_=>simp[cOp]at l
 case extract x i=>
  simp only[cOp]at l;simp only[ax]at l;obtain⟨y,hy,rfl⟩:=l;simp only[lg.qi]at A;split at A
  ·rename_i vs b9;have hx:=h.ev hy;rw[b9]at hx;obtain⟨z,hz,rfl,rfl⟩:=C5 A;obtain⟨u,F,C⟩:=pK (P:=P) (w:=w) hz hx;exact tz.lift h F C
  ·rename_i cs Y;have hx:=h.ev hy;rw[Y]at hx;obtain⟨z,hz,rfl,rfl⟩:=C5 A;obtain⟨vs,K,e2,e3⟩:=Lg.1 hx;rw[K]
   have ju:i<vs.size:=by have:=(bd.1 hz).1;lia
   refine tz.lift h (u:=vs[i]) ?_ (e3 i z _ hz (bz ju));unfold ady;simp[ju]
  cases A
 case call c=>
  obtain⟨callee,args,Fy⟩:=c
  cases callee with
  |invoke x n=>simp[cOp]at l
  |value f=>
   cases f with
   |func f=>
    simp only[cOp]at l
    repeat' split at l
    all_goals(first|(injection l with l;subst l;cases A;done)|cases l)
   |tmp t=>
    simp only[cOp]at l
    repeat' split at l
    all_goals(first|(injection l with l;subst l;cases A;done)|cases l)
   |const v=>
    simp only[cOp]at l
    repeat' split at l
    all_goals(first|(injection l with l;subst l;cases A;done)|cases l)
   |global g=>
    simp only[cOp]at l
    repeat' split at l
    all_goals(first|(injection l with l;subst l;cases A;done)|cases l)
  |builtin b=>
   have arg:∀{i:Nat} {x:Operand},args[i]? =aa x->(args.map a.eval)[i]? =aa (a.eval x):=λh=>by simp[h]
   have a9:∀{x y:Operand},args.toList=[x,y]->(args.map a.eval).toList=[a.eval x,a.eval y]:=λh=>by simp[h]
   cases b with
   |len=>
    simp only[cOp]at l;split at l
    ·rename_i t x V hx
     have lens:∀(k:TK) (d:TypeDesc) (y:ov),P.underlying t=aa d->k.fits d=ah->xy x=aa y->r= .len k y->
       tz P B0 nt w0 G0 a w o.dst ((do let d<-resolve a.eval ⟨.builtin .len,args,Fy⟩ o.type;invoke d.target d.args:Sem Next).run P w) (ef.app o.dst (s.vz ids)):=by
      intro k d y B S hy F;subst F;simp only[lg.qi]at A;obtain⟨n,M,rfl,rfl⟩:=C5 A;have Z:=MG (P:=P) (w:=w) h (ty:=o.type) (arg hx) V B S M (h.ev hy);exact tz.lift h Z iz.int
     split at l
     ·rename_i n e B
      injection l with l
      subst l;obtain⟨rfl,rfl⟩:=uj A
      have Z:(aes Fy o.type (args.map a.eval)).run P w= .ok (.int aj n) w:=by
       unfold aes;simp only[V,arg hx,df,underlying,run_program,br,B,fl];rfl
      exact tz.lift h Z iz.int
     ·rename_i y B hy;injection l with l;exact lens _ _ y B rfl hy l.symm
     ·rename_i y B hy;injection l with l;exact lens _ _ y B rfl hy l.symm
     ·rename_i y B hy;injection l with l;exact lens _ _ y B rfl hy l.symm
     cases l
    cases l
   |cap=>
    simp only[cOp]at l;split at l
    ·rename_i t x V hx;split at l
     ·rename_i e y B hy
      injection l with l
      subst l;obtain⟨u,v,F,rfl,rfl,C⟩:=FY (P:=P) (ty:=o.type) h (arg hx) V B (h.ev hy) A;exact tz.lift h F C
     cases l
    cases l
   |clear=>
    simp only[cOp]at l;split at l
    ·rename_i t x V hx;split at l
     ·rename_i e y B hy;split at l
      ·rename_i i zd I Q;split at l
       ·rename_i hb
        injection l with l
        subst l;obtain⟨hz,c0⟩:=hb;simp only[ax]at hz;obtain⟨z,hz,W⟩:=hz;have:=NP (P:=P) (dst:=o.dst) (ty:=o.type) h B I hz W Q c0 (arg hx) V (h.ev hy) A;rw[<-Ss]at this;exact this
       cases l
      cases l
     cases l
    cases l
   |append=>
    simp only[cOp]at l;split at l
    ·rename_i t u x y V B hx hy;split at l
     ·rename_i e ik x' y' H L R h4;split at l
      ·rename_i i zd I Q;split at l
       ·rename_i hb
        injection l with l
        subst l;obtain⟨z,hz,W⟩:=ax.1 hb.1;have:=GJ (dst:=o.dst) (ty:=o.type) h H L I hz Q hb.2.1 hb.2.2.1 hb.2.2.2.1 (arg hx) (arg hy) V B (h.ev R) (h.ev h4) A;rw[<-Ss]at this;exact this
       cases l
      cases l
     ·rename_i e e' x' y' H L R h4;split at l
      ·rename_i i I;split at l
       ·rename_i hb
        injection l with l
        subst l;obtain⟨z,hz,W⟩:=ax.1 hb.1;have:=OA (dst:=o.dst) (ty:=o.type) h H L I hz hb.2.1 hb.2.2.1 W (arg hx) (arg hy) V B (h.ev R) (h.ev h4) A;rw[<-Ss]at this;exact this
       cases l
      cases l
     cases l
    cases l
   |min=>
    simp only[cOp]at l;split at l
    ·rename_i x y a4;split at l
     ·rename_i x' y' hx hy
      injection l with l
      subst l;simp only[lg.qi]at A;split at A
      ·rename_i k m k' n K e2;obtain⟨rfl,rfl⟩:=uj A;have hx:=h.ev hx;have hy:=h.ev hy;rw[K]at hx;rw[e2]at hy
       have Z:(Builtin.min_ Fy o.type (args.map a.eval)).run P w= .ok (.int k (if n<m then n else m)) w:=by
        unfold Builtin.min_;rw[a9 a4];generalize a.eval x=vx at hx|-;generalize a.eval y=vy at hy|-;cases hx;cases hy;rfl
       exact tz.lift h Z iz.int
      cases A
     cases l
    cases l
   |max=>
    simp only[cOp]at l;split at l
    ·rename_i x y a4;split at l
     ·rename_i x' y' hx hy
      injection l with l
      subst l;simp only[lg.qi]at A;split at A
      ·rename_i k m k' n K e2;obtain⟨rfl,rfl⟩:=uj A;have hx:=h.ev hx;have hy:=h.ev hy;rw[K]at hx;rw[e2]at hy
       have Z:(Builtin.max_ Fy o.type (args.map a.eval)).run P w= .ok (.int k (if n>m then n else m)) w:=by
        unfold Builtin.max_;rw[a9 a4];generalize a.eval x=vx at hx|-;generalize a.eval y=vy at hy|-;cases hx;cases hy;rfl
       exact tz.lift h Z iz.int
      cases A
     cases l
    cases l
   |_=>simp[cOp]at l
 all_goals(simp[cOp]at l)
end
section
variable{P:Program}{B0 nt:Nat}{w0 w w':World}{G0 G G':ix}{s s':PS}{E E':Env}{a:Act}
theorem jw.a83{f:Nat}(h:jw B0 w0 nt G0 s G E a w){args:List V}{vs cvs:Array Value}{j9:List D}{own:Bool}(N:vs.size=args.length)(R:cvs.size=j9.length)
  (M:∀(i:Nat) (x:V) (v:Value),args[i]? =aa x->vs[i]? =aa v->j4 G E s x v)(F:∀(i:Nat) (x:D) (v:Value),j9[i]? =aa x->cvs[i]? =aa v->iz (full w) x v)
  (C:own=ag->∀(i:Nat) (x:D) (v:Value),j9[i]? =aa x->cvs[i]? =aa v->iz G x v)
  {ds:List D}{r:D}(hs:Ln s args=aa ds)(K:IY P s.ctx f (ds++j9) r)(T:r.flat=ah\/(own=ag/\args.all V.isD=ah)):
  Calls P f (vs++cvs) w λe w'=>∃v G',e= .returned v/\jw B0 w0 nt G0 s G' E a w'/\j4 G' E s (.d r) v:=by
 obtain⟨S,L⟩:=JV hs
 have app:∀{H:ix},(∀(i:Nat) (x:D) (v:Value),ds[i]? =aa x->vs[i]? =aa v->iz H x v)->(∀(i:Nat) (x:D) (v:Value),j9[i]? =aa x->cvs[i]? =aa v->iz H x v)->
   ∀(i:Nat) (x:D) (v:Value),(ds++j9)[i]? =aa x->(vs++cvs)[i]? =aa v->iz H x v:=by
  intro H m t i x v hx c;by_cases n:i<ds.length
  ·rw[kq n]at hx;rw[Bn (by lia)]at c;exact m i x v hx c
  rw[l9 (by lia)]at hx;rw[jA (by lia)]at c;rw[N,<-S]at c;exact t _ x v hx c
 by_cases j:own=ag/\args.all V.isD=ah
 ·have I:∀(i:Nat) (x:D) (v:Value),ds[i]? =aa x->vs[i]? =aa v->iz G x v:=by
   intro i x v hx c
   have n:i<args.length:=by have:=(bd.1 hx).1;lia
   have k:args[i]? =aa args[i]:=bh n;have m:=L i _ x k hx;have t:=M i _ v k c;have Q:=dg.1 j.2 args[i] (dj n)
   generalize args[i]=y at*
   cases y with
   |d z=>simp only[snap,av]at m;subst m;exact t
   |_=>cases Q
  refine(K.2 G w (vs++cvs) (λi d v e=>by have:=h.ctx i;rw[e]at this;exact this) (λi=>(h.tb i).below h.base h.below) h.gok (by simp;lia) (app I (C j.1))).mono ?_
  rintro e w' ⟨v,G',J,u,B,l,q,A⟩;exact⟨v,G',J,h.nC q u l B.1 B.2,A⟩
 have O:r.flat=true:=T.resolve_right j
 have I:∀(i:Nat) (x:D) (v:Value),ds[i]? =aa x->vs[i]? =aa v->iz (full w) x v:=by
  intro i x v hx c
  have n:i<args.length:=by have:=(bd.1 hx).1;lia
  have k:args[i]? =aa args[i]:=bh n;exact h.jG (L i _ x k hx) (M i _ v k c)
 refine(K.2 (full w) w (vs++cvs) (λi d v e=>by have:=h.ctx i;rw[e]at this;exact h.jG (x:= .d d) rfl this) (λi=>(h.tb i).below h.base h.below) (GOk.a02 w) (by simp;lia) (app I F)).mono ?_
 rintro e w' ⟨v,G',J,u,B,l,q,A⟩;refine⟨v,join G G' w.heap.size,J,h.nC q ⟨λb o v g=>?_,λb es g=>?_⟩ ⟨λb o v g=>?_,λb es g=>?_⟩ (λb o hb=>?_) (λb hb=>?_),iz.flat O A⟩
 ·show(if b<w.heap.size then G.cv b o else G'.cv b o)=_;rw[bc (h.gok.lt g)];exact g
 ·show(if b<w.heap.size then G.mv b else G'.mv b)=_;rw[bc (h.gok.ltm g)];exact g
 ·change(if b<w.heap.size then G.cv b o else G'.cv b o)=_ at g;split at g
  ·rename_i hb;exact(q.cell (p:=⟨b,o,ae⟩) hb).trans (h.gok.cv b o v g)
  exact l.cv b o v g
 ·change(if b<w.heap.size then G.mv b else G'.mv b)=_ at g;split at g
  ·rename_i hb;obtain⟨ents,clock,m,t⟩:=h.gok.mv b es g;exact⟨ents,clock,(q.block b hb).trans m,t⟩
  exact l.mv b es g
 ·show(if b<w.heap.size then G.cv b o else G'.cv b o)=_;rw[bc hb]
 show(if b<w.heap.size then G.mv b else G'.mv b)=_;rw[bc hb]
theorem jw.bump(h:jw B0 w0 nt G0 s G E a w){id g:Nat}{cs:List C}(hb:s.di id=aa (.loc cs))(d:a.tmps.getD g undef= .pointer (aa ⟨E.b id,0,ae⟩)):
  jw B0 w0 nt G0 {s with tmp:=lu s.tmp g (.gz id (s.ba id+1) 0),ba:=lu s.ba id (s.ba id+1)} G E a w:=by
 have c:J2 E E s {s with tmp:=lu s.tmp g (.gz id (s.ba id+1) 0),ba:=lu s.ba id (s.ba id+1)}:=by
  refine⟨λi=>?_,λi sz n d l=>⟨n,l,bm _,λ_=>⟨rfl,rfl⟩⟩,λi o d l j=>⟨⟨o,l,j⟩,rfl⟩,λi d z=>⟨z,rfl⟩⟩;show _<=lu s.ba id (s.ba id+1) i;by_cases e:i=id
  ·subst e;rw[de];lia
  rw[ie _ _ _ _ e];exact bm _
 refine⟨h.size,h.defers,h.base,h.below,h.gok,h.gle,h.Jt,λt=>?_,λi b f=>?_,h.inj,λi es f=>?_,h.Sn,λp=>j4.move (ix.me _) c (h.ctx p),h.tb⟩
 ·by_cases e:t=g
  ·subst e;show j4 G E _ (lu s.tmp t _ t) _;rw[de];exact⟨by simp[de],λ_ _=>d⟩
  show j4 G E _ (lu s.tmp g _ t) _;rw[ie _ _ _ _ e];exact j4.move (ix.me _) c (h.tmp t)
 ·have k:=h.di i b f;exact k.move (ix.me _) c rfl k.2.1 rfl rfl
 obtain⟨q,r,ents,clock,u,v,m,y⟩:=h.mp i es f;exact⟨q,r,ents,clock,u,v,λi e x hx hy=>⟨(m i e x hx hy).1,j4.F2 (ix.me _) c (m i e x hx hy).2⟩,y⟩
theorem Bh.refl{g:Nat}{o:Obj}(h:w.heap[g]? =aa o):Bh w w g o:=⟨rfl,rfl,rfl,rfl,rfl,λ_ _=>rfl,h⟩
theorem NI(h:jw B0 w0 nt G0 s G E a w){t:TypeId}{n g:Nat}{R:ov}{v:Value}(hs:lx P t=aa n)(hx:j4 G E s (R.ev s) v){d:Nat}{ids:List Nat}{O:my}(p:(lg.init g n R).qi d s=aa (ids,O)):
  tz P B0 nt w0 G0 a w ae ((do a8r t (a.tmps.getD g undef) v;pure Next.skip:Sem Next).run P w) (O.app ae (s.vz ids)):=by
 simp only[lg.qi]at p;split at p
 ·rename_i id ba m cs Q hb T;split at p
  ·rename_i f;obtain⟨A,rfl,rfl,k,M⟩:=f;simp only[av,db]at p;obtain⟨rfl,rfl⟩:=p;generalize s.base+g=a1 at A hb Q|-;subst A;have D:=h.tmp g;rw[Q]at D;have r:=D.2 rfl ⟨_,hb,rfl⟩;have k0:=h.di id _ hb;obtain⟨_,_,cells,et,K,k4,k5⟩:=k0;have L:m=cells.size:=k5
   have h1:=h.set hb (b':= .loc (jq m (.d .any))) ⟨rfl,λ_ _ Z=>by simp[B.Ei]at Z⟩ (Bh.refl K) k4 ⟨by simp[L],λj c u f F=>by
    rw[S6]at f;split at f
    ·injection f with f;subst f;exact iz.any
    cases f⟩
   have hm:J2 E E s {s with di:=lu s.di id (aa (.loc (jq m (.d .any))))}:=by
    refine⟨λi=>bm _,λi sz W _ q=>?_,λi X _ q J=>?_,λi _ D=>⟨D,rfl⟩⟩
    ·by_cases e:i=id
     ·subst e;simp[PS.Ei,B.Ei,de]at q
     simp only[PS.Ei,ie _ _ _ _ e]at q;exact⟨W,q,bm _,λ_=>⟨rfl,rfl⟩⟩
    by_cases e:i=id
    ·subst e;exact⟨⟨_,hb,rfl⟩,rfl⟩
    simp only[ie _ _ _ _ e]at q;exact⟨⟨X,q,J⟩,rfl⟩
   obtain⟨c1,N⟩:=T4 T hx
   have U:∀i ba,PS.K2 {s with di:=lu s.di id (aa (.loc (jq m (.d .any))))} i ba=s.K2 i ba:=by
    intro i ba;unfold PS.K2;by_cases e:i=id
    ·subst e;simp[de,hb,B.Ei]
    simp[ie _ _ _ _ e]
   have H:cs.all (C.one {s with di:=lu s.di id (aa (.loc (jq m (.d .any))))})=true:=by
    rw[dg]at M|-;intro c f;have:=M c f
    cases c with
    |d x=>exact this
    |ref i v l=>simp only[C.one,V.live,U]at this|-;exact this
    |o8 i v=>exact this
    |ptr i v o=>
     simp only[C.one,V.live,PS.cs]at this|-;by_cases e:i=id
     ·subst e;simp only[hb]at this;simp at this
     simp only[ie _ _ _ _ e];exact this
   have xv:Ac {s with di:=lu s.di id (aa (.loc (jq m (.d .any))))} m cs (.gz id (s.ba id) 0)=aa ([],.set id (.loc cs)):=by
    have Y:PS.cs {s with di:=lu s.di id (aa (.loc (jq m (.d .any))))} id (s.ba id)=aa (jq m (.d .any)):=by
     simp[PS.cs,de]
    simp only[Ac,Y];rw[bc ⟨H,k,by simp⟩]
    have:patch (jq m (C.d .any)) 0 cs=cs:=by simp[patch,k]
    rw[this]
   obtain⟨w',a0,b,hr,y,hf⟩:=eJ h1 hs xv (ad:=a.tmps.getD g undef) (v:=v) ⟨bm _,λ_ _=>r⟩ c1 (λj c u hj F=>j4.F2 (ix.me _) hm (N j c u hj F)) (λ_ u F=>by
    obtain⟨i,hi,I⟩:=j0.1 F
    have S:i<v.cells.size:=by simpa using hi
    have z:i<cs.length:=by lia
    have K:=N i cs[i] u (bh z) (by rw[<-I];simp[S])
    exact zx.yI K (dg.1 M _ (dj z)))
   simp only[db,my.set.injEq,true_and]at y;obtain⟨rfl,rfl⟩:=y;rw[yZ,hr];have h2:=hf.bump (id:=id) (g:=g) (cs:=cs) (by simp[de]) r;refine⟨_,_,_,G,E,_,.no,rfl,.inr ⟨rfl,rfl⟩,h2,trivial,?_⟩
   have e:lu (lu s.di id (aa (B.loc (jq m (C.d .any))))) id (aa (B.loc cs))=lu s.di id (aa (B.loc cs)):=by
    funext i
    by_cases e:i=id
    ·subst e;simp[de]
    simp[ie _ _ _ _ e]
   simp only[my.app,PS.vz,PS.put,e]
  cases p
 cases p
end
section
variable{P:Program}{B0 nt:Nat}{w0 w w':World}{G0 G G':ix}{s s':PS}{E E':Env}{a:Act}
def Fits(P:Program)(nt:Nat)(an:Ann)(ops:Array Oper)(o:Oper)(ri:RI):Prop:=
 ∃b,mY P nt an ops o=aa b/\(ri=b\/(∃z,b.op= .alloc z/\ri={b with op:= .zr z.length})\/∃n g x,b.op= .store n (.t g) x/\b.dst=ae/\ri={b with op:= .init g n x})
def Ml(B0 nt:Nat)(w0:World)(G0:ix)(K:PS->Prop)(a:Act)(w:World):Prop:=∃s G E,K s/\jw B0 w0 nt G0 s G E a w
theorem Yu{an:Ann}{ops:Array Oper}{o:Oper}{c:RI}(h:mY P nt an ops o=aa c):
  cOp P (an.imm.contains (o.dst.getD 0)) (an.kp.contains (o.dst.getD 0)) (an.cv.contains (o.dst.getD 0)) (if an.ce.contains (o.dst.getD 0)then 2 else if an.cf.contains (o.dst.getD 0)then 1 else if an.cr.contains (o.dst.getD 0)then 3 else 0) o.op=aa c.op/\c.dst=o.dst/\o.dst.all (· <nt)=ah/\
   ((o.guard=ae/\c.guard=ae)\/∃j b t,o.guard=aa (j,b)/\c.guard=aa (t,b)/\(ops[j]?).bind (·.dst)=aa t)/\
   c.after=(o.after.toList.filter (ad6 .any)).map (·.on):=by
 unfold mY at h;split at h
 ·cases h
 rename_i r f;split at h
 ·rename_i e;split at h
  ·rename_i d;injection h with h;subst h;exact⟨f,rfl,d,.inl ⟨e,rfl⟩,rfl⟩
  cases h
 rename_i j b e;split at h
 ·rename_i t g;split at h
  ·rename_i d;injection h with h;subst h;exact⟨f,rfl,d,.inr ⟨j,b,t,e,rfl,g⟩,rfl⟩
  cases h
 cases h
theorem Fits.spec{an:Ann}{ops:Array Oper}{o:Oper}{ri:RI}(h:Fits P nt an ops o ri):
  ri.dst=o.dst/\o.dst.all (· <nt)=ah/\((o.guard=ae/\ri.guard=ae)\/∃j b t,o.guard=aa (j,b)/\ri.guard=aa (t,b)/\(ops[j]?).bind (·.dst)=aa t)/\
   ri.after=(o.after.toList.filter (ad6 .any)).map (·.on):=by
 obtain⟨d,c,rfl|⟨z,_,rfl⟩|⟨n,g,x,_,_,rfl⟩⟩:=h<;>exact(Yu c).2
theorem Df(h:jw B0 w0 nt G0 s G E a w){an:Ann}{ops:Array Oper}{o:Oper}{ri:RI}(l:Fits P nt an ops o ri){b:Bool}(d:wanted ri s=aa b):ado o (yielded ops a.tmps)=b:=by
 obtain⟨_,_,m,_⟩:=l.spec;unfold wanted at d;unfold ado;rcases m with ⟨g,i⟩|⟨j,c,t,g,i,k⟩
 ·rw[i]at d;rw[g];simpa using d
 rw[i]at d;rw[g];simp only at d|-;split at d
 ·rename_i x hx
  injection d with d
  have e:=h.tmp t;rw[hx]at e;unfold yielded;rw[k];simp only[rX]
  have n:a.tmps[t]? =aa (.bool x):=by
   generalize f:a.tmps.getD t undef=q at e;cases e;rw[kl]at f
   cases hz:a.tmps[t]? with
   |none=>rw[hz]at f;cases f
   |some y=>rw[hz]at f;simp at f;rw[f]
  rw[n];subst d;cases x<;>cases c<;>rfl
 ·rename_i hx
  injection d with d
  subst d;have e:=h.tmp t;rw[hx]at e;unfold yielded;rw[k];simp only[rX]
  cases hz:a.tmps[t]? with
  |none=>rfl
  |some y=>
   rw[kl,hz]at e;simp only[jj]at e;cases e;rfl
 cases d
theorem tz.wp{o:Oper}{s':PS}{K:PS->Prop}{next:Act->World->Prop}{Q:Exit->Act->World->Prop}(d:o.dst.all (· <nt)=ah)
  (h:tz P B0 nt w0 G0 a w o.dst ((execOp a.eval o).run P w) s')(c:K s')(f:∀a w,Ml B0 nt w0 G0 K a w->next a w):o.wp P a w next Q:=by
 obtain⟨n,v,w',G',E',j,x,i,b,e,g,rfl⟩:=h;unfold afr;rw[i];rcases b with rfl|⟨rfl,rfl⟩
 ·exact f _ _ ⟨_,G',E',c,e.nZ d g⟩
 exact f _ _ ⟨_,G',E',c,e.nZ d g⟩
theorem Lf{f:Nat}(b:B3 P f=ah)(args:Array Value):(callFunc f args).run P w= .ok (.enter f args) w:=by
 unfold B3 at b;split at b
 ·rename_i d c;simp only[dc,bne_iff_ne,ne_eq]at b;unfold callFunc
  have e:d.body≠none:=by intro h;have:=b.2;rw[h]at this;cases this
  simp[c,b.1,e]
 cases b
theorem IM(h:jw B0 w0 nt G0 s G E a w){o:Oper}{K:PS->Prop}{next:Act->World->Prop}{Q:Exit->Act->World->Prop}(p:o.dst.all (· <nt)=ah){f:Nat}{args:List V}{j9:List D}{own:Bool}{vs cvs:Array Value}
  (y:Gt P f args j9 own o.dst s K)(m:B3 P f=ah->(execOp a.eval o).run P w= .ok (.enter f (vs++cvs)) w)(l:vs.size=args.length)(d:cvs.size=j9.length)
  (u:∀(i:Nat) (x:V) (v:Value),args[i]? =aa x->vs[i]? =aa v->j4 G E s x v)(c:∀(i:Nat) (x:D) (v:Value),j9[i]? =aa x->cvs[i]? =aa v->iz (full w) x v)
  (b:own=ag->∀(i:Nat) (x:D) (v:Value),j9[i]? =aa x->cvs[i]? =aa v->iz G x v)(q:∀a w,Ml B0 nt w0 G0 K a w->next a w):o.wp P a w next Q:=by
 obtain⟨ds,r,hs,k,t,n⟩:=y;unfold afr;rw[m k.1,ad7];refine(h.a83 l d u c b hs k t).mono ?_;rintro e w' ⟨v,G',rfl,g,j⟩;exact q _ _ ⟨_,G',E,n,g.nZ p j⟩
theorem Q5(h:jw B0 w0 nt G0 s G E a w){args:Array Operand}{l:List ov}(c:Jw args.toList=aa l):
  (args.map a.eval).size=(l.map (·.ev s)).length/\∀(i:Nat) (x:V) (v:Value),(l.map (·.ev s))[i]? =aa x->(args.map a.eval)[i]? =aa v->j4 G E s x v:=by
 obtain⟨d,e⟩:=GD c;refine⟨by simp[d],λi x v hx b=>?_⟩;simp only[dn,ax]at hx;simp only[Yx,ax]at b;obtain⟨y,hy,rfl⟩:=hx;obtain⟨z,hz,rfl⟩:=b;exact h.ev (e i z y (by simpa using hz) hy)
theorem PB(h:jw B0 w0 nt G0 s G E a w){x:V}{g:Nat}{j9:List D}(hs:snap s x=aa (.qb g j9)){v:Value}(c:j4 G E s x v):
  ∃cvs:Array Value,v= .func (.func g) #[] cvs/\cvs.size=j9.length/\(∀(i:Nat) (x:D) (v:Value),j9[i]? =aa x->cvs[i]? =aa v->iz (full w) x v)/\
   ((!x.isD)=ag->∀(i:Nat) (x:D) (v:Value),j9[i]? =aa x->cvs[i]? =aa v->iz G x v):=by
 have e:=h.jG hs c
 cases e with
 | @qb _ _ vs f k=>
  refine⟨vs,rfl,f,k,λhx=>?_⟩
  cases x with
  |d z=>
   simp only[snap,av]at hs;subst hs
   cases c with
   |qb j b=>exact b
  |_=>cases hx
theorem NU{d kp cv:Bool}{c:Nat}{op:Op}{z:List D}(h:cOp P d kp cv c op=aa (.alloc z)):∃t,op= .alloc t/\H0 P t=aa z:=by
 unfold cOp at h;split at h
 all_goals(first|(simp only[ax]at h;obtain⟨y,hy,b⟩:=h;first|(cases b;exact⟨_,rfl,hy⟩)|cases b)|skip)
 all_goals(repeat' split at h)
 all_goals(first|unfold dY at h|unfold U2 at h|skip)
 all_goals(repeat' split at h)
 all_goals(first|cases h|simp[ax]at h)
theorem NT{j kp cv:Bool}{c:Nat}{op:Op}{n g:Nat}{b:ov}(h:cOp P j kp cv c op=aa (.store n (.t g) b)):∃t ad x,op= .store t ad x/\lx P t=aa n/\xy ad=aa (.t g)/\xy x=aa b:=by
 unfold cOp at h;split at h
 case h_9 t ad x=>
  split at h
  ·rename_i k a' l d e f;cases h;exact⟨t,ad,x,rfl,d,e,f⟩
  cases h
 all_goals(first|(simp only[ax]at h;obtain⟨y,hy,i⟩:=h;cases i)|skip)
 all_goals(repeat' split at h)
 all_goals(first|unfold dY at h|unfold U2 at h|skip)
 all_goals(repeat' split at h)
 all_goals(first|cases h|simp[ax]at h)
theorem aU{g kp cv:Bool}{c:Nat}{op:Op}{f:Nat}{l:List ov}{r:lg}(h:cOp P g kp cv c op=aa r)(e:r= .call f l\/r= .Aq f l\/r= .Xm f l\/r= .ua f l):∃args b,op= .call ⟨.value (.func f),args,b⟩/\Jw args.toList=aa l:=by
 rcases e with rfl|rfl|rfl|rfl
 all_goals
  unfold cOp at h;split at h
  all_goals(first|(simp only[ax]at h;obtain⟨y,hy,d⟩:=h;cases d;done)|skip)
  all_goals(repeat' split at h)
  all_goals(first|unfold dY at h|unfold U2 at h|skip)
  all_goals(repeat' split at h)
  all_goals(first|(cases h;exact⟨_,_,rfl,by assumption⟩)|cases h|simp[ax]at h)
theorem dX{g kp cv:Bool}{c:Nat}{op:Op}{f:ov}{l:List ov}{r:lg}(h:cOp P g kp cv c op=aa r)(e:r= .zq f l\/r= .Od f l\/r= .Q3 f l):∃x args b,op= .call ⟨.value x,args,b⟩/\xy x=aa f/\Jw args.toList=aa l:=by
 rcases e with rfl|rfl|rfl
 all_goals
  unfold cOp at h;split at h
  all_goals(first|(simp only[ax]at h;obtain⟨y,hy,d⟩:=h;cases d;done)|skip)
  all_goals(repeat' split at h)
  all_goals(first|unfold dY at h|unfold U2 at h|skip)
  all_goals(repeat' split at h)
  all_goals(first|(cases h;exact⟨_,_,_,rfl,by assumption,by assumption⟩)|cases h|simp[ax]at h)
theorem UL{d kp cv:Bool}{c:Nat}{op:Op}{e:KK}{sz by_:Nat}{x k y:ov}{ts:List Nat}(h:cOp P d kp cv c op=aa (.dP e sz by_ x k y ts)):False:=by
 unfold cOp at h;split at h
 all_goals(first|(simp only[ax]at h;obtain⟨y,hy,b⟩:=h;cases b;done)|skip)
 all_goals(repeat' split at h)
 all_goals(first|unfold dY at h|unfold U2 at h|skip)
 all_goals(repeat' split at h)
 all_goals(first|cases h|(simp[ax]at h;done)|(simp only[ax]at h;obtain⟨y,hy,b⟩:=h;first|cases b|(split at b<;>cases b)))
theorem I0(s:PS)(i ba:Nat):B5 s s i ba:=⟨rfl,rfl,rfl,rfl,rfl,λ_ _ _=>rfl⟩
theorem KA(s:PS)(v:V):K0 s s v:=by
 cases v with
 |agg cs=>intro c _;cases c<;>first|trivial|exact I0 _ _ _
 |Bb cs=>intro c _;cases c<;>first|trivial|exact I0 _ _ _
 |qb f ids=>exact λp _=>⟨I0 _ _ _,λcs _ c _=>by cases c<;>first|trivial|exact I0 _ _ _⟩
 |gz i v o=>exact⟨I0 _ _ _,λcs _ c _=>by cases c<;>first|trivial|exact I0 _ _ _⟩
 |Lm i v l n=>exact⟨I0 _ _ _,λcs _ c _=>by cases c<;>first|trivial|exact I0 _ _ _⟩
 |d x=>trivial
 |no=>trivial
 |_=>exact I0 _ _ _
theorem mI(h:jw B0 w0 nt G0 s G E a w){o:Oper}{K:PS->Prop}{next:Act->World->Prop}{Q:Exit->Act->World->Prop}(l:o.dst.all (· <nt)=ah){f:Nat}{args:List V}{m':Mem}{r:V}{vs:Array Value}
  (d:sl P f s.mem args m' r)(k:K ((s.ke m').put o.dst r))(j:B3 P f=ah->(execOp a.eval o).run P w= .ok (.enter f vs) w)(g:vs.size=args.length)
  (n:∀(i:Nat) (x:V) (v:Value),args[i]? =aa x->vs[i]? =aa v->j4 G E s x v)(m:∀a w,Ml B0 nt w0 G0 K a w->next a w):o.wp P a w next Q:=by
 unfold afr;rw[j d.1,ad7];refine(d.2 s B0 w0 nt G0 G E a w vs rfl h g n).mono ?_;rintro e w' ⟨v,G',E',rfl,b,c⟩;exact m _ _ ⟨_,G',E',k,b.nZ l c⟩
theorem qO(h:jw B0 w0 nt G0 s G E a w){o:Oper}{K:PS->Prop}{next:Act->World->Prop}{Q:Exit->Act->World->Prop}(m:o.dst.all (· <nt)=ah){f:Nat}{args:List V}{R:Mem->V->Prop}{vs:Array Value}
  (d:Fg P f s args R)(k:∀m' r,R m' r->K ((s.ke m').put o.dst r))(j:B3 P f=ah->(execOp a.eval o).run P w= .ok (.enter f vs) w)(g:vs.size=args.length)
  (p:∀(i:Nat) (x:V) (v:Value),args[i]? =aa x->vs[i]? =aa v->j4 G E s x v)(n:∀a w,Ml B0 nt w0 G0 K a w->next a w):o.wp P a w next Q:=by
 unfold afr;rw[j d.1,ad7];refine(d.2 B0 w0 nt G0 G E a w vs h g p).mono ?_;rintro e w' ⟨v,G',E',m',r,rfl,l,b,c⟩;exact n _ _ ⟨_,G',E',k m' r l,b.nZ m c⟩
theorem V5(h:jw B0 w0 nt G0 s G E a w){an:Ann}{ops:Array Oper}{o:Oper}{ri:RI}(hf:Fits P nt an ops o ri){K:PS->Prop}{next:Act->World->Prop}{Q:Exit->Act->World->Prop}
  (j:Ig P ri s K)(J:∀a w,Ml B0 nt w0 G0 K a w->next a w):o.wp P a w next Q:=by
 obtain⟨N,I,_,_⟩:=hf.spec;obtain⟨r0,hc,Y⟩:=hf;obtain⟨c,_,_,_,_⟩:=Yu hc
 have qi:(match ri.op.qi (s.base+ri.dst.getD 0) s with|some (ids,e)=>K (e.app ri.dst (s.vz ids))|none=>False)->o.wp P a w next Q:=by
  intro W;split at W
  ·rename_i ids e X;rw[N]at X W;rcases Y with rfl|⟨z,hz,rfl⟩|⟨n,g,x,hz,a5,rfl⟩
   ·exact(TS h c X).wp I W J
   ·rw[hz]at c;obtain⟨t,l,ht⟩:=NU c;refine tz.wp I (s':=my.app o.dst (s.vz ids) e) ?_ W J;unfold execOp;rw[l];exact AU h ht X
   rw[hz]at c;obtain⟨t,ad,x',l,hs,D,hx⟩:=NT c;refine tz.wp I (s':=my.app o.dst (s.vz ids) e) ?_ W J;unfold execOp;rw[l]
   have e1:a.eval ad=a.tmps.getD g undef:=by
    cases ad with
    |tmp t=>simp only[xy,av,ov.t.injEq]at D;subst D;rfl
    |const v=>simp[xy]at D
    |func f=>simp[xy]at D
    |global g=>cases D
   dsimp only
   rw[e1];have a0:o.dst=none:=N.symm.trans a5;rw[a0]at X|-;exact NI h hs (h.ev hx) X
  exact W.elim
 unfold Ig at j
 have m:∀(q:lg),(∀n,q≠ .zr n)->(∀g n x,q≠ .init g n x)->ri.op=q->r0.op=q:=by
  intro q h1 h2 hq;rcases Y with rfl|⟨z,_,rfl⟩|⟨n,g,x,_,_,rfl⟩
  ·exact hq
  ·exact absurd hq.symm (h1 _)
  exact absurd hq.symm (h2 _ _ _)
 have Z:∀{f:Nat} {b:Array Operand} {L:Array TypeId},o.op= .call ⟨.value (.func f),b,L⟩->B3 P f=ah->(execOp a.eval o).run P w= .ok (.enter f (b.map a.eval)) w:=by
  intro f b L l k;unfold execOp;rw[l];simp only[df,resolve,Act.eval,a1v,fl,br,invoke];rw[Lf k];simp
 split at j
 ·rename_i hg;have p:=m _ (by simp) (by simp) hg;rw[p]at c;exact(UL c).elim
 ·rename_i f args A;have p:=m _ (by simp) (by simp) A;obtain⟨b,L,l,B⟩:=aU c (.inr (.inr (.inr p)));obtain⟨u,C⟩:=Q5 h B;rw[N]at j;obtain⟨R,O,M⟩:=j;exact qO h I O M (Z l) u C J
 ·rename_i f args A;have p:=m _ (by simp) (by simp) A;obtain⟨V,b,L,l,F,B⟩:=dX c (.inr (.inr p));obtain⟨u,C⟩:=Q5 h B;split at j
  ·rename_i g j9 T;rw[N]at j;obtain⟨R,O,M⟩:=j;have d:=h.ev F;rw[T]at d;have d:iz G (.qb g j9) (a.eval V):=d;generalize U:a.eval V=fv at d
   cases d with
   | @qb _ _ cvs a2 S=>
    refine qO h I O M (vs:=b.map a.eval++cvs) (λk=>?_) (by simp at u|-;lia) (λi x v hx H=>?_) J
    ·unfold execOp;rw[l];simp only[df,resolve,U,a1v,fl,br,invoke];rw[Lf k];simp
    by_cases hi:i<(args.map (·.ev s)).length
    ·rw[kq hi]at hx;rw[Bn (by lia)]at H;exact C i x v hx H
    rw[l9 (by lia)]at hx;rw[jA (by lia)]at H;rw[u]at H;simp only[dn,ax]at hx;obtain⟨y,hy,rfl⟩:=hx;exact S _ y v hy H
  exact j.elim
 ·rename_i f args A;have p:=m _ (by simp) (by simp) A;obtain⟨b,L,l,B⟩:=aU c (.inr (.inl p));obtain⟨u,C⟩:=Q5 h B;rw[N]at j;obtain⟨m',r,O,M⟩:=j;exact mI h I O M (Z l) u C J
 ·rename_i f args A;have p:=m _ (by simp) (by simp) A;obtain⟨b,L,l,B⟩:=aU c (.inr (.inr (.inl p)));obtain⟨u,C⟩:=Q5 h B;rw[N]at j;obtain⟨r,hF,M⟩:=j;exact mI h I (hF s λx _=>KA s x) M (Z l) u C J
 ·rename_i f args A;have p:=m _ (by simp) (by simp) A;obtain⟨V,b,L,l,F,B⟩:=dX c (.inr (.inl p));obtain⟨u,C⟩:=Q5 h B;split at j
  ·rename_i g j9 T;rw[N]at j;obtain⟨m',r,O,M⟩:=j;have d:=h.ev F;rw[T]at d;have d:iz G (.qb g j9) (a.eval V):=d;generalize U:a.eval V=fv at d
   cases d with
   | @qb _ _ cvs a2 S=>
    refine mI h I O M (vs:=b.map a.eval++cvs) (λk=>?_) (by simp at u|-;lia) (λi x v hx H=>?_) J
    ·unfold execOp;rw[l];simp only[df,resolve,U,a1v,fl,br,invoke];rw[Lf k];simp
    by_cases hi:i<(args.map (·.ev s)).length
    ·rw[kq hi]at hx;rw[Bn (by lia)]at H;exact C i x v hx H
    rw[l9 (by lia)]at hx;rw[jA (by lia)]at H;rw[u]at H;simp only[dn,ax]at hx;obtain⟨y,hy,rfl⟩:=hx;exact S _ y v hy H
  exact j.elim
 ·rename_i f args A;have p:=m _ (by simp) (by simp) A;obtain⟨b,L,l,B⟩:=aU c (.inl p);obtain⟨u,C⟩:=Q5 h B;rw[N]at j;exact IM h I (vs:=b.map a.eval) (cvs:= #[]) j (λk=>by rw[Z l k];simp) u rfl C (λi x v hx _=>by simp at hx) (λ_ i x v hx _=>by simp at hx) J
 ·rename_i f args A;have p:=m _ (by simp) (by simp) A;obtain⟨V,b,L,l,F,B⟩:=dX c (.inl p);obtain⟨u,C⟩:=Q5 h B;split at j
  ·rename_i g j9 a6;rw[N]at j;obtain⟨cvs,e1,a4,a3,a1⟩:=PB h a6 (h.ev F);refine IM h I (vs:=b.map a.eval) (cvs:=cvs) j (λk=>?_) u a4 C a3 a1 J;unfold execOp;rw[l];simp only[df,resolve,e1,a1v,fl,br,invoke];rw[Lf k];simp
  exact j.elim
 exact qi j
end
section
variable{P:Program}{s s':PS}
theorem aZ{α:Type}{l:List α}{p q:α->Bool}(h:∀x∈l,p x=q x):l.all p=l.all q:=by
 induction l with
 |nil=>rfl
 |cons x r a=>simp only[X8,h x (by simp),a λy hy=>h y (by simp[hy])]
theorem Wj{v:V}(h:K0 s s' v):v.live s'=v.live s:=by
 cases v with
 |ref i v l=>simp only[V.live,h.K2]
 |o8 i v=>simp only[V.live,h.ents]
 |gz i v o=>simp only[V.live,h.1.cs]
 |Iy i v l j o=>simp only[V.live,h.K2]
 |qb f ids=>
  simp only[V.live]
  exact aZ λp a=>by rw[(h p a).1.cs]
 |Lm i v l n=>simp only[V.live,h.1.cs]
 |Iz i v m j=>simp only[V.live,h.K2]
 |win i v m o l=>simp only[V.live,h.K2]
 |_=>rfl
theorem yH{c:C}(h:J1 s s' c):c.one s'=c.one s:=by
 cases c with
 |d x=>rfl
 |ref i v l=>exact Wj (v:= .ref i v l) h
 |o8 i v=>exact Wj (v:= .o8 i v) h
 |ptr i v o=>simp only[C.one,V.live,h.cs]
theorem Q1{v:V}(h:K0 s s' v):v.cells s'=v.cells s:=by
 cases v with
 |ref i v l=>simp only[V.cells,h.K2]
 |o8 i v=>simp only[V.cells,h.ents]
 |gz i v o=>simp only[V.cells,h.1.cs]
 |d x=>cases x<;>rfl
 |_=>rfl
theorem Yt{v:V}(h:K0 s s' v){cs:List C}(a:v.cells s=aa cs):∀c∈cs,J1 s s' c:=by
 cases v with
 |d x=>cases x<;>simp[V.cells]at a<;>(try subst a)<;>intro c b<;>simp at b<;>(first|subst b|(obtain⟨y,_,rfl⟩:=b))<;>trivial
 |ref i v l=>
  simp only[V.cells]at a;split at a
  ·split at a
   ·injection a with a;subst a;intro c b;simp at b;subst b;exact h
   cases a
  cases a
 |o8 i v=>
  simp only[V.cells]at a;split at a
  ·injection a with a;subst a;intro c b;simp at b;subst b;exact h
  cases a
 |gz i v o=>
  simp only[V.cells]at a;split at a
  ·injection a with a;subst a;intro c b;simp at b;subst b;exact h.1
  cases a
 |agg e=>simp only[V.cells,av]at a;subst a;exact h
 |_=>cases a
theorem AW{v:V}(h:K0 s s' v)(n:Nat)(g:Bool):Cw s' n g v=Cw s n g v:=by
 cases v with
 |gz i v o=>simp only[Cw,h.1.cs]
 |Iy i v l j o=>simp only[Cw,h.dv,h.elc]
 |d x=>cases x<;>rfl
 |_=>rfl
theorem vK{v:V}(h:K0 s s' v){xs:List C}(hx:∀c∈xs,J1 s s' c)(n:Nat):Ac s' n xs v=Ac s n xs v:=by
 have e:xs.all (C.one s')=xs.all (C.one s):=aZ λc a=>yH (hx c a)
 cases v with
 |gz i v o=>simp only[Ac,h.1.cs,e]
 |Iy i v l j o=>simp only[Ac,G5,h.dv,h.elc,e]
 |_=>rfl
theorem mL{v:V}(h:K0 s s' v)(off:Nat):T2 s' off v=T2 s off v:=by
 cases v with
 |gz i v o=>simp only[T2,h.1.cs]
 |Iy i v l j o=>simp only[T2,h.K2]
 |d x=>cases x<;>rfl
 |_=>rfl
theorem AX{v:V}(h:K0 s s' v)(n:Nat)(i:Int):Ld s' n i v=Ld s n i v:=by
 cases v with
 |ref i v l=>simp only[Ld,h.K2]
 |Lm i v l n=>simp only[Ld,h.1.cs]
 |d x=>cases x<;>rfl
 |_=>rfl
theorem FH{v:V}(h:K0 s s' v)(k:TK):Pz s' k v=Pz s k v:=by
 cases v with
 |ref i v l=>cases k<;>simp only[Pz,h.K2]
 |o8 i v=>cases k<;>simp only[Pz,h.ents]
 |Lm i v l n=>cases k<;>simp only[Pz,h.1.cs]
 |win i v m o l=>cases k<;>simp only[Pz,h.K2]
 |d x=>cases k<;>cases x<;>rfl
 |_=>cases k<;>rfl
theorem kR{v:V}(h:K0 s s' v)(k:TK):isNil s' k v=isNil s k v:=by
 have e:=Wj h
 cases v with
 |d x=>cases k<;>cases x with
  |gd n l=>cases l<;>rfl
  |_=>rfl
 |ref i v l=>cases k<;>simp only[isNil,e]
 |o8 i v=>cases k<;>simp only[isNil,e]
 |gz i v o=>cases k<;>simp only[isNil,e]
 |Iy i v l j o=>cases k<;>simp only[isNil,e]
 |qb f ids=>cases k<;>simp only[isNil,e]
 |agg cs=>cases k<;>rfl
 |Bb cs=>cases k<;>rfl
 |Lm _ _ _ _=>cases k<;>rfl
 |Iz _ _ _ _=>cases k<;>rfl
 |win _ _ _ _ _=>cases k<;>rfl
 |no=>cases k<;>rfl
theorem LN{c:C}(h:J1 s s' c):Rs s' c=Rs s c:=by
 cases c with
 |d x=>rfl
 |ref i v l=>simp only[Rs,h.dv]
 |o8 i v=>simp only[Rs,h.ents]
 |ptr i v o=>rfl
theorem DB:∀{cs:List C},(∀c∈cs,J1 s s' c)->Qh s' cs=Qh s cs:=by
 intro cs
 induction cs with
 |nil=>intro _;rfl
 |cons c r d=>intro h;simp only[Qh,LN (h c (by simp)),d λa b=>h a (by simp[b])]
theorem FI{v:V}(h:K0 s s' v):pj s' v=pj s v:=by
 cases v with
 |ref i v l=>simp only[pj,h.dv]
 |win i v m o l=>simp only[pj,h.dv]
 |d x=>cases x<;>rfl
 |_=>rfl
theorem TM{v:V}(h:K0 s s' v):v.ent s'=v.ent s:=by
 have e:=Wj h
 cases v with
 |d x=>rfl
 |ref i v l=>simp only[V.ent,e]
 |o8 i v=>simp only[V.ent,e]
 |gz i v o=>simp only[V.ent,e]
 |_=>rfl
theorem FJ{v:V}(h:K0 s s' v)(n a:Nat):Ud s' n a v=Ud s n a v:=by
 cases v with
 |ref i v l=>
  simp only[Ud,h.dv]
  cases c:s.dv i v with
  |none=>rfl
  |some p=>
   have b:s'.dv i v=aa p:=by rw[h.dv];exact c
   have e:s'.ba i=s.ba i:=(zn (s:=s') (sz:=p.1) (dv:=p.2) b).1.trans (zn (s:=s) (sz:=p.1) (dv:=p.2) c).1.symm;simp only[e]
 |d x=>cases x<;>rfl
 |_=>rfl
theorem FG{v:V}(h:K0 s s' v):Lc s' v=Lc s v:=by
 cases v with
 |o8 i v=>simp only[Lc,h.ents]
 |d x=>cases x<;>rfl
 |_=>rfl
theorem CD{c:C}(h:J1 s s' c):ow s' c=ow s c:=by
 cases c with
 |d x=>rfl
 |ref i v l=>simp only[ow,h.dv,h.dp 6 _ (.inl ⟨l,rfl⟩)]
 |o8 i v=>simp only[ow,h.dp 6 _ (.inr rfl)]
 |ptr i v o=>rfl
theorem Jr:∀{cs:List C},(∀c∈cs,J1 s s' c)->k9 s' cs=k9 s cs:=by
 intro cs
 induction cs with
 |nil=>intro _;rfl
 |cons c r d=>intro h;simp only[k9,CD (h c (by simp)),d λa b=>h a (by simp[b])]
theorem qA{v:V}(h:K0 s s' v):snap s' v=snap s v:=by
 cases v with
 |ref i v l=>simp only[snap,h.dv,h.dp 6 _ (.inl ⟨l,rfl⟩)]
 |o8 i v=>simp only[snap,h.dp 6 _ (.inr rfl)]
 |Lm i v l n=>
  simp only[snap,h.1.cs]
  cases a:s.cs i v with
  |none=>rfl
  |some cs=>simp only[Jr (h.2 cs a)]
 |gz i v o=>
  simp only[snap,h.1.cs]
  cases a:s.cs i v with
  |none=>rfl
  |some cs=>simp only[Jr (h.2 cs a)]
 |qb f ids=>
  match ids,h with
  |[],h=>rfl
  |[p],h=>
   obtain⟨i,v⟩:=p;have b:=h (i,v) (by simp);simp only[snap,b.1.cs]
   cases a:s.cs i v with
   |none=>rfl
   |some cs=>simp only[Jr (b.2 cs a)]
  |[p,q],h=>
   obtain⟨i,v⟩:=p;obtain⟨j,u⟩:=q;have b:=h (i,v) (by simp);have e:=h (j,u) (by simp);simp only[snap,b.1.cs,e.1.cs]
   cases a:s.cs i v with
   |none=>rfl
   |some cs=>
    cases d:s.cs j u with
    |none=>rfl
    |some c=>simp only[Jr (b.2 cs a),Jr (e.2 c d)]
  |p::q::r::l,h=>rfl
 |agg cs=>simp only[snap,Jr h]
 |_=>rfl
def bF(s s':PS)(x:ov):Prop:=x.ev s'=x.ev s/\K0 s s' (x.ev s)
theorem eT:∀{ps:List (Nat×Nat×ov)},(∀p∈ps,bF s s' p.2.2)->Kr s' ps=Kr s ps:=by
 intro ps
 induction ps with
 |nil=>intro _;rfl
 |cons p r d=>
  obtain⟨o,n,x⟩:=p;intro h;obtain⟨a,b⟩:=h (o,n,x) (by simp);simp only at a b;simp only[Kr,a,Q1 b,d λp c=>h p (by simp[c])]
theorem yB:∀{ps:List (Nat×Nat×ov)},(∀p∈ps,bF s s' p.2.2)->Po s' ps=Po s ps:=by
 intro ps
 induction ps with
 |nil=>intro _;rfl
 |cons p r e=>
  obtain⟨o,n,x⟩:=p;intro h;obtain⟨b,a⟩:=h (o,n,x) (by simp);simp only at b a;simp only[Po,b,Q1 a,e λp d=>h p (by simp[d])]
  cases c:(x.ev s).cells s with
  |none=>rfl
  |some cs=>
   cases f:Po s r with
   |none=>rfl
   |some q=>simp only[DB (Yt a c)]
theorem qU{x:Option ov}(h:∀o∈x.toList,bF s s' o):Wx s' x=Wx s x:=by
 cases x with
 |none=>rfl
 |some o=>simp only[Wx,(h o (by simp)).1]
theorem cD{x:Option ov}(h:∀o∈x.toList,bF s s' o)(n:Nat):Sk s' n x=Sk s n x:=by
 cases x with
 |none=>rfl
 |some o=>simp only[Sk,(h o (by simp)).1]
theorem CC:∀{l:List ov},(∀x∈l,bF s s' x)->Ln s' (l.map (·.ev s'))=Ln s (l.map (·.ev s)):=by
 intro l
 induction l with
 |nil=>intro _;rfl
 |cons x r d=>
  intro h;obtain⟨a,b⟩:=h x (by simp);simp only[du,Ln,a,qA b,d λp c=>h p (by simp[c])]
theorem DS(h:s'.mem=s.mem)(d sz b:Nat)(x y:V):S3 s' d sz b x y=S3 s d sz b x y:=by
 cases s;cases s';simp only[PS.mem,Mem.mk.injEq]at h;obtain⟨rfl,rfl,rfl⟩:=h;rfl
theorem YS(h:s'.mem=s.mem)(n:Nat)(x y:V):zo s' n x y=zo s n x y:=by
 cases s;cases s';simp only[PS.mem,Mem.mk.injEq]at h;obtain⟨rfl,rfl,rfl⟩:=h;rfl
theorem YR(h:s'.mem=s.mem)(c:C):c.one s'=c.one s:=by
 cases s;cases s';simp only[PS.mem,Mem.mk.injEq]at h;obtain⟨rfl,rfl,rfl⟩:=h;rfl
theorem RR(h:s'.mem=s.mem)(i v:Nat):s'.ents i v=s.ents i v:=by
 cases s;cases s';simp only[PS.mem,Mem.mk.injEq]at h;obtain⟨rfl,rfl,rfl⟩:=h;rfl
theorem Wi(h:s'.mem=s.mem)(i v:Nat):s'.dv i v=s.dv i v/\s'.ba=s.ba:=by
 cases s;cases s';simp only[PS.mem,Mem.mk.injEq]at h;obtain⟨rfl,rfl,rfl⟩:=h;exact⟨rfl,rfl⟩
theorem TT{d:Nat}{r:lg}(B:r.kind= .write->s'.mem=s.mem)(u:∀x∈r.tj,bF s s' x)(K:s'.base=s.base)(D:s'.ba d=s.ba d)(R:∀g n x,r= .init g n x->s'.di (s.base+g)=s.di (s.base+g)/\s'.ba (s.base+g)=s.ba (s.base+g)):r.qi d s'=r.qi d s:=by
 cases r with
 |kf x=>simp only[lg.qi,(u x (by simp[lg.tj])).1]
 |pick c a b=>simp only[lg.qi,(u c (by simp[lg.tj])).1,(u a (by simp[lg.tj])).1,(u b (by simp[lg.tj])).1]
 |alloc z=>simp only[lg.qi,D]
 |box n x=>obtain⟨A,w⟩:=u x (by simp[lg.tj]);simp only[lg.qi,A,Q1 w,D]
 |load n g x=>obtain⟨A,w⟩:=u x (by simp[lg.tj]);simp only[lg.qi,A,AW w]
 |store n a x=>
  obtain⟨A,w⟩:=u x (by simp[lg.tj]);obtain⟨E,F⟩:=u a (by simp[lg.tj]);simp only[lg.qi,A,E,Q1 w]
  cases L:(x.ev s).cells s with
  |none=>exact YS (B rfl) _ _ _
  |some cs=>simp only[vK F (Yt w L)]
 |Zq x=>obtain⟨A,w⟩:=u x (by simp[lg.tj]);simp only[lg.qi,A,kR w]
 |Ai o x=>obtain⟨A,w⟩:=u x (by simp[lg.tj]);simp only[lg.qi,A,mL w]
 |y9 l n x i=>obtain⟨A,w⟩:=u x (by simp[lg.tj]);simp only[lg.qi,A,mL w,(u i (by simp[lg.tj])).1]
 |xn n x i=>obtain⟨A,w⟩:=u x (by simp[lg.tj]);simp only[lg.qi,A,AX w,(u i (by simp[lg.tj])).1]
 |dB x i=>simp only[lg.qi,(u x (by simp[lg.tj])).1,(u i (by simp[lg.tj])).1]
 |iE o n g x=>simp only[lg.qi,(u x (by simp[lg.tj])).1]
 |len k x=>obtain⟨A,w⟩:=u x (by simp[lg.tj]);simp only[lg.qi,A,FH w]
 |bin op x y=>simp only[lg.qi,(u x (by simp[lg.tj])).1,(u y (by simp[lg.tj])).1]
 |eqs ks n x y=>simp only[lg.qi,(u x (by simp[lg.tj])).1,(u y (by simp[lg.tj])).1]
 |Kt k n x=>obtain⟨A,w⟩:=u x (by simp[lg.tj]);simp only[lg.qi,A,kR w]
 |beq n x y=>simp only[lg.qi,(u x (by simp[lg.tj])).1,(u y (by simp[lg.tj])).1]
 |un op x=>simp only[lg.qi,(u x (by simp[lg.tj])).1]
 |conv k x=>simp only[lg.qi,(u x (by simp[lg.tj])).1]
 |fO x=>simp only[lg.qi,(u x (by simp[lg.tj])).1]
 |build z ps=>simp only[lg.qi,eT λp H=>u p.2.2 (by simp only[lg.tj,j6];exact⟨p,H,rfl⟩)]
 |xz W n sz z ps=>simp only[lg.qi,D,yB λp H=>u p.2.2 (by simp only[lg.tj,j6];exact⟨p,H,rfl⟩)]
 |app sz b x y=>
  obtain⟨A,w⟩:=u x (by simp[lg.tj]);obtain⟨E,F⟩:=u y (by simp[lg.tj]);simp only[lg.qi,A,E,FI F,D,DS (B rfl)];generalize x.ev s=G at w|-
  cases G with
  |ref i v l=>simp only[w.dv]
  |win i v m o l=>simp only[w.dv]
  |d z=>cases z<;>rfl
  |_=>rfl
 |dT n sz z ps=>
  have e:∀cs:List C,cs.all (C.one s')=cs.all (C.one s):=λcs=>aZ λc _=>YR (B rfl) c;simp only[lg.qi,D,e,eT λp H=>u p.2.2 (by simp only[lg.tj,j6];exact⟨p,H,rfl⟩)]
 |dP O sz b x k y ts=>rfl
 |bad=>rfl
 |iG sz b z x y=>simp only[lg.qi,(u x (by simp[lg.tj])).1,(u y (by simp[lg.tj])).1,D]
 |vQ x=>simp only[lg.qi,(u x (by simp[lg.tj])).1]
 |vY l n x=>
  obtain⟨A,w⟩:=u x (by simp[lg.tj]);simp only[lg.qi,A];generalize x.ev s=G at w|-
  cases G with
  |gz i v o=>cases o<;>first|rfl|simp only[w.1.cs]
  |_=>rfl
 |Iz n x j k=>
  obtain⟨A,w⟩:=u x (by simp[lg.tj]);simp only[lg.qi,A,(u j (by simp[lg.tj])).1,(u k (by simp[lg.tj])).1];generalize x.ev s=G at w|-;generalize j.ev s=S;generalize k.ev s=T
  cases G with
  |ref i v l=>cases S with
   |d U=>cases U with
    |int _ _=>cases T with
     |d V=>cases V with
      |int _ _=>simp only[w.K2]
      |_=>rfl
     |_=>rfl
    |_=>rfl
   |_=>rfl
  |_=>rfl
 |P9 n x j=>
  obtain⟨A,w⟩:=u x (by simp[lg.tj]);simp only[lg.qi,A,(u j (by simp[lg.tj])).1,(Wi (B rfl) 0 0).2,λi v=>(Wi (B rfl) i v).1]
 |Ot n x lo I mx=>
  obtain⟨A,w⟩:=u x (by simp[lg.tj]);have J:Wx s' lo=Wx s lo:=qU λo h=>u o (by simp only[lg.tj,fa,jz];exact .inr (.inl (.inl h)));have e2:∀n,Sk s' n I=Sk s n I:=cD λo h=>u o (by simp only[lg.tj,fa,jz];exact .inr (.inl (.inr h)));have N:∀n,Sk s' n mx=Sk s n mx:=cD λo h=>u o (by simp only[lg.tj,fa,jz];exact .inr (.inr h));simp only[lg.qi,A];generalize x.ev s=G at w|-
  cases G with
  |ref i v l=>simp only[w.K2,mJ,J,e2,N]
  |win i v m o l=>simp only[w.K2,mJ,J,e2,N]
  |_=>rfl
 |trim x=>
  obtain⟨A,w⟩:=u x (by simp[lg.tj]);simp only[lg.qi,A,(Wi (B rfl) 0 0).2,λi v=>(Wi (B rfl) i v).1]
 |clr z x=>
  obtain⟨A,w⟩:=u x (by simp[lg.tj]);simp only[lg.qi,A,(Wi (B rfl) 0 0).2,λi v=>(Wi (B rfl) i v).1]
 |slice n x lo I=>
  obtain⟨A,w⟩:=u x (by simp[lg.tj]);have J:Wx s' lo=Wx s lo:=qU λo h=>u o (by simp only[lg.tj,fa,jz];exact .inr (.inl h));have e2:∀n,Sk s' n I=Sk s n I:=cD λo h=>u o (by simp only[lg.tj,fa,jz];exact .inr (.inr h));simp only[lg.qi,A,J,e2]
 |Ks=>simp only[lg.qi,D]
 |lookup O z x i ok=>obtain⟨A,w⟩:=u x (by simp[lg.tj]);simp only[lg.qi,A,FG w,(u i (by simp[lg.tj])).1]
 |cK O x k v=>
  obtain⟨A,w⟩:=u x (by simp[lg.tj]);obtain⟨E,F⟩:=u v (by simp[lg.tj]);simp only[lg.qi,A,(u k (by simp[lg.tj])).1,E,TM F,RR (B rfl)]
 |Oj f j9=>
  match j9,u with
  |[],u=>rfl
  |[.t a],u=>have A:s'.tmp a=s.tmp a:=(u (.t a) (by simp[lg.tj])).1;simp only[lg.qi,A]
  |[.t a,.t b],u=>
   have A:s'.tmp a=s.tmp a:=(u (.t a) (by simp[lg.tj])).1;have w:s'.tmp b=s.tmp b:=(u (.t b) (by simp[lg.tj])).1;simp only[lg.qi,A,w]
  |[.c x],u=>rfl
  |[.c x,y],u=>rfl
  |[.t a,.c y],u=>rfl
  |x::y::z::l,u=>cases x<;>cases y<;>rfl
 |ext x i=>simp only[lg.qi,(u x (by simp[lg.tj])).1]
 |Fm m x y=>simp only[lg.qi,(u x (by simp[lg.tj])).1,(u y (by simp[lg.tj])).1]
 |call f args=>rfl
 |zq f args=>rfl
 |Aq f args=>rfl
 |Xm f args=>rfl
 |Od f args=>rfl
 |ua f args=>rfl
 |Q3 f args=>rfl
 |kX l n g x i=>simp only[lg.qi,(u x (by simp[lg.tj])).1,(u i (by simp[lg.tj])).1]
 |slice3 n x j k=>
  obtain⟨A,w⟩:=u x (by simp[lg.tj]);simp only[lg.qi,A,(u j (by simp[lg.tj])).1,(u k (by simp[lg.tj])).1,FJ w]
 |zr n=>simp only[lg.qi,D]
 |init g n x=>
  obtain⟨A,w⟩:=u x (by simp[lg.tj]);have E:s'.tmp g=s.tmp g:=(u (.t g) (by simp[lg.tj])).1;obtain⟨F,Q⟩:=R g n x rfl;have e:∀cs,(x.ev s).cells s=aa cs->cs.all (C.one s')=cs.all (C.one s):=λcs L=>aZ λc M=>yH (Yt w L c M);simp only[lg.qi,A,E,K,F,Q,Q1 w];generalize(x.ev s).cells s=q at e|-
  cases s.tmp g with
  |gz id ba off=>
   cases off with
   |zero=>
    cases s.di (s.base+g)with
    |none=>rfl
    |some b=>
     cases b with
     |Tj m=>
      cases q with
      |none=>rfl
      |some cs=>simp only[e cs rfl]
     |_=>rfl
   |succ _=>rfl
  |_=>rfl
end
section
variable{P:Program}{s s':PS}
def my.tw(d:Option Nat):my->Option (Nat×V)
 | .val v=>d.map (·,v)
 | .new v _ _=>d.map (·,v)
 | .set _ _=>d.map (·,.no)
 | .grow v _ _=>d.map (·,v)
 | .gG v _=>d.map (·,v)
 | .bQ _ _=>d.map (·,.no)
 | .init v t _ _=>aa (t,v)
 | .cut v _ _=>d.map (·,v)
 | .Jn .. =>d.map (·,.no)
 | .mem _ v=>d.map (·,v)
def my.bw:my->Option (Nat×Option B)
 | .new _ id b=>aa (id,aa b)
 | .set id b=>aa (id,aa b)
 | .grow _ id b=>aa (id,aa b)
 | .init _ _ id cs=>aa (id,aa (.loc cs))
 | .cut _ id b=>aa (id,aa b)
 |_=>ae
def my.vw:my->Option Nat
 | .new _ id _=>aa id
 | .gG _ id=>aa id
 | .init _ _ id _=>aa id
 | .cut _ id _=>aa id
 |_=>ae
def my.isM:my->Bool
 | .mem .. =>ah
 | .Jn .. =>ah
 |_=>ag
def my.mw:my->Option (Nat×Option (List (D×C)))
 | .gG _ id=>aa (id,aa [])
 | .bQ id es=>aa (id,aa es)
 |_=>ae
def mod{α:Type}(f:Nat->α):Option (Nat×α)->Nat->α
 |none=>f
 |some (i,a)=>lu f i a
def inc(f:Nat->Nat):Option Nat->Nat->Nat
 |none=>f
 |some i=>lu f i (f i+1)
theorem W4(d:Option Nat)(s:PS)(e:my)(a:e.isM=ag):e.app d s=⟨mod s.tmp (e.tw d),mod s.di e.bw,inc s.ba e.vw,mod s.mp e.mw,s.base,s.ctx⟩:=by
 cases e<;>cases d<;>first|rfl|cases a
theorem a0k(d:Option Nat)(s:PS)(e:my):(e.app d s).tmp=mod s.tmp (e.tw d):=by
 cases e<;>cases d<;>rfl
theorem T6(d:Option Nat)(s:PS)(e:my):(e.app d s).base=s.base:=by
 cases e<;>cases d<;>rfl
theorem aY(d:Option Nat)(s:PS)(e:my):(e.app d s).ctx=s.ctx:=by
 cases e<;>cases d<;>rfl
theorem Hh(ids:List Nat):∀(s:PS),(s.vz ids).base=s.base/\(s.vz ids).ctx=s.ctx:=by
 induction ids with
 |nil=>intro s;exact⟨rfl,rfl⟩
 |cons i r a=>intro s;rw[PS.N4];exact a _
theorem kC{α:Type}(f:Nat->α){x y:Option (Nat×α)}(h:∀i a j b,x=aa (i,a)->y=aa (j,b)->i≠j):mod (mod f x) y=mod (mod f y) x:=by
 cases x with
 |none=>rfl
 |some p=>
  cases y with
  |none=>rfl
  |some q=>
   obtain⟨i,a⟩:=p;obtain⟨j,b⟩:=q;have c:=h i a j b rfl rfl
   funext k
   simp only[mod,ar]
   split<;>split<;>first|rfl|(subst_vars;exact absurd rfl c)
theorem SG(f:Nat->Nat){x y:Option Nat}(h:∀i j,x=aa i->y=aa j->i≠j):inc (inc f x) y=inc (inc f y) x:=by
 cases x with
 |none=>rfl
 |some i=>
  cases y with
  |none=>rfl
  |some j=>
   have a:=h i j rfl rfl
   funext k
   simp only[inc,ar]
   split<;>split<;>subst_vars<;>first|rfl|exact absurd rfl a|simp_all
theorem BL{d1 d2:Option Nat}{c e2:my}(g:∀i a j b,c.tw d1=aa (i,a)->e2.tw d2=aa (j,b)->i≠j)(hb:∀i a j b,c.bw=aa (i,a)->e2.bw=aa (j,b)->i≠j)
  (h:∀i j,c.vw=aa i->e2.vw=aa j->i≠j)(f:∀i a j b,c.mw=aa (i,a)->e2.mw=aa (j,b)->i≠j)(d:c.isM=ag)(e:e2.isM=ag):e2.app d2 (c.app d1 s)=c.app d1 (e2.app d2 s):=by
 rw[W4 _ _ _ d,W4 _ _ _ e,W4 _ _ _ e,W4 _ _ _ d];simp only[kC s.tmp g,kC s.di hb,SG s.ba h,kC s.mp f]
theorem XS(ids:List Nat):∀(s:PS) (d:Option Nat) (v:V),(s.put d v).vz ids=(s.vz ids).put d v:=by
 induction ids with
 |nil=>intro s d v;rfl
 |cons i r a=>intro s d v;rw[PS.N4,PS.N4,<-a];rfl
theorem iO(ids:List Nat):∀(s:PS),(s.vz ids).tmp=s.tmp:=by
 induction ids with
 |nil=>intro s;rfl
 |cons i r a=>intro s;rw[PS.N4,a];rfl
theorem QQ(ids:List Nat):∀(s:PS) (i:Nat),(i∈ids\/(s.di i=ae/\s.mp i=ae))->(s.vz ids).di i=ae/\(s.vz ids).mp i=none:=by
 induction ids with
 |nil=>
  intro s i h;rcases h with h|h
  ·cases h
  exact h
 |cons j r c=>
  intro s i h;rw[PS.N4];apply c;by_cases e:i=j
  ·subst e;exact .inr ⟨de _ _ _,de _ _ _⟩
  rcases h with h|⟨a,b⟩
  ·exact .inl ((fa.1 h).resolve_left e)
  exact .inr ⟨(ie _ _ _ _ e).trans a,(ie _ _ _ _ e).trans b⟩
theorem HI(ids:List Nat):∀(s:PS) (i:Nat),((s.vz ids).di i=ae\/(s.vz ids).di i=s.di i)/\((s.vz ids).mp i=ae\/(s.vz ids).mp i=s.mp i):=by
 induction ids with
 |nil=>intro s i;exact⟨.inr rfl,.inr rfl⟩
 |cons j r d=>
  intro s i;rw[PS.N4];obtain⟨a,b⟩:=d (s.Jg j) i;by_cases e:i=j
  ·subst e;have c:(s.Jg i).di i=none:=de _ _ _;have e2:(s.Jg i).mp i=none:=de _ _ _;rw[c]at a;rw[e2]at b;exact⟨.inl (a.elim id id),.inl (b.elim id id)⟩
  have c:(s.Jg j).di i=s.di i:=ie _ _ _ _ e;have e2:(s.Jg j).mp i=s.mp i:=ie _ _ _ _ e;rw[c]at a;rw[e2]at b;exact⟨a,b⟩
def wI(P:Program)(f:Nat)(args:List V)(j9:List D)(own:Bool)(s:PS)(r:D):Prop:=
 ∃ds,Ln s args=aa ds/\IY P s.ctx f (ds++j9) r/\(r.flat=ah\/(own=ag/\args.all V.isD=ah))
def Spec(P:Program)(o:RI)(s:PS)(ids:List Nat)(e:my):Prop:=
 (∃f args m' r,o.op= .Aq f args/\ids=[]/\e= .mem m' r/\sl P f s.mem (args.map (·.ev s)) m' r)\/
 (∃f args g j9 m' r,o.op= .Od f args/\f.ev s= .d (.qb g j9)/\ids=[]/\e= .mem m' r/\sl P g s.mem (args.map (·.ev s)++j9.map .d) m' r)\/
 (∃f args r,o.op= .Xm f args/\ids=[]/\e= .val (.d r)/\OG P f s (args.map (·.ev s)) r)
def P7(P:Program)(o:RI)(s:PS)(ids:List Nat)(e:my):Prop:=
 (wanted o s=aa ag/\ids=[]/\e= .val (.d (.Bb [])))\/(wanted o s=aa ah/\
  ((∃f args r,o.op= .call f args/\ids=[]/\e= .val (.d r)/\wI P f (args.map (·.ev s)) [] ag s r)\/
   (∃f args g j9 r,o.op= .zq f args/\snap s (f.ev s)=aa (.qb g j9)/\ids=[]/\e= .val (.d r)/\wI P g (args.map (·.ev s)) j9 (!(f.ev s).isD) s r)\/
   o.op.qi (s.base+o.dst.getD 0) s=aa (ids,e)\/Spec P o s ids e))
def Stp(P:Program)(o:RI)(s a:PS):Prop:=∃ids e,P7 P o s ids e/\a=e.app o.dst (s.vz ids)
def BQ(P:Program):List RI->PS->PS->Prop
 |[],s,s'=>s=s'
 |o::r,s,s'=>∃a,Stp P o s a/\BQ P r a s'
theorem LA{o:RI}{K:PS->Prop}(b:o.isR=ag)(j:wanted o s=aa ah)(h:Ig P o s K):∃ids e,P7 P o s ids e/\K (e.app o.dst (s.vz ids)):=by
 unfold Ig at h;split at h
 ·rename_i a;unfold RI.isR at b;rw[a]at b;cases b
 ·rename_i f args a;unfold RI.isR at b;rw[a]at b;cases b
 ·rename_i f args a;unfold RI.isR at b;rw[a]at b;cases b
 ·rename_i f args a;obtain⟨m',r,c,i⟩:=h;exact⟨[],.mem m' r,.inr ⟨j,.inr (.inr (.inr (.inl ⟨f,args,m',r,a,rfl,rfl,c⟩)))⟩,i⟩
 ·rename_i f args a;obtain⟨r,c,i⟩:=h;exact⟨[],.val (.d r),.inr ⟨j,.inr (.inr (.inr (.inr (.inr ⟨f,args,r,a,rfl,rfl,c⟩))))⟩,i⟩
 ·rename_i f args a;split at h
  ·rename_i g j9 hs;obtain⟨m',r,c,i⟩:=h;exact⟨[],.mem m' r,.inr ⟨j,.inr (.inr (.inr (.inr (.inl ⟨f,args,g,j9,m',r,a,hs,rfl,rfl,c⟩))))⟩,i⟩
  exact h.elim
 ·rename_i f args a;obtain⟨ds,r,c,i,k,l⟩:=h;exact⟨[],.val (.d r),.inr ⟨j,.inl ⟨f,args,r,a,rfl,rfl,ds,c,i,k⟩⟩,l⟩
 ·rename_i f args a;split at h
  ·rename_i g j9 hs;obtain⟨ds,r,c,i,k,l⟩:=h;exact⟨[],.val (.d r),.inr ⟨j,.inr (.inl ⟨f,args,g,j9,r,a,hs,rfl,rfl,ds,c,i,k⟩)⟩,l⟩
  exact h.elim
 split at h
 ·rename_i ids e m;exact⟨ids,e,.inr ⟨j,.inr (.inr (.inl m))⟩,h⟩
 exact h.elim
theorem qS{o:RI}{ids:List Nat}{e:my}(j:wanted o s=aa ah)(h:P7 P o s ids e):Ig P o s (· =e.app o.dst (s.vz ids)):=by
 rcases h with ⟨h,_⟩|⟨_,⟨f,args,r,a,rfl,rfl,ds,c,d,i⟩|⟨f,args,g,j9,r,a,hs,rfl,rfl,ds,c,d,i⟩|b|⟨f,args,m',r,a,rfl,rfl,c⟩|⟨f,args,g,j9,m',r,a,hs,rfl,rfl,c⟩|⟨f,args,r,a,rfl,rfl,c⟩⟩
 ·rw[j]at h;cases h
 ·unfold Ig;rw[a];exact⟨ds,r,c,d,i,rfl⟩
 ·unfold Ig;rw[a];simp only[hs];exact⟨ds,r,c,d,i,rfl⟩
 ·unfold Ig;split
  ·rename_i a;rw[a]at b;cases b
  ·rename_i a;rw[a]at b;cases b
  ·rename_i a;rw[a]at b;cases b
  ·rename_i a;rw[a]at b;cases b
  ·rename_i a;rw[a]at b;cases b
  ·rename_i a;rw[a]at b;cases b
  ·rename_i a;rw[a]at b;cases b
  ·rename_i a;rw[a]at b;cases b
  simp only[b]
 ·unfold Ig;rw[a];exact⟨m',r,c,rfl⟩
 ·unfold Ig;rw[a];simp only[hs];exact⟨m',r,c,rfl⟩
 unfold Ig;rw[a];exact⟨r,c,rfl⟩
theorem CX:∀{l:List RI} {s:PS} {K:PS->Prop},(∀o∈l,o.isR=ag)->mc P l s K->∃s',BQ P l s s'/\K s':=by
 intro l
 induction l with
 |nil=>intro s K _ h;exact⟨s,rfl,h⟩
 |cons o r g=>
  intro s K a h;rw[Cb]at h;split at h
  ·rename_i f;obtain⟨ids,e,i,j⟩:=LA (a o (by simp)) f h;obtain⟨s',b,c⟩:=g (λx hx=>a x (by simp[hx])) j;exact⟨s',⟨_,⟨ids,e,i,rfl⟩,b⟩,c⟩
  ·rename_i f;obtain⟨s',b,c⟩:=g (λx hx=>a x (by simp[hx])) h;exact⟨s',⟨_,⟨[],.val (.d (.Bb [])),.inl ⟨f,rfl,rfl⟩,rfl⟩,b⟩,c⟩
  exact h.elim
theorem We{o:RI}{ids:List Nat}{e:my}(b:o.op.kind= .pure\/o.op.kind= .read)(h:P7 P o s ids e):ids=[]/\∃v,e= .val v:=by
 rcases h with ⟨_,rfl,rfl⟩|⟨_,⟨f,args,r,c,rfl,rfl,_⟩|⟨f,args,g,j9,r,c,hs,rfl,rfl,_⟩|a|⟨f,args,m',r,c,rfl,rfl,d⟩|⟨f,args,g,j9,m',r,c,hs,rfl,rfl,d⟩|⟨f,args,r,c,rfl,rfl,d⟩⟩
 ·exact⟨rfl,_,rfl⟩
 ·exact⟨rfl,_,rfl⟩
 ·exact⟨rfl,_,rfl⟩
 rotate_left
 ·rw[c]at b;simp[lg.kind]at b
 ·rw[c]at b;simp[lg.kind]at b
 ·exact⟨rfl,_,rfl⟩
 generalize o.op=op at b a;cases op<;>simp only[lg.kind,reduceCtorEq,or_self,or_false,or_true,false_or]at b<;>simp only[lg.qi,ax]at a
 case xz i n sz z ps=>
  cases i with
  |false=>simp at b
  |true=>
   repeat' split at a
   all_goals first|(cases a;done)|(obtain⟨rfl,rfl⟩:=uj a;exact⟨rfl,_,rfl⟩)|skip
   all_goals simp_all
 all_goals(repeat' split at a)
 all_goals first
  |(cases a;done)
  |(obtain⟨rfl,rfl⟩:=uj a;exact⟨rfl,_,rfl⟩)
  |(obtain⟨_,_,a⟩:=a;obtain⟨rfl,rfl⟩:=uj (congrArg aa a);exact⟨rfl,_,rfl⟩)
  |(simp only[ax]at a;obtain⟨_,_,a⟩:=a;obtain⟨rfl,rfl⟩:=uj (congrArg aa a);exact⟨rfl,_,rfl⟩)
def my.Mt(i:Nat):my->Prop
 | .val _=>True
 | .new _ id _=>id=i
 | .gG _ id=>id=i
 | .init _ _ id _=>id=i
 |_=>False
theorem LR{o:RI}{ids:List Nat}{e:my}(b:o.op.kind= .alloc)(h:P7 P o s ids e):ids=[]/\∃i,e.Mt i/\((∃g n x,o.op= .init g n x/\i=s.base+g/\∀v t id cs,e= .init v t id cs->t=g)\/((∀g n x,o.op≠ .init g n x)/\i=s.base+o.dst.getD 0)):=by
 rcases h with ⟨_,rfl,rfl⟩|⟨_,⟨f,args,r,c,rfl,rfl,_⟩|⟨f,args,g,j9,r,c,hs,rfl,rfl,_⟩|a|⟨f,args,m',r,c,rfl,rfl,k⟩|⟨f,args,g,j9,m',r,c,hs,rfl,rfl,k⟩|⟨f,args,r,c,rfl,rfl,k⟩⟩
 ·refine⟨rfl,?_⟩;by_cases d:∃g n x,o.op= .init g n x
  ·obtain⟨g,n,x,d⟩:=d;exact⟨s.base+g,trivial,.inl ⟨g,n,x,d,rfl,by simp⟩⟩
  exact⟨_,trivial,.inr ⟨λg n x j=>d ⟨g,n,x,j⟩,rfl⟩⟩
 ·rw[c]at b;cases b
 ·rw[c]at b;cases b
 rotate_left
 ·rw[c]at b;cases b
 ·rw[c]at b;cases b
 ·rw[c]at b;cases b
 generalize o.op=op at b a;cases op<;>simp only[lg.kind,reduceCtorEq]at b<;>simp only[lg.qi]at a
 case alloc z=>simp only[av,db]at a;obtain⟨rfl,rfl⟩:=a;exact⟨rfl,_,rfl,.inr ⟨by simp,rfl⟩⟩
 case box n x=>
  repeat' split at a
  all_goals first|(cases a;done)|(simp only[av,db]at a;obtain⟨rfl,rfl⟩:=a;exact⟨rfl,_,rfl,.inr ⟨by simp,rfl⟩⟩)
 case Ks=>simp only[av,db]at a;obtain⟨rfl,rfl⟩:=a;exact⟨rfl,_,rfl,.inr ⟨by simp,rfl⟩⟩
 case zr n=>simp only[av,db]at a;obtain⟨rfl,rfl⟩:=a;exact⟨rfl,_,rfl,.inr ⟨by simp,rfl⟩⟩
 case init g n x=>
  repeat' split at a
  all_goals first|(cases a;done)|(simp only[av,db]at a;obtain⟨rfl,rfl⟩:=a;exact⟨rfl,_,rfl,.inl ⟨g,n,x,rfl,rfl,λ_ _ _ _ j=>by cases j;rfl⟩⟩)
 case xz l n sz z ps=>cases l<;>simp at b
end
section
variable{P:Program}{s s' s1 s2:PS}
def CWf(s:PS):C->Prop
 | .d _=>True
 | .ref i ba _=>ba<=s.ba i
 | .o8 i ba=>ba<=s.ba i
 | .ptr i ba _=>ba<=s.ba i
def VWf(s:PS):V->Prop
 | .d _=>True
 | .ref i ba _=>ba<=s.ba i
 | .o8 i ba=>ba<=s.ba i
 | .gz i ba _=>ba<=s.ba i
 | .Iy i ba _ _ _=>ba<=s.ba i
 | .qb _ ids=>∀p∈ids,p.2<=s.ba p.1
 | .agg cs=>∀c∈cs,CWf s c
 | .Bb cs=>∀c∈cs,CWf s c
 | .Lm i ba _ _=>ba<=s.ba i
 | .Iz i ba _ _=>ba<=s.ba i
 | .win i ba _ _ _=>ba<=s.ba i
 | .no=>True
structure Wf(s:PS):Prop where
 tmp:∀t,VWf s (s.tmp t)
 loc:∀id cs,s.di id=aa (.loc cs)->∀c∈cs,CWf s c
 ru:∀id sz dv,s.di id=aa (.ru sz dv)->∀e∈dv,∀c∈e,CWf s c
 mp:∀id es,s.mp id=aa es->∀e∈es,CWf s e.2
def Lh(s:PS)(d:Nat):Prop:=∀ba,s.dv d ba=ae/\s.cs d ba=ae/\s.ents d ba=ae/\s.elc d ba=ae/\s.K2 d ba=ae
theorem UB(b:∀i ba,s'.elc i ba=s.elc i ba/\s'.ents i ba=s.ents i ba):∀(n:Nat) (c:C),deep s' n c=deep s n c:=by
 intro n
 induction n with
 |zero=>intro c;cases c<;>rfl
 |succ n e=>
  intro c;have a:deep s' n=deep s n:=funext e
  cases c with
  |d x=>rfl
  |ref i ba l=>simp only[deep,(b i ba).1,a]
  |o8 i ba=>simp only[deep,(b i ba).2,a]
  |ptr _ _ _=>rfl
theorem kF(hb:s'.di=s.di)(a:s'.ba=s.ba)(e:s'.mp=s.mp)(i ba:Nat):B5 s s' i ba:=by
 have b:∀i ba,s'.elc i ba=s.elc i ba:=λi ba=>by unfold PS.elc;rw[hb,a]
 have d:∀i ba,s'.ents i ba=s.ents i ba:=λi ba=>by unfold PS.ents;rw[e,a]
 exact⟨by unfold PS.dv;rw[hb,a],by unfold PS.cs;rw[hb,a],d i ba,b i ba,by unfold PS.K2;rw[hb,a],λn c _=>UB (λi v=>⟨b i v,d i v⟩) n c⟩
theorem Ir(h:∀i ba,B5 s s' i ba)(c:C):J1 s s' c:=by cases c<;>first|trivial|exact h _ _
theorem Z6(h:∀i ba,B5 s s' i ba)(v:V):K0 s s' v:=by
 cases v with
 |agg cs=>exact λc _=>Ir h c
 |Bb cs=>exact λc _=>Ir h c
 |qb f ids=>exact λp _=>⟨h _ _,λcs _ c _=>Ir h c⟩
 |gz i v o=>exact⟨h _ _,λcs _ c _=>Ir h c⟩
 |Lm i v l n=>exact⟨h _ _,λcs _ c _=>Ir h c⟩
 |d x=>trivial
 |no=>trivial
 |_=>exact h _ _
theorem N2(h:∀i ba,ba<=s.ba i->B5 s s' i ba){c:C}(a:CWf s c):J1 s s' c:=by cases c<;>first|trivial|exact h _ _ a
theorem CG(h:∀i ba,ba<=s.ba i->B5 s s' i ba)(hb:∀id cs,s.di id=aa (.loc cs)->∀c∈cs,CWf s c){v:V}(b:VWf s v):K0 s s' v:=by
 cases v with
 |agg cs=>exact λc a=>N2 h (b c a)
 |Bb cs=>exact λc a=>N2 h (b c a)
 |qb f ids=>exact λp g=>⟨h _ _ (b p g),λcs e c a=>N2 h (hb _ _ (xl e).2 c a)⟩
 |gz i v o=>exact⟨h _ _ b,λcs e c a=>N2 h (hb _ _ (xl e).2 c a)⟩
 |Lm i v l n=>exact⟨h i v b,λcs e c a=>N2 h (hb _ _ (xl e).2 c a)⟩
 |Iz i v m j=>exact h i v b
 |win i v m o l=>exact h i v b
 |d x=>trivial
 |no=>trivial
 |_=>exact h _ _ b
theorem NF{i ba sz:Nat}{dv:List (List C)}(wf:Wf s)(h:s.elc i ba=aa (sz,dv)):∀e∈dv,∀c∈e,CWf s c:=by
 obtain⟨_,b,hb,_,f⟩:=Lb h;rcases f with ⟨ds,rfl,rfl⟩|rfl
 ·intro e d c a;obtain⟨g,_,rfl⟩:=j6.1 d;obtain⟨x,_,rfl⟩:=j6.1 a;trivial
 exact wf.ru i sz dv hb
theorem NL(wf:Wf s)(h:∀i ba,ba<=s.ba i->s'.elc i ba=s.elc i ba/\s'.ents i ba=s.ents i ba):∀(n:Nat) (c:C),CWf s c->deep s' n c=deep s n c:=by
 intro n
 induction n with
 |zero=>intro c _;cases c<;>rfl
 |succ n j=>
  intro c g
  cases c with
  |d x=>rfl
  |ref i ba l=>
   simp only[deep,(h i ba g).1]
   cases f:s.elc i ba with
   |none=>rfl
   |some p=>
    obtain⟨sz,dv⟩:=p
    have e:dv.map (λe=>Ru (e.map (deep s' n)))=dv.map λe=>Ru (e.map (deep s n)):=
     Nj λe a=>by rw[Nj λc b=>j c (NF wf f e a c b)]
    simp only[e]
  |o8 i ba=>
   simp only[deep,(h i ba g).2]
   cases f:s.ents i ba with
   |none=>rfl
   |some es=>
    have e:es.map (λe=>(deep s' n e.2).map λx=>(e.1,x))=es.map λe=>(deep s n e.2).map λx=>(e.1,x):=
     Nj λe a=>by rw[j e.2 (wf.mp i es (Gj f).2 e a)]
    simp only[e]
  |ptr _ _ _=>rfl
theorem RV(wf:Wf s)(a:∀i ba,ba<=s.ba i->s'.dv i ba=s.dv i ba/\s'.cs i ba=s.cs i ba/\s'.ents i ba=s.ents i ba/\s'.elc i ba=s.elc i ba/\s'.K2 i ba=s.K2 i ba):
  ∀i ba,ba<=s.ba i->B5 s s' i ba:=by
 intro i ba b;obtain⟨d,e,f,g,j⟩:=a i ba b;refine⟨d,e,f,g,j,λn c k=>NL wf (λi ba h=>⟨(a i ba h).2.2.2.1,(a i ba h).2.2.1⟩) n c ?_⟩;rcases k with ⟨l,rfl⟩|rfl<;>exact b
theorem DU(wf:Wf s){e:my}{i:Nat}(a:e.Mt i)(u:Lh s i)(d:Option Nat):∀j ba,ba<=s.ba j->B5 s (e.app d s) j ba:=by
 rw[W4 _ _ _ (by cases e<;>first|rfl|exact a.elim)]
 have new:∀{c:Nat->Option B} {f:Nat->Option (List (D×C))} {tmp':Nat->V} {id:Nat},id=i->(∀k,k≠id->c k=s.di k)->(∀k,k≠id->f k=s.mp k)->
   ∀j ba,ba<=s.ba j->B5 s ⟨tmp',c,lu s.ba id (s.ba id+1),f,s.base,s.ctx⟩ j ba:=by
  intro c f tmp' id m hb w;subst m;refine RV wf λj ba l=>?_;by_cases e:j=id
  ·subst e;obtain⟨n,o,p,q,r⟩:=u ba
   have h:¬(lu s.ba j (s.ba j+1) j=ba):=by rw[de];lia
   refine⟨?_,?_,?_,?_,?_⟩
   ·rw[n];unfold PS.dv;exact aq h
   ·rw[o];unfold PS.cs;exact aq h
   ·rw[p];unfold PS.ents;exact aq h
   ·rw[q];unfold PS.elc;exact aq h
   rw[r];unfold PS.K2;exact aq h
  refine⟨?_,?_,?_,?_,?_⟩<;>simp only[PS.dv,PS.cs,PS.ents,PS.elc,PS.K2,ie _ _ _ _ e,hb j e,w j e]
 intro j ba l
 cases e with
 |val v=>exact kF (s:=s) (s':=⟨mod s.tmp ((my.val v).tw d),s.di,s.ba,s.mp,s.base,s.ctx⟩) rfl rfl rfl j ba
 |set _ _=>exact a.elim
 |grow _ _ _=>exact a.elim
 |bQ _ _=>exact a.elim
 |cut _ _ _=>exact a.elim
 |Jn _ _ _ _=>exact a.elim
 |mem _ _=>exact a.elim
 |new v id b=>exact new a (λk g=>ie _ _ _ _ g) (λ_ _=>rfl) j ba l
 |gG v id=>exact new a (λ_ _=>rfl) (λk g=>ie _ _ _ _ g) j ba l
 |init v t id cs=>exact new a (λk g=>ie _ _ _ _ g) (λ_ _=>rfl) j ba l
theorem Y8{o:RI}{x:ov}{t:Nat}(hx:x∈o.op.tj)(a:x= .t t):t∈o.looks:=by
 subst a;unfold RI.looks;exact sE _ (K3.2 ⟨_,hx,by simp[ov.ts]⟩)
theorem QV{o:RI}(h:∀t∈o.looks,s'.tmp t=s.tmp t/\K0 s s' (s.tmp t)):∀x∈o.op.tj,bF s s' x:=by
 intro x hx
 cases x with
 |c y=>exact⟨rfl,trivial⟩
 |t n=>exact h n (Y8 hx rfl)
theorem Uu{o:RI}(h:∀t∈o.looks,s'.tmp t=s.tmp t):wanted o s'=wanted o s:=by
 unfold wanted
 cases a:o.guard with
 |none=>rfl
 |some p=>
  obtain⟨t,b⟩:=p
  have:t∈o.looks:=by unfold RI.looks;rw[a];simp
  simp only[h t this]
theorem uF{l:List ov}(h:∀x∈l,bF s s' x):l.map (·.ev s')=l.map (·.ev s):=Nj λx hx=>(h x hx).1
theorem fQ{f:Nat}{l:List ov}{j9:List D}{own:Bool}{r:D}(a:s'.ctx=s.ctx)(h:∀x∈l,bF s s' x)(e:wI P f (l.map (·.ev s)) j9 own s r):wI P f (l.map (·.ev s')) j9 own s' r:=by
 obtain⟨ds,b,c,d⟩:=e;refine⟨ds,by rw[CC h];exact b,by rw[a];exact c,?_⟩;rw[uF h];exact d
theorem K0.trans{s1 s2 g:PS}{v:V}(h:K0 s1 s2 v)(k:K0 s2 g v):K0 s1 g v:=by
 have lt:∀{i ba},B5 s1 s2 i ba->B5 s2 g i ba->B5 s1 g i ba:=λa b=>⟨b.dv.trans a.dv,b.cs.trans a.cs,b.ents.trans a.ents,b.elc.trans a.elc,b.K2.trans a.K2,λn c e=>(b.dp n c e).trans (a.dp n c e)⟩
 have m:∀{c},J1 s1 s2 c->J1 s2 g c->J1 s1 g c:=by
  intro c a b
  cases c with
  |d x=>trivial
  |_=>exact lt a b
 have j:∀{i ba},T8 s1 s2 i ba->T8 s2 g i ba->T8 s1 g i ba:=λa b=>⟨lt a.1 b.1,λcs q c e=>m (a.2 cs q c e) (b.2 cs (a.1.cs.trans q) c e)⟩
 cases v with
 |agg cs=>exact λc e=>m (h c e) (k c e)
 |Bb cs=>exact λc e=>m (h c e) (k c e)
 |qb f ids=>exact λp r=>j (h p r) (k p r)
 |gz i v o=>exact j h k
 |Lm i v l n=>exact j h k
 |d x=>trivial
 |no=>trivial
 |_=>exact lt h k
theorem Zi{o:RI}(m:s'.ctx=s.ctx)(h:∀t∈o.looks,s'.tmp t=s.tmp t/\K0 s s' (s.tmp t))(k:s'.base=s.base)(v:o.op.kind= .write->s'.mem=s.mem)(C:s'.ba (s.base+o.dst.getD 0)=s.ba (s.base+o.dst.getD 0))(A:∀g n x,o.op= .init g n x->s'.di (s.base+g)=s.di (s.base+g)/\s'.ba (s.base+g)=s.ba (s.base+g))
  {ids:List Nat}{e:my}(p:P7 P o s ids e):P7 P o s' ids e:=by
 have hs:=QV h;have D:=Uu λt B=>(h t B).1;unfold P7 at p|-;rw[D];rcases p with p|⟨j,⟨f,args,r,a,b,c,d⟩|⟨f,args,g,j9,r,a,b,c,d,u⟩|z|⟨f,args,m',r,a,b,c,d⟩|⟨f,args,g,j9,m',r,a,b,c,d,u⟩|⟨f,args,r,a,b,c,d⟩⟩
 ·exact .inl p
 ·rw[a]at hs;exact .inr ⟨j,.inl ⟨f,args,r,a,b,c,fQ m hs d⟩⟩
 ·rw[a]at hs;obtain⟨w,E⟩:=hs f (by simp[lg.tj]);refine .inr ⟨j,.inr (.inl ⟨f,args,g,j9,r,a,?_,c,d,?_⟩)⟩
  ·rw[w,qA E];exact b
  rw[w];exact fQ m (λx hx=>hs x (by simp[lg.tj,hx])) u
 ·exact .inr ⟨j,.inr (.inr (.inl (by rw[k,TT v hs k C A];exact z)))⟩
 ·have i:=v (by rw[a];rfl);rw[a]at hs;exact .inr ⟨j,.inr (.inr (.inr (.inl ⟨f,args,m',r,a,b,c,by rw[i,uF (l:=args) hs];exact d⟩)))⟩
 ·have i:=v (by rw[a];rfl);rw[a]at hs;exact .inr ⟨j,.inr (.inr (.inr (.inr (.inl ⟨f,args,g,j9,m',r,a,by rw[(hs f (by simp[lg.tj])).1];exact b,c,d,by rw[i,uF λx hx=>hs x (by simp[lg.tj,hx])];exact u⟩))))⟩
 rw[a]at hs;refine .inr ⟨j,.inr (.inr (.inr (.inr (.inr ⟨f,args,r,a,b,c,?_⟩))))⟩;rw[uF (l:=args) hs];intro s2 q;refine d s2 λx hx=>?_;obtain⟨y,hy,rfl⟩:=j6.1 hx;exact(hs y hy).2.trans (q _ hx)
theorem TR{d:Nat}{r:lg}(f:r.kind= .pure)(e:∀x∈r.tj,x.ev s'=x.ev s):r.qi d s'=r.qi d s:=by
 cases r<;>simp only[lg.kind,reduceCtorEq]at f<;>simp only[lg.tj,fa,kz,or_false,forall_eq_or_imp,forall_eq]at e
 case kf x=>simp only[lg.qi,e]
 case pick c a b=>simp only[lg.qi,e.1,e.2.1,e.2.2]
 case dB x i=>simp only[lg.qi,e.1,e.2]
 case kX l n g x i=>simp only[lg.qi,e.1,e.2]
 case iE o n g x=>simp only[lg.qi,e]
 case bin op x y=>simp only[lg.qi,e.1,e.2]
 case eqs ks n x y=>simp only[lg.qi,e.1,e.2]
 case beq n x y=>simp only[lg.qi,e.1,e.2]
 case un op x=>simp only[lg.qi,e]
 case conv k x=>simp only[lg.qi,e]
 case fO x=>simp only[lg.qi,e]
 case xz h n sz z ps=>cases h<;>simp at f
 case ext x i=>simp only[lg.qi,e]
 case Fm m x y=>simp only[lg.qi,e.1,e.2]
theorem yF{o:RI}(a:o.op.kind= .pure)(l:s'.base=s.base)(h:∀t∈o.looks,s'.tmp t=s.tmp t){ids:List Nat}{e:my}(k:P7 P o s ids e):P7 P o s' ids e:=by
 have u:=Uu h;unfold P7 at k|-;rw[u];rcases k with k|⟨m,⟨f,args,r,b,d,i,j⟩|⟨f,args,g,j9,r,b,d,i,j,p⟩|q|⟨f,args,m',r,b,d,i,j⟩|⟨f,args,g,j9,m',r,b,d,i,j,p⟩|⟨f,args,r,b,d,i,j⟩⟩
 ·exact .inl k
 ·rw[b]at a;cases a
 ·rw[b]at a;cases a
 rotate_left
 ·rw[b]at a;cases a
 ·rw[b]at a;cases a
 ·rw[b]at a;cases a
 refine .inr ⟨m,.inr (.inr (.inl ?_))⟩;rw[l,TR a]
 ·exact q
 intro x hx
 cases x with
 |c y=>rfl
 |t n=>exact h n (Y8 hx rfl)
structure IZ(x y:RI):Prop where
 kind:x.op.kind.ok y.op.kind=ah\/x.soft y=ah\/y.soft x=ah
 acw:∀d∈x.makes,d∉y.s8
 aay:∀d∈y.makes,d∉x.s8
 aca:x.isE=ah->y.s8=[]
 a7o:y.isE=ah->x.s8=[]
 a61:∀d∈x.s8,d≠y.dst.getD 0
 a5z:∀d∈y.s8,d≠x.dst.getD 0
 w1:∀d,x.writes=aa d->d∉y.looks/\y.writes≠aa d
 w2:∀d,y.writes=aa d->d∉x.looks/\x.writes≠aa d
 n1:x.writes=ae->x.op.kind≠ .alloc
 n2:y.writes=ae->y.op.kind≠ .alloc
theorem RI.vN{x y:RI}(h:x.vO y=ah):IZ x y:=by
 unfold RI.vO RI.far at h;simp only[dc,dg,ot,adg,decide_eq_false_iff_not,bne_iff_ne,ne_eq,Oi,List.isEmpty_iff]at h;obtain⟨⟨⟨⟨⟨⟨j,k,e⟩,l,f⟩,m⟩,n⟩,a⟩,b⟩:=h;refine⟨j,k,l,λg=>e.resolve_left (by simp[g]),λg=>f.resolve_left (by simp[g]),m,n,λd c=>?_,λd c=>?_,λi=>?_,λi=>?_⟩
 ·rw[c]at a;simpa using a
 ·rw[c]at b;refine⟨by simpa using b,λhx=>?_⟩;rw[hx]at a;simp at a;exact a.2 c
 ·rw[i]at a;simpa using a
 rw[i]at b;simpa using b
end
section
variable{P:Program}{s s' s1 s2:PS}
theorem B5.symm{i ba:Nat}(h:B5 s s' i ba):B5 s' s i ba:=⟨h.dv.symm,h.cs.symm,h.ents.symm,h.elc.symm,h.K2.symm,λn c a=>(h.dp n c a).symm⟩
theorem J1.symm{c:C}(h:J1 s s' c):J1 s' s c:=by cases c<;>first|trivial|exact B5.symm h
theorem T8.symm{i ba:Nat}(h:T8 s s' i ba):T8 s' s i ba:=⟨h.1.symm,λcs a c b=>J1.symm (h.2 cs (h.1.cs.symm.trans a) c b)⟩
theorem K0.symm{v:V}(h:K0 s s' v):K0 s' s v:=by
 cases v with
 |agg cs=>exact λc a=>J1.symm (h c a)
 |Bb cs=>exact λc a=>J1.symm (h c a)
 |qb f ids=>exact λp b=>T8.symm (h p b)
 |gz i v o=>exact T8.symm h
 |Lm i v l n=>exact T8.symm h
 |d x=>trivial
 |no=>trivial
 |_=>exact B5.symm h
def Good(o:RI):Prop:=∀g n x,o.op= .init g n x->o.dst=ae
def nL(b:Nat)(o:RI)(e:my):Prop:=(∀i a,e.tw o.dst=aa (i,a)->o.writes=aa i)/\((∃v,e= .val v)\/∃w,o.writes=aa w/\w∈o.s8/\e.Mt (b+w))
theorem Lv{o:RI}(h:∀g n x,o.op≠ .init g n x):o.writes=o.dst:=by
 unfold RI.writes;split
 ·rename_i g n x a;exact absurd a (h g n x)
 rfl
theorem mM{n a:Nat}{v:V}{ids:List Nat}{e:my}(h:Ud s n a v=aa (ids,e)):ids=[]/\((∃x,e= .val x)\/∃x id b,e= .cut x id b/\¬Lh s id):=by
 cases v with
 |d z=>
  cases z<;>simp only[Ud,reduceCtorEq]at h<;>(split at h)<;>(first|(cases h;exact⟨rfl,.inl ⟨_,rfl⟩⟩)|cases h)
 |ref id ba n0=>
  simp only[Ud]at h;split at h
  ·rename_i sz dv c;split at h
   ·cases h;exact⟨rfl,.inr ⟨_,_,_,rfl,λf=>by rw[(f ba).1]at c;cases c⟩⟩
   cases h
  cases h
 |_=>simp[Ud]at h
theorem vJ{n:Nat}{xs:List C}{v:V}{ids:List Nat}{e:my}(h:Ac s n xs v=aa (ids,e)):∃id b,e= .set id b:=by
 have c:∀{id ba a i off},G5 s n xs id ba a i off=aa (ids,e)->∃id b,e= .set id b:=by
  intro id ba a i off h;unfold G5 at h
  repeat' split at h
  all_goals first|(cases h;done)|(cases h;exact⟨_,_,rfl⟩)
 cases v with
 |gz id ba off=>
  simp only[Ac]at h
  repeat' split at h
  all_goals first|(cases h;done)|(cases h;exact⟨_,_,rfl⟩)
 |Iy id ba a i off=>
  simp only[Ac]at h;split at h
  ·split at h
   ·split at h
    ·cases h;exact⟨_,_,rfl⟩
    cases h
   exact c h
  exact c h
 |_=>cases h
theorem NJ{n:Nat}{x y:V}{ids:List Nat}{e:my}(h:zo s n x y=aa (ids,e)):∃id b a b2,e= .Jn id b a b2/\s.di id≠ae/\(∃b,s.di a=aa b/\b.isVar=ah):=by
 unfold zo at h;split at h
 ·split at h
  ·rename_i c d;split at h
   ·cases h;exact⟨_,_,_,_,rfl,by rw[c];simp,_,(xl d).2,rfl⟩
   cases h
  ·rename_i c d;split at h
   ·cases h;exact⟨_,_,_,_,rfl,by rw[c];simp,_,(xl d).2,rfl⟩
   cases h
  cases h
 cases h
theorem Vy{d sz b:Nat}{x y:V}{ids:List Nat}{e:my}(h:S3 s d sz b x y=aa (ids,e)):ids=[]/\((∃v,e= .val v)\/(∃v b,e= .new v d b)\/∃v id b,e= .grow v id b/\¬Lh s id):=by
 unfold S3 at h;split at h
 ·split at h
  ·split at h
   ·split at h
    ·cases h;exact⟨rfl,.inl ⟨_,rfl⟩⟩
    split at h
    ·cases h;exact⟨rfl,.inr (.inl ⟨_,_,rfl⟩)⟩
    cases h
   ·split at h
    ·rename_i a;split at h
     ·cases h;exact⟨rfl,.inr (.inr ⟨_,_,_,rfl,λc=>by rw[(c _).2.2.2.1]at a;cases a⟩)⟩
     cases h
    cases h
   cases h
  cases h
 cases h
theorem mH{d:Nat}{r:lg}{ids:List Nat}{v:V}{t g:Nat}{cs:List C}(h:r.qi d s=aa (ids,.init v t g cs)):∃n x,r= .init t n x:=by
 cases r<;>simp only[lg.qi,ax]at h
 case init c n x=>
  repeat' split at h
  all_goals first|(cases h;done)|(simp only[av,db,my.init.injEq]at h;obtain⟨_,_,rfl,_,_⟩:=h;exact⟨_,_,rfl⟩)
 case store n a x=>
  split at h
  ·obtain⟨_,_,h⟩:=vJ h;cases h
  obtain⟨_,_,_,_,h,_⟩:=NJ h;cases h
 case app sz b x y=>
  split at h
  ·split at h
   ·split at h
    ·repeat' split at h
     all_goals(cases h)
    ·split at h
     ·split at h<;>cases h
     rcases(Vy h).2 with ⟨_,h⟩|⟨_,_,h⟩|⟨_,_,_,h,_⟩<;>cases h
    ·split at h
     ·split at h<;>cases h
     cases h
    cases h
   cases h
  rcases(Vy h).2 with ⟨_,h⟩|⟨_,_,h⟩|⟨_,_,_,h,_⟩<;>cases h
 case slice3 n x j k=>
  split at h
  ·split at h
   ·rcases(mM h).2 with ⟨_,h⟩|⟨_,_,_,h,_⟩<;>cases h
   cases h
  cases h
 all_goals(repeat' split at h)
 all_goals first
  |(cases h;done)
  |(obtain⟨_,_,h⟩:=h;cases h;done)
  |(simp only[ax]at h;obtain⟨_,_,h⟩:=h;cases h;done)
theorem a14{o:RI}{ids:List Nat}{e:my}(u:Good o)(A:o.op.kind≠ .write)(B:o.writes=ae->o.op.kind≠ .alloc)(q:P7 P o s ids e):ids=[]/\nL s.base o e:=by
 have val:∀v,e= .val v->nL s.base o e:=by
  intro v m;subst m;refine⟨λi a w=>?_,.inl ⟨v,rfl⟩⟩;simp only[my.tw,ax,db]at w;obtain⟨d,c,rfl,_⟩:=w;rw[Lv]
  ·exact c
  intro g n x hx;rw[u g n x hx]at c;cases c
 cases b:o.op.kind with
 |pure=>obtain⟨p,v,k⟩:=We (.inl b) q;exact⟨p,val v k⟩
 |read=>obtain⟨p,v,k⟩:=We (.inr b) q;exact⟨p,val v k⟩
 |write=>exact absurd b A
 |alloc=>
  obtain⟨p,i,k,y⟩:=LR b q;refine⟨p,?_⟩;by_cases m:∃v,e= .val v
  ·obtain⟨v,m⟩:=m;exact val v m
  rcases y with ⟨g,n,x,hx,rfl,r⟩|⟨hx,rfl⟩
  ·have c:=u g n x hx
   have f:o.writes=aa g:=by unfold RI.writes;rw[hx];simp[c]
   refine⟨λj a l=>?_,.inr ⟨g,f,by unfold RI.s8;rw[hx];simp,k⟩⟩
   cases e with
   |init v t id cs=>simp only[my.tw,av,db]at l;rw[f,<-l.1,r v t id cs rfl]
   |val v=>exact absurd ⟨v,rfl⟩ m
   |_=>simp[my.tw,c]at l
  cases c:o.dst with
  |none=>exact absurd b (B (by rw[Lv hx];exact c))
  |some d=>
   have f:o.writes=aa d:=by rw[Lv hx];exact c
   rw[c]at k;simp only[jj]at k;refine⟨λj a l=>?_,.inr ⟨d,f,?_,k⟩⟩
   ·rw[f];rw[c]at l
    cases e with
    |init v t id cs=>
     rcases q with ⟨_,_,h⟩|⟨_,⟨_,_,_,_,_,h,_⟩|⟨_,_,_,_,_,_,_,_,h,_⟩|h|⟨_,_,_,_,_,_,h,_⟩|⟨_,_,_,_,_,_,_,_,_,h,_⟩|⟨_,_,_,_,_,h,_⟩⟩
     ·cases h
     ·cases h
     ·cases h
     ·obtain⟨n,x,h⟩:=mH h;exact absurd h (hx _ n x)
     ·cases h
     ·cases h
     cases h
    |val v=>exact absurd ⟨v,rfl⟩ m
    |_=>simp only[my.tw,jc,av,db]at l;exact congrArg aa l.1
   unfold RI.s8;generalize o.op=op at b hx;cases op<;>simp only[lg.kind,reduceCtorEq]at b<;>simp only[c,JA,Q9]
   case xz C n sz z ps=>cases C<;>simp at b
   case init g n x=>exact absurd rfl (hx g n x)
theorem Sa{e:my}{d:Option Nat}{t:Nat}(h:∀i a,e.tw d=aa (i,a)->i≠t):(e.app d s).tmp t=s.tmp t:=by
 rw[a0k];show mod s.tmp (e.tw d) t=s.tmp t
 cases b:e.tw d with
 |none=>rfl
 |some p=>obtain⟨i,a⟩:=p;exact ie _ _ _ _ (P8 (h i a b))
theorem MB{e:my}{w:Nat}(h:e.Mt w):(∀i a,e.bw=aa (i,a)->i=w)/\(∀i,e.vw=aa i->i=w)/\(∀i a,e.mw=aa (i,a)->i=w):=by
 cases e with
 |val v=>exact⟨by simp[my.bw],by simp[my.vw],by simp[my.mw]⟩
 |new v id b=>refine⟨?_,?_,?_⟩<;>simp only[my.bw,my.vw,my.mw,av,db,reduceCtorEq,false_implies,implies_true]<;>(first|(intro i a c;rw[<-c.1];exact h)|(intro i c;rw[<-c];exact h))
 |gG v id=>refine⟨?_,?_,?_⟩<;>simp only[my.bw,my.vw,my.mw,av,db,reduceCtorEq,false_implies,implies_true]<;>(first|(intro i a c;rw[<-c.1];exact h)|(intro i c;rw[<-c];exact h))
 |init v t id cs=>refine⟨?_,?_,?_⟩<;>simp only[my.bw,my.vw,my.mw,av,db,reduceCtorEq,false_implies,implies_true]<;>(first|(intro i a c;rw[<-c.1];exact h)|(intro i c;rw[<-c];exact h))
 |set _ _=>exact h.elim
 |grow _ _ _=>exact h.elim
 |bQ _ _=>exact h.elim
 |cut _ _ _=>exact h.elim
 |Jn _ _ _ _=>exact h.elim
 |mem _ _=>exact h.elim
theorem cQ{b:Nat}{o:RI}{e:my}(h:nL b o e):(∀i a,e.bw=aa (i,a)->∃w,i=b+w/\o.writes=aa w/\w∈o.s8)/\(∀i,e.vw=aa i->∃w,i=b+w/\o.writes=aa w/\w∈o.s8)/\
  (∀i a,e.mw=aa (i,a)->∃w,i=b+w/\o.writes=aa w/\w∈o.s8)/\e.isM=false:=by
 rcases h.2 with ⟨v,rfl⟩|⟨w,d,f,g⟩
 ·exact⟨by simp[my.bw],by simp[my.vw],by simp[my.mw],rfl⟩
 obtain⟨j,k,l⟩:=MB g
 exact⟨λi a c=>⟨w,j i a c,d,f⟩,λi c=>⟨w,k i c,d,f⟩,λi a c=>⟨w,l i a c,d,f⟩,by cases e<;>first|rfl|exact g.elim⟩
theorem wS(d:Option Nat)(x v:V):K0 s (my.app d s (.val x)) v:=by
 refine Z6 (s':=my.app d s (.val x)) (kF ?_ ?_ ?_) v<;>cases d<;>rfl
theorem kL{o:RI}{e:my}(h:nL s.base o e)(c:∀d∈o.s8,Lh s (s.base+d))(wf:Wf s){v:V}(f:VWf s v):K0 s (e.app o.dst s) v:=by
 rcases h.2 with ⟨g,rfl⟩|⟨w,i,a,b⟩
 ·refine Z6 (s':=my.app o.dst s (.val g)) (kF ?_ ?_ ?_) v<;>cases o.dst<;>rfl
 exact CG (DU wf b (c w a) o.dst) wf.loc f
theorem kN{o z:RI}{e:my}(h:nL s.base o e)(hz:Good z)(u:z.op.kind≠ .write)(H:∀d∈o.s8,Lh s (s.base+d))(wf:Wf s)(D:∀w,o.writes=aa w->w∉z.looks/\z.writes≠aa w)(hs:∀d∈o.s8,d≠z.dst.getD 0){ids:List Nat}{G:my}:
  P7 P z (e.app o.dst s) ids G<->P7 P z s ids G:=by
 obtain⟨L,K,N,J⟩:=cQ h;have m:∀t∈z.looks,(e.app o.dst s).tmp t=s.tmp t:=λt m=>Sa λi a k B=>(D i (h.1 i a k)).1 (B▸m)
 have I:∀j,(∀i,e.vw=aa i->i≠j)->(e.app o.dst s).ba j=s.ba j:=by
  intro j C;rw[W4 _ _ _ J];show inc s.ba e.vw j=s.ba j
  cases F:e.vw with
  |none=>rfl
  |some i=>exact ie _ _ _ _ (P8 (C i F))
 have hb:∀j,(∀i a,e.bw=aa (i,a)->i≠j)->(e.app o.dst s).di j=s.di j:=by
  intro j C;rw[W4 _ _ _ J];show mod s.di e.bw j=s.di j
  cases v:e.bw with
  |none=>rfl
  |some p=>obtain⟨i,a⟩:=p;exact ie _ _ _ _ (P8 (C i a v))
 have b:=T6 o.dst s e
 have f:(e.app o.dst s).ba (s.base+z.dst.getD 0)=s.ba (s.base+z.dst.getD 0):=I _ λi k M=>by
  obtain⟨w,rfl,_,q⟩:=K i k;exact hs w q (by lia)
 have l:∀g n x,z.op= .init g n x->(e.app o.dst s).di (s.base+g)=s.di (s.base+g)/\(e.app o.dst s).ba (s.base+g)=s.ba (s.base+g):=by
  intro g n x hx
  have r:z.writes=aa g:=by unfold RI.writes;rw[hx];simp[hz g n x hx]
  refine⟨hb _ λi a k A=>?_,I _ λi k A=>?_⟩
  ·obtain⟨w,rfl,q,_⟩:=L i a k
   have:w=g:=by lia
   subst this;exact(D w q).2 r
  obtain⟨w,rfl,q,_⟩:=K i k
  have:w=g:=by lia
  subst this;exact(D w q).2 r
 constructor
 ·intro E;refine Zi (s:=e.app o.dst s) (s':=s) (aY _ _ _).symm (λt c=>⟨(m t c).symm,?_⟩) b.symm (λy=>absurd y u) (by rw[b];exact f.symm) (λg n x hx=>by rw[b];exact⟨(l g n x hx).1.symm,(l g n x hx).2.symm⟩) E;rw[m t c];exact(kL h H wf (wf.tmp t)).symm
 intro E;exact Zi (aY _ _ _) (λt c=>⟨m t c,kL h H wf (wf.tmp t)⟩) b (λy=>absurd y u) f l E
theorem zQ{o:RI}{ids:List Nat}{e:my}(f:o.op.kind= .write)(l:P7 P o s ids e):o.writes=o.dst/\∀i a,e.tw o.dst=aa (i,a)->o.writes=aa i:=by
 have hx:∀g n x,o.op≠ .init g n x:=by intro g n x h;rw[h]at f;cases f
 have j:=Lv hx;refine⟨j,λi a b=>?_⟩;rw[j]
 have:∀v t g cs,e≠ .init v t g cs:=by
  intro v t g cs k;subst k;rcases l with ⟨_,_,h⟩|⟨_,⟨_,_,_,_,_,h,_⟩|⟨_,_,_,_,_,_,_,_,h,_⟩|h|⟨_,_,_,_,_,_,h,_⟩|⟨_,_,_,_,_,_,_,_,_,h,_⟩|⟨_,_,_,_,_,h,_⟩⟩
  ·cases h
  ·cases h
  ·cases h
  ·obtain⟨n,x,h⟩:=mH h;exact hx t n x h
  ·cases h
  ·cases h
  cases h
 cases c:o.dst with
 |none=>rw[c]at b;cases e<;>first|(simp[my.tw]at b;done)|exact absurd rfl (this _ _ _ _)
 |some d=>rw[c]at b;cases e<;>first|(simp only[my.tw,jc,av,db]at b;rw[b.1];done)|exact absurd rfl (this _ _ _ _)
theorem aX{e:my}{d1 d2:Option Nat}{v:V}{ids:List Nat}(d:∀i a j b,e.tw d1=aa (i,a)->(my.val v).tw d2=aa (j,b)->i≠j):
  (my.val v).app d2 (e.app d1 (s.vz ids))=e.app d1 ((s.put d2 v).vz ids):=by
 rw[XS]
 cases g:e.isM with
 |false=>exact BL (e2:= .val v) (d2:=d2) d (by simp[my.bw]) (by simp[my.vw]) (by simp[my.mw]) g rfl
 |true=>
  cases e with
  |mem m r=>
   cases d1 with
   |none=>cases d2<;>rfl
   |some i=>
    cases d2 with
    |none=>rfl
    |some j=>
     have c:=d i r j v rfl rfl
     have e:∀(f:Nat->V),lu (lu f i r) j v=lu (lu f j v) i r:=by
      intro f
      funext k
      simp only[ar]
      split<;>split<;>first|rfl|(subst_vars;exact absurd rfl c)
     show PS.mk _ _ _ _ _ _=PS.mk _ _ _ _ _ _
     congr 1
     exact e _
  |Jn id b h b2=>
   cases d1 with
   |none=>cases d2<;>rfl
   |some i=>
    cases d2 with
    |none=>rfl
    |some j=>
     have c:=d i .no j v rfl rfl
     have e:∀(f:Nat->V),lu (lu f i .no) j v=lu (lu f j v) i .no:=by
      intro f
      funext k
      simp only[ar]
      split<;>split<;>first|rfl|(subst_vars;exact absurd rfl c)
     show PS.mk _ _ _ _ _ _=PS.mk _ _ _ _ _ _
     congr 1
     exact e _
  |_=>cases g
theorem Se{x y:RI}(h:x.soft y=ah):∃n m j k b a v,x.op= .Iz n m j k/\y.op= .store b a v/\b≠1:=by
 unfold RI.soft at h;split at h
 ·rename_i c d;exact⟨_,_,_,_,_,_,_,c,d,by simpa using h⟩
 cases h
theorem sX{id:Nat}{b b':B}(d:Option Nat)(hb:s.di id=aa b)(e:b'.Ei=b.Ei):∀i ba,(my.app d s (.set id b')).K2 i ba=s.K2 i ba:=by
 intro i ba
 have c:(my.app d s (.set id b')).ba=s.ba:=by cases d<;>rfl
 have e2:(my.app d s (.set id b')).di=lu s.di id (aa b'):=by cases d<;>rfl
 unfold PS.K2;rw[c,e2];by_cases a:i=id
 ·subst a;rw[de,hb];simp only[e]
 rw[ar,aq a]
theorem aP{n id ba f i off:Nat}{xs:List C}{ids:List Nat}{e:my}(d:Option Nat)(h:G5 s n xs id ba f i off=aa (ids,e)):ids=[]/\∀i ba,(e.app d s).K2 i ba=s.K2 i ba:=by
 unfold G5 at h;split at h
 ·rename_i sz dv c;split at h
  ·split at h
   ·cases h;obtain⟨_,b,hb,a,_⟩:=Lb c;exact⟨rfl,sX d hb (by rw[a];simp[B.Ei])⟩
   cases h
  cases h
 cases h
theorem AV{n:Nat}{xs:List C}{v:V}{ids:List Nat}{e:my}(d:Option Nat)(h:Ac s n xs v=aa (ids,e)):ids=[]/\∀i ba,(e.app d s).K2 i ba=s.K2 i ba:=by
 cases v with
 |gz id ba off=>
  simp only[Ac]at h;split at h
  ·rename_i cs a;split at h
   ·cases h;exact⟨rfl,sX d (xl a).2 rfl⟩
   cases h
  cases h
 |Iy id ba c i off=>
  simp only[Ac]at h;split at h
  ·rename_i sz dv b;split at h
   ·split at h
    ·cases h;exact⟨rfl,sX d (zn b).2 (by simp[B.Ei])⟩
    cases h
   exact aP d h
  exact aP d h
 |_=>cases h
theorem qR{o:RI}{ids:List Nat}{e:my}{n:Nat}{a v:ov}(d:o.op= .store n a v)(m:n≠1)(h:P7 P o s ids e):∀i ba,(e.app o.dst (s.vz ids)).K2 i ba=s.K2 i ba:=by
 have val:∀x:V,ids=[]->e= .val x->∀i ba,(e.app o.dst (s.vz ids)).K2 i ba=s.K2 i ba:=by
  rintro x rfl rfl i ba;cases o.dst<;>rfl
 rcases h with ⟨_,c,j⟩|⟨_,⟨f,args,r,c,_⟩|⟨f,args,g,j9,r,c,_⟩|b|l⟩
 ·exact val _ c j
 ·rw[d]at c;cases c
 ·rw[d]at c;cases c
 ·rw[d]at b;simp only[lg.qi]at b;split at b
  ·obtain⟨rfl,j⟩:=AV o.dst b;exact j
  exfalso;unfold zo at b;split at b
  ·split at b
   ·split at b
    ·rename_i k;exact m k.1
    cases b
   ·split at b
    ·rename_i k;exact m k.1
    cases b
   cases b
  cases b
 rcases l with ⟨_,_,_,_,c,_⟩|⟨_,_,_,_,_,_,c,_⟩|⟨_,_,_,c,_⟩<;>(rw[d]at c;cases c)
theorem yE{o:RI}{n:Nat}{x j k:ov}(b:o.op= .Iz n x j k)(l:s'.base=s.base)(q:∀i ba,s'.K2 i ba=s.K2 i ba)(h:∀t∈o.looks,s'.tmp t=s.tmp t){ids:List Nat}{e:my}(d:P7 P o s ids e):P7 P o s' ids e:=by
 have w:=Uu h;unfold P7 at d|-;rw[w];rcases d with d|⟨v,⟨f,args,r,a,_⟩|⟨f,args,g,j9,r,a,_⟩|p|u⟩
 ·exact .inl d
 ·rw[b]at a;cases a
 ·rw[b]at a;cases a
 ·refine .inr ⟨v,.inr (.inr (.inl ?_))⟩
  have ev:∀y∈o.op.tj,y.ev s'=y.ev s:=λy hy=>by
   cases y with
   |c z=>rfl
   |t m=>exact h m (Y8 hy rfl)
  rw[b]at p ev|-;simp only[lg.tj,fa,kz,or_false,forall_eq_or_imp,forall_eq]at ev;rw[l];simp only[lg.qi,ev.1,ev.2.1,ev.2.2,q]at p|-;exact p
 rcases u with ⟨_,_,_,_,a,_⟩|⟨_,_,_,_,_,_,a,_⟩|⟨_,_,_,a,_⟩<;>(rw[b]at a;cases a)
theorem swap{x y:RI}(m:IZ x y)(V:Good x)(W:Good y)(wf:Wf s)(dx:∀d∈x.s8,Lh s (s.base+d))(dy:∀d∈y.s8,Lh s (s.base+d))(G:Stp P x s s1)(H:Stp P y s1 s2):∃N,Stp P y s N/\Stp P x N s2:=by
 obtain⟨O,w,o1,rfl⟩:=G;obtain⟨L,e2,o2,rfl⟩:=H;have c:=m.kind;by_cases E:x.op.kind= .write
 ·have l:y.op.kind= .pure\/y.soft x=true:=by
   rcases c with c|c|c
   ·rw[E]at c
    cases h:y.op.kind<;>rw[h]at c<;>first|exact .inl rfl|cases c
   ·obtain⟨_,_,_,_,_,_,_,h,_⟩:=Se c;rw[h]at E;cases E
   exact .inr c
  have u:y.op.kind= .pure\/y.op.kind= .read:=by
   rcases l with l|l
   ·exact .inl l
   obtain⟨_,_,_,_,_,_,_,h,_⟩:=Se l;exact .inr (by rw[h];rfl)
  obtain⟨w1,w2⟩:=zQ E o1;obtain⟨rfl,v,rfl⟩:=We u o2
  have K:y.writes=y.dst:=Lv (λg n z h=>by rw[h]at u;rcases u with u|u<;>cases u)
  have I:∀t∈y.looks,(w.app x.dst (s.vz O)).tmp t=s.tmp t:=λt e=>by
   rw[Sa λi a f o=>(m.w1 i (w2 i a f)).1 (o▸e),iO]
  have A:(w.app x.dst (s.vz O)).base=s.base:=by rw[T6,(Hh O s).1]
  have oy:P7 P y s [] (.val v):=by
   rcases l with l|l
   ·exact yF l A.symm (λt e=>(I t e).symm) o2
   obtain⟨_,_,_,_,_,_,_,G,H,Q⟩:=Se l;exact yE G A.symm (λi ba=>(qR H Q o1 i ba).symm) (λt e=>(I t e).symm) o2
  refine⟨_,⟨[],.val v,oy,rfl⟩,O,w,?_,?_⟩
  ·have R:∀t∈x.looks,(my.app y.dst s (.val v)).tmp t=s.tmp t:=λt e=>Sa λi a f o=>by
    simp only[my.tw,ax,db]at f;obtain⟨d,B,rfl,_⟩:=f;exact(m.w2 d (K.trans B)).1 (o▸e)
   exact Zi (s:=s) (aY _ _ _) (λt e=>⟨R t e,wS _ _ _⟩) rfl (λ_=>rfl) rfl (λ_ _ _ _=>⟨rfl,rfl⟩) o1
  exact aX λi a j b f r F=>by
   simp only[my.tw,ax,db]at r;obtain⟨d,B,rfl,_⟩:=r;exact(m.w1 i (w2 i a f)).2 (F▸(K.trans B))
 obtain⟨rfl,T⟩:=a14 V E m.n1 o1;by_cases l:y.op.kind= .write
 ·have k:x.op.kind= .pure\/x.soft y=true:=by
   rcases c with c|c|c
   ·rw[l]at c
    cases h:x.op.kind<;>rw[h]at c<;>first|exact .inl rfl|cases c
   ·exact .inr c
   obtain⟨_,_,_,_,_,_,_,h,_⟩:=Se c;rw[h]at l;cases l
  have u:x.op.kind= .pure\/x.op.kind= .read:=by
   rcases k with k|k
   ·exact .inl k
   obtain⟨_,_,_,_,_,_,_,h,_⟩:=Se k;exact .inr (by rw[h];rfl)
  obtain⟨w1,w2⟩:=zQ l o2;obtain⟨_,v,rfl⟩:=We u o1
  have J:x.writes=x.dst:=Lv (λg n z h=>by rw[h]at u;rcases u with u|u<;>cases u)
  have S:∀t∈y.looks,(my.app x.dst s (.val v)).tmp t=s.tmp t:=λt e=>Sa λi a f o=>by
   simp only[my.tw,ax,db]at f;obtain⟨d,B,rfl,_⟩:=f;exact(m.w1 d (J.trans B)).1 (o▸e)
  have oy:P7 P y s L e2:=Zi (s:=my.app x.dst s (.val v)) (s':=s) (aY _ _ _).symm (λt e=>⟨(S t e).symm,(wS _ _ _).symm⟩) rfl (λ_=>rfl) rfl (λ_ _ _ _=>⟨rfl,rfl⟩) o2;refine⟨_,⟨L,e2,oy,rfl⟩,[],.val v,?_,?_⟩
  ·have I:∀t∈x.looks,(e2.app y.dst (s.vz L)).tmp t=s.tmp t:=λt e=>by
    rw[Sa λi a f o=>(m.w2 i (w2 i a f)).1 (o▸e),iO]
   rcases k with k|k
   ·exact yF k (by rw[T6,(Hh L s).1]) I o1
   obtain⟨_,_,_,_,_,_,_,G,H,Q⟩:=Se k;exact yE G (by rw[T6,(Hh L s).1]) (qR H Q oy) I o1
  exact(aX λi a j b f r F=>by
   simp only[my.tw,ax,db]at r;obtain⟨d,B,rfl,_⟩:=r
   exact(m.w2 i (w2 i a f)).2 (F▸(J.trans B))).symm
 obtain⟨rfl,U⟩:=a14 W l m.n2 o2;have A:=T6 x.dst s w
 have M:nL s.base y e2:=by
  have:(my.app x.dst s w).base=s.base:=A;change nL (my.app x.dst (s.vz []) w).base y e2 at U
  rwa[show(my.app x.dst (s.vz []) w).base=s.base from A]at U
 have oy:P7 P y s [] e2:=(kN T W l dx wf m.w1 m.a61).1 o2;have ox:P7 P x (e2.app y.dst s) [] w:=(kN M V E dy wf m.w2 m.a5z).2 o1;refine⟨_,⟨[],e2,oy,rfl⟩,[],w,ox,?_⟩;show e2.app y.dst (w.app x.dst s)=w.app x.dst (e2.app y.dst s);obtain⟨Z,v1,m1,X⟩:=cQ T;obtain⟨b2,v2,m2,Y⟩:=cQ M
 have off:∀{p q:Nat},x.writes=aa p->y.writes=aa q->s.base+p≠s.base+q:=by
  intro p q C D a0
  have:p=q:=by lia
  subst this;exact(m.w1 p C).2 D
 exact BL (λi a j b f r F=>(m.w1 i (T.1 i a f)).2 (F▸U.1 j b r)) (λi a j b f r=>by obtain⟨p,rfl,C,_⟩:=Z i a f;obtain⟨q,rfl,D,_⟩:=b2 j b r;exact off C D)
  (λi j f r=>by obtain⟨p,rfl,C,_⟩:=v1 i f;obtain⟨q,rfl,D,_⟩:=v2 j r;exact off C D) (λi a j b f r=>by obtain⟨p,rfl,C,_⟩:=m1 i a f;obtain⟨q,rfl,D,_⟩:=m2 j b r;exact off C D) X Y
end
section
variable{P:Program}{B0 nt:Nat}{w0 w w':World}{G0 G G':ix}{s s':PS}{E E':Env}{a:Act}
theorem cB(ids:List Nat):∀(s:PS) (i:Nat),(s.vz ids).di i=(if i∈ids then ae else s.di i)/\(s.vz ids).mp i=(if i∈ids then ae else s.mp i):=by
 induction ids with
 |nil=>intro s i;simp[PS.vz]
 |cons j r d=>
  intro s i;obtain⟨b,c⟩:=d (s.Jg j) i;rw[PS.N4,b,c];by_cases e:i=j
  ·subst e;simp[PS.Jg,de]
  simp[PS.Jg,ie _ _ _ _ e,e]
theorem OE:∀{dv:List (List C)} {ds:List (List D)},fV dv=aa ds->dv=ds.map λe=>e.map .d:=by
 intro dv
 induction dv with
 |nil=>intro ds h;simp only[fV,av]at h;subst h;rfl
 |cons e r f=>
  intro ds h;simp only[fV]at h;split at h
  ·rename_i x l b c
   injection h with h
   subst h;rw[f c,T7 b];rfl
  cases h
def MV(s:PS)(ids:List Nat):B->B
 | .loc cs=> .loc (cs.map (C.x7 s ids))
 | .ru sz dv=>Zn (.ru sz (dv.map λe=>e.map (C.x7 s ids)))
 |b=>b
theorem eW(sz:Nat)(dv:List (List C)):(∃ds,Zn (.ru sz dv)= .arr sz ds/\dv=ds.map λe=>e.map .d)\/Zn (.ru sz dv)= .ru sz dv:=by
 cases h:fV dv with
 |some ds=>exact .inl ⟨ds,by simp only[Zn,h],OE h⟩
 |none=>exact .inr (by simp only[Zn,h])
theorem rI(s:PS)(ids:List Nat)(sz:Nat)(dv:List (List C)):MV s ids (.ru sz dv)=Zn (.ru sz (dv.map λe=>e.map (C.x7 s ids))):=by simp only[MV]
theorem AG(s:PS)(ids:List Nat)(b:B):(MV s ids b).Ei=b.Ei/\(MV s ids b).isVar=b.isVar:=by
 cases b with
 |ru sz dv=>
  rw[rI];rcases eW sz (dv.map λe=>e.map (C.x7 s ids))with ⟨ds,c,e2⟩|c
  ·rw[c];have:=congrArg Ae e2;simp only[al]at this;exact⟨by simp[B.Ei,this],rfl⟩
  rw[c];exact⟨by simp[B.Ei],rfl⟩
 |_=>exact⟨rfl,rfl⟩
theorem jw.x7(h:jw B0 w0 nt G0 s G E a w)(ids:List Nat):∃G',G.le G'/\jw B0 w0 nt G0 (s.x7 ids) G' E a w:=by
 cases ids with
 |nil=>exact⟨G,ix.me _,h⟩
 |cons i0 r0=>
  generalize Wz:i0::r0=ids;obtain⟨G',f,I,hg⟩:=h.vz ids;refine⟨G',f,?_⟩
  have T:s.x7 ids=PS.vz ids {s with tmp:=λt=>(s.tmp t).x7 s ids,di:=λi=>(s.di i).map (MV s ids),mp:=λi=>(s.mp i).map λes=>es.map λe=>(e.1,C.x7 s ids e.2)}:=by
   subst Wz;show PS.vz _ _=PS.vz _ _
   congr 1
   congr 1
   funext i
   cases s.di i with
   |none=>rfl
   |some b=>cases b<;>rfl
  generalize a3:s.x7 ids=L at T|-
  have a0:∀t,L.tmp t=(s.tmp t).x7 s ids:=λt=>by rw[T,iO]
  have pg:∀i,L.ba i=s.ba i:=λi=>by rw[T,PS.iN]
  have J:∀i es,L.mp i=aa es->∃g,(s.vz ids).mp i=aa g/\s.mp i=aa g/\es=g.map λe=>(e.1,C.x7 s ids e.2):=by
   intro i es B;rw[T,(cB ids _ i).2]at B;split at B
   ·cases B
   rename_i Q;simp only[ax]at B;obtain⟨g,D,rfl⟩:=B;exact⟨g,by rw[(cB ids s i).2,aq Q];exact D,D,rfl⟩
  have y:∀i b,L.di i=aa b->i∉ids/\∃l,s.di i=aa l/\b=MV s ids l:=by
   intro i b hb;rw[T,(cB ids _ i).1]at hb;split at hb
   ·cases hb
   rename_i B;simp only[ax]at hb;obtain⟨l,D,rfl⟩:=hb;exact⟨B,l,D,rfl⟩
  have z:J2 E E s L:=by
   refine⟨λi=>by rw[pg];exact bm _,λi sz n' _ hb=>?_,λi b _ hb X=>?_,λi _ hp=>?_⟩
   ·obtain⟨b,hb,hd⟩:=a08 hb;obtain⟨_,l,D,rfl⟩:=y i _ hb;rw[(AG s ids l).1]at hd;exact⟨n',(yf D).trans hd,bm _,λ_=>⟨rfl,rfl⟩⟩
   ·obtain⟨_,l,D,rfl⟩:=y i _ hb;rw[(AG s ids l).2]at X;exact⟨⟨l,D,X⟩,rfl⟩
   obtain⟨es,M⟩:=ma.1 hp;obtain⟨g,_,D,_⟩:=J i es M;exact⟨by rw[D];rfl,rfl⟩
  have cell:∀(c:C) (u:Value),zx G E s c u->zx G' E L (c.x7 s ids) u:=by
   intro c u m
   cases c with
   |d x=>exact iz.mono f m
   |ref id ba len=>
    simp only[C.x7];split
    ·rename_i O;split
     ·rename_i sz dv M;split
      ·rename_i hl;obtain⟨H,e2⟩:=zn M;subst hl;exact(hg id O).1 sz dv ba u e2 H m
      exact j4.F2 f z (c:= .ref id ba len) m
     exact j4.F2 f z (c:= .ref id ba len) m
    exact j4.F2 f z (c:= .ref id ba len) m
   |o8 id ba=>
    simp only[C.x7];split
    ·rename_i O;split
     ·rename_i ds M;simp only[BS]at M;obtain⟨es,M,a2⟩:=M;obtain⟨H,e2⟩:=Gj M;exact(hg id O).2 es ds ba u e2 a2 H m
     exact j4.F2 f z (c:= .o8 id ba) m
    exact j4.F2 f z (c:= .o8 id ba) m
   |ptr id ba off=>exact j4.F2 f z (c:= .ptr id ba off) m
  have lE:L.ctx=s.ctx:=by rw[T,(Hh ids _).2]
  refine⟨I.size,I.defers,I.base,I.below.Nl (by rw[lE,(Hh ids s).2];exact id),I.gok,I.gle,I.Jt,λt=>?_,λi b hb=>?_,λi j bi bj B hj Js=>?_,λi es B=>?_,λi j bi bj B hj Js=>?_,λp=>by rw[lE];exact j4.move f z (h.ctx p),λp=>by rw[lE];exact h.tb p⟩
  ·rw[a0];have F:=h.tmp t;generalize s.tmp t=x at F|-
   cases x with
   |ref id ba len=>exact cell (.ref id ba len) _ F
   |o8 id ba=>exact cell (.o8 id ba) _ F
   |agg cs=>
    obtain⟨vs,H,e2,e3⟩:=G6.1 F;rw[H];refine HS ⟨by simpa using e2,λi c u m R=>?_⟩;simp only[dn,ax]at m;obtain⟨c0,v,rfl⟩:=m;exact cell c0 u (e3 i c0 u v R)
   |Bb cs=>
    obtain⟨vs,H,e2,e3⟩:=Lg.1 F;rw[H];refine Lg.2 ⟨vs,rfl,by simpa using e2,λi c u m R=>?_⟩;simp only[dn,ax]at m;obtain⟨c0,v,rfl⟩:=m;exact cell c0 u (e3 i c0 u v R)
   |d x=>exact j4.move f z F
   |gz _ _ _=>exact j4.move f z F
   |Iy _ _ _ _ _=>exact j4.move f z F
   |qb _ _=>exact j4.move f z F
   |Lm _ _ _ _=>exact j4.move f z F
   |Iz _ _ _ _=>exact j4.move f z F
   |win _ _ _ _ _=>exact j4.move f z F
   |no=>trivial
  ·obtain⟨Q,l,V,rfl⟩:=y i b hb;have key:∀o,G'.cv (E.b i) o=none:=(I.di i l (by rw[(cB ids s i).1,aq Q];exact V)).2.1;obtain⟨S,_,cells,U,Y,Z,K⟩:=h.di i _ V
   cases l with
   |arr sz dv=>exact⟨S,key,cells,U,Y,Z,K.1,K.2.1,λi e j x u p q r=>(K.2.2 i e j x u p q r).mono f⟩
   |Tj n=>exact⟨S,key,cells,U,Y,Z,K⟩
   |loc cs=>
    refine⟨S,key,cells,U,Y,Z,by simpa using K.1,λj c u m R=>?_⟩;simp only[dn,ax]at m;obtain⟨c0,v,rfl⟩:=m;exact cell c0 u (K.2 j c0 u v R)
   |ru sz dv=>
    have hh:Holds G' E L cells (.ru sz (dv.map λe=>e.map (C.x7 s ids))):=by
     refine⟨by simpa using K.1,λq e W=>?_,λq e p c u W hp R=>?_⟩
     ·simp only[dn,ax]at W;obtain⟨e0,A,rfl⟩:=W;simpa using K.2.1 q e0 A
     simp only[dn,ax]at W;obtain⟨e0,A,rfl⟩:=W;simp only[dn,ax]at hp;obtain⟨c0,v,rfl⟩:=hp;exact cell c0 u (K.2.2 q e0 p c0 u A v R)
    rw[rI];rcases eW sz (dv.map λe=>e.map (C.x7 s ids))with ⟨ds,H,e2⟩|H
    ·rw[H];rw[e2]at hh;exact⟨S,key,cells,U,Y,Z,hh.toD⟩
    rw[H];exact⟨S,key,cells,U,Y,Z,hh⟩
  ·have un:∀i b,L.di i=aa b->∃l,s.di i=aa l:=λi b hb=>by
    obtain⟨_,l,D,_⟩:=y i b hb;exact⟨l,D⟩
   obtain⟨l,k0⟩:=un i bi B;obtain⟨b1,S⟩:=un j bj hj;exact h.inj i j l b1 k0 S Js
  ·obtain⟨g,q0,q1,rfl⟩:=J i es B;obtain⟨h1,h2,ents,clock,h3,h4,h5,h6⟩:=I.mp i g q0;obtain⟨_,_,rN,vP,N,_,a1,_⟩:=h.mp i g q1;rw[h3]at N;simp only[av,Obj.map.injEq]at N;obtain⟨rfl,rfl⟩:=N;refine⟨h1,h2,ents,clock,h3,by simpa using h4,λk e x hx hy=>?_,h6⟩;simp only[dn,ax]at hx;obtain⟨e0,A,rfl⟩:=hx;exact⟨(h5 k e0 x A hy).1,cell _ _ (a1 k e0 x A hy).2⟩
  obtain⟨_,q0,_,_⟩:=J i bi B;obtain⟨_,q1,_,_⟩:=J j bj hj;exact I.Sn i j _ _ q0 q1 Js
theorem zx.wf{c:C}{u:Value}(h:zx G E s c u):CWf s c:=by
 cases c with
 |d x=>trivial
 |ref id ba len=>exact h.1
 |o8 id ba=>exact h.1
 |ptr id ba off=>exact h.1
theorem j4.wf{x:V}{v:Value}(b:j4 G E s x v):VWf s x:=by
 have cells:∀{cs:List C} {vs:Array Value},vs.size=cs.length->(∀(i:Nat) (c:C) (u:Value),cs[i]? =aa c->vs[i]? =aa u->zx G E s c u)->∀c∈cs,CWf s c:=by
  intro cs vs e2 e c g;obtain⟨i,h,rfl⟩:=j0.1 g;exact(e i cs[i] vs[i] (bh h) (bz (by lia))).wf
 cases x with
 |ref id ba len=>exact b.1
 |o8 id ba=>exact b.1
 |gz _ _ _=>exact b.1
 |Iy _ _ _ _ _=>exact b.1
 |qb _ _=>exact b.1
 |agg cs=>obtain⟨vs,f,e2,e⟩:=G6.1 b;exact cells e2 e
 |Bb cs=>obtain⟨vs,f,e2,e⟩:=Lg.1 b;exact cells e2 e
 |Lm _ _ _ _=>exact b.1
 |Iz _ _ _ _=>exact b.2.1
 |win _ _ _ _ _=>exact b.2.1
 |d x=>trivial
 |no=>trivial
theorem jw.wf(h:jw B0 w0 nt G0 s G E a w):Wf s:=by
 refine⟨λt=>(h.tmp t).wf,λid cs hb c d=>?_,λid sz dv hb e f c d=>?_,λid es b e f=>?_⟩
 ·obtain⟨_,_,cells,l,_,_,g,k⟩:=h.di id _ hb;obtain⟨i,b,rfl⟩:=j0.1 d;exact(k i cs[i] cells[i] (bh b) (bz (by lia))).wf
 ·obtain⟨_,_,cells,l,_,_,g,k,n⟩:=h.di id _ hb;obtain⟨i,b,rfl⟩:=j0.1 f;obtain⟨j,m,rfl⟩:=j0.1 d;have o:=k i _ (bh b);have:=dA b (by lia:j<sz);exact(n i dv[i] j dv[i][j] cells[i*sz+j] (bh b) (bh m) (bz (by lia))).wf
 obtain⟨_,_,ents,_,_,p,g,_⟩:=h.mp id es b;obtain⟨i,b,rfl⟩:=j0.1 f;exact(g i es[i] ents[i] (bh b) (bz (by lia))).2.wf
theorem S8:j4 G E s (.d (.Bb [])) undef:=iz.Bb rfl (by simp)
theorem OU(h:jw B0 w0 nt G0 s G E a w){an:Ann}{ops:Array Oper}{o:Oper}{ri:RI}(q:Fits P nt an ops o ri){t:PS}(B:Stp P ri s t):∃G E a w,jw B0 w0 nt G0 t G E a w:=by
 obtain⟨ids,e,l,rfl⟩:=B
 have y:wanted ri s=aa ag\/wanted ri s=aa true:=by rcases l with ⟨h,_⟩|⟨h,_⟩<;>simp[h]
 rcases y with m|m
 ·rcases l with ⟨_,rfl,rfl⟩|⟨h,_⟩
  ·obtain⟨z,j,_⟩:=q.spec;exact⟨G,E,_,w,h.nZ (x:= .d (.Bb [])) (v:=undef) (by rw[z];exact j) S8⟩
  rw[m]at h;cases h
 have A:=qS m l;have b:=V5 h q (next:=λa w=>Ml B0 nt w0 G0 (· =e.app ri.dst (s.vz ids)) a w) (Q:=λ_ _ _=>False) A (λ_ _ h=>h)
 have g:∀a w,Ml B0 nt w0 G0 (· =e.app ri.dst (s.vz ids)) a w->∃G E a w,jw B0 w0 nt G0 (e.app ri.dst (s.vz ids)) G E a w:=by
  rintro a w ⟨s',G',E',rfl,k⟩;exact⟨G',E',a,w,k⟩
 unfold afr at b;generalize(execOp a.eval o).run P w=res at b
 cases res with
 |halt x w'=>cases x<;>exact b.elim
 |ok n w'=>
  cases n<;>simp only[Oper.upon]at b
  case value v=>exact g _ _ b
  case skip=>exact g _ _ b
  case defer d=>exact g _ _ b
  case enter f args=>
   obtain⟨u,p,C,i,_⟩:=b []
   cases u with
   |returned v=>exact g _ _ i
   |panicked c=>exact i.elim
   |outgrown=>obtain⟨_,_,k⟩:=i;exact k.elim
  case row r args=>
   obtain⟨v,p,i,_⟩:=b default [];exact g _ _ i
end
section
variable{P:Program}{B0 nt:Nat}{w0 w w':World}{G0 G G':ix}{s s' s1 s2:PS}{E E':Env}{a:Act}
theorem Vz{d:Nat}:Lh s d<->(s.di d=ae\/∃n,s.di d=aa (.Tj n))/\s.mp d=none:=by
 constructor
 ·intro h;obtain⟨c,e,g,f,_⟩:=h (s.ba d);simp only[PS.dv,PS.cs,PS.ents,PS.elc,da]at c e g f;refine⟨?_,g⟩
  cases hb:s.di d with
  |none=>exact .inl rfl
  |some b=>
   rw[hb]at c e f
   cases b with
   |arr sz dv=>cases c
   |ru sz dv=>cases f
   |loc cs=>cases e
   |Tj n=>exact .inr ⟨n,rfl⟩
 rintro⟨c,e⟩ ba;refine⟨?_,?_,?_,?_,?_⟩
 ·unfold PS.dv;split
  ·rcases c with c|⟨n,c⟩<;>rw[c]
  rfl
 ·unfold PS.cs;split
  ·rcases c with c|⟨n,c⟩<;>rw[c]
  rfl
 ·unfold PS.ents;split
  ·exact e
  rfl
 ·unfold PS.elc;split
  ·rcases c with c|⟨n,c⟩<;>rw[c]
  rfl
 unfold PS.K2;split
 ·rcases c with c|⟨n,c⟩<;>rw[c];rfl
 rfl
theorem Sr{i ba:Nat}{p:Nat×List (List D)}(h:s.dv i ba=aa p):¬Lh s i:=λb=>by rw[(b ba).1]at h;cases h
theorem uI{i ba:Nat}{p:List C}(h:s.cs i ba=aa p):¬Lh s i:=λb=>by rw[(b ba).2.1]at h;cases h
theorem ME{i ba:Nat}{p:List (D×C)}(h:s.ents i ba=aa p):¬Lh s i:=λb=>by rw[(b ba).2.2.1]at h;cases h
theorem RW{i ba:Nat}{p:Nat×List (List C)}(h:s.elc i ba=aa p):¬Lh s i:=λb=>by rw[(b ba).2.2.2.1]at h;cases h
def RI.Mt(o:RI)(b i:Nat):Prop:=∃w,i=b+w/\w∈o.makes
def Target(s:PS)(o:RI):my->Prop
 | .val _=>True
 | .new _ id b=>(id=s.base+o.dst.getD 0/\∃n,b= .Tj n)\/o.Mt s.base id
 | .set id _=>¬Lh s id
 | .grow _ id _=>¬Lh s id
 | .gG _ id=>o.Mt s.base id
 | .bQ id _=>¬Lh s id
 | .init _ _ id _=>o.Mt s.base id
 | .cut _ id _=>¬Lh s id
 | .Jn id _ c _=>¬Lh s id/\¬Lh s c
 | .mem _ _=>o.isE=ah
theorem mK{n:Nat}{xs:List C}{v:V}{ids:List Nat}{e:my}(h:Ac s n xs v=aa (ids,e)):∃id b,e= .set id b/\¬Lh s id:=by
 have c:∀{id ba f i off},G5 s n xs id ba f i off=aa (ids,e)->∃id b,e= .set id b/\¬Lh s id:=by
  intro id ba f i off h;unfold G5 at h;split at h
  ·rename_i d;split at h
   ·split at h
    ·cases h;exact⟨_,_,rfl,RW d⟩
    cases h
   cases h
  cases h
 cases v with
 |gz id ba off=>
  simp only[Ac]at h;split at h
  ·rename_i cs g;split at h
   ·simp only[av,db]at h;obtain⟨_,rfl⟩:=h;exact⟨_,_,rfl,uI g⟩
   cases h
  cases h
 |Iy id ba f i off=>
  simp only[Ac]at h;split at h
  ·rename_i sz dv d;split at h
   ·split at h
    ·simp only[av,db]at h;obtain⟨_,rfl⟩:=h;exact⟨_,_,rfl,Sr d⟩
    cases h
   exact c h
  exact c h
 |_=>simp[Ac]at h
theorem vL{n:Nat}{x y:V}{ids:List Nat}{e:my}(h:zo s n x y=aa (ids,e)):∃id b c b2,e= .Jn id b c b2/\¬Lh s id/\¬Lh s c:=by
 have live:∀{i:Nat} {b:B},s.di i=aa b->(∀n,b≠ .Tj n)->¬Lh s i:=by
  intro i b hb j g;rcases(Vz.1 g).1 with h|⟨n,h⟩
  ·rw[h]at hb;cases hb
  rw[h]at hb;injection hb with hb;exact j n hb.symm
 unfold zo at h;split at h
 ·split at h
  ·rename_i d f;split at h
   ·cases h;exact⟨_,_,_,_,rfl,live d (by simp),uI f⟩
   cases h
  ·rename_i d f;split at h
   ·cases h;exact⟨_,_,_,_,rfl,live d (by simp),uI f⟩
   cases h
  cases h
 cases h
theorem DE{o:RI}{ids:List Nat}{e:my}(A:P7 P o s ids e):Target s o e:=by
 rcases A with ⟨_,_,rfl⟩|⟨_,⟨_,_,_,_,_,rfl,_⟩|⟨_,_,_,_,_,_,_,_,rfl,_⟩|h|⟨_,_,_,_,r,_,rfl,_⟩|⟨_,_,_,_,_,_,r,_,_,rfl,_⟩|⟨_,_,_,_,_,rfl,_⟩⟩
 ·trivial
 ·trivial
 ·trivial
 rotate_left
 ·show o.isE=ah;unfold RI.isE;rw[r]
 ·show o.isE=ah;unfold RI.isE;rw[r]
 ·trivial
 have p:∀{sz b:Nat} {x y:V} {l:List Nat},S3 s (s.base+o.dst.getD 0) sz b x y=aa (ids,e)->(∀i,i∈o.makes<->i∈[o.dst.getD 0])->Target s o e:=by
  intro sz b x y _ h mk;rcases(Vy h).2 with ⟨v,rfl⟩|⟨v,b,rfl⟩|⟨v,id,b,rfl,m⟩
  ·trivial
  ·exact .inr ⟨_,rfl,(mk _).2 (by simp)⟩
  exact m
 have mk:∀i,i∈o.makes<->i∈(match o.op with| .alloc _| .box .. | .Ks| .app .. | .iG .. | .dT .. =>[o.dst.getD 0]| .xz q .. =>if q then[]else[o.dst.getD 0]| .init g .. =>[g]|_=>[]):=λi=>Iff.rfl
 cases d:o.op.kind with
 |pure=>obtain⟨_,v,rfl⟩:=We (P:=P) (o:={o with guard:=ae}) (.inl d) (.inr ⟨rfl,.inr (.inr (.inl h))⟩);trivial
 |read=>obtain⟨_,v,rfl⟩:=We (P:=P) (o:={o with guard:=ae}) (.inr d) (.inr ⟨rfl,.inr (.inr (.inl h))⟩);trivial
 |alloc=>
  cases e with
  |val v=>trivial
  |init v t id cs=>
   obtain⟨n,x,hx⟩:=mH h;refine⟨t,?_,(mk _).2 (by rw[hx];simp)⟩;rw[hx]at h;simp only[lg.qi]at h
   repeat' split at h
   all_goals(first|(cases h;rfl)|cases h)
  |_=>
   generalize u:o.op=op at d h mk;cases op<;>simp only[lg.kind,reduceCtorEq]at d<;>simp only[lg.qi]at h
   case alloc z=>first|(cases h;done)|(cases h;exact .inr ⟨_,rfl,(mk _).2 (by simp)⟩)
   case box n x=>
    repeat' split at h
    all_goals first|(cases h;done)|(cases h;exact .inr ⟨_,rfl,(mk _).2 (by simp)⟩)
   case Ks=>first|(cases h;done)|(cases h;exact⟨_,rfl,(mk _).2 (by simp)⟩)
   case zr n=>first|(cases h;done)|(cases h;exact .inl ⟨rfl,n,rfl⟩)
   case init g n x=>
     repeat' split at h
     all_goals(cases h)
   case xz q n sz z ps=>cases q<;>simp at d
 |write=>
  generalize u:o.op=op at d h mk;cases op<;>simp only[lg.kind,reduceCtorEq]at d<;>simp only[lg.qi]at h
  case store n a x=>
   split at h
   ·obtain⟨id,b,rfl,m⟩:=mK h;exact m
   obtain⟨id,b,B,b2,rfl,m⟩:=vL h;exact m
  case xz q n sz z ps=>
   cases q with
   |true=>simp at d
   |false=>
    repeat' split at h
    all_goals first|(cases h;done)|(cases h;exact .inr ⟨_,rfl,(mk _).2 (by simp)⟩)|simp_all
  case app sz b x y=>
   split at h
   ·split at h
    ·split at h
     ·repeat' split at h
      all_goals first|(cases h;done)|(obtain⟨rfl,rfl⟩:=uj h;trivial)|(cases h;exact .inr ⟨_,rfl,(mk _).2 (by simp)⟩)
     ·split at h
      ·rename_i c;split at h
       ·cases h;exact Sr c
       cases h
      exact p (l:=[]) h mk
     ·split at h
      ·rename_i c;split at h
       ·cases h;exact Sr c
       cases h
      cases h
     cases h
    cases h
   exact p (l:=[]) h mk
  case dT n sz z ps=>
   repeat' split at h
   all_goals first|(cases h;done)|(cases h;exact .inr ⟨_,rfl,(mk _).2 (by simp)⟩)
  case dP=>cases h
  case iG sz b z x y=>
   repeat' split at h
   all_goals first|(cases h;done)|(cases h;exact .inr ⟨_,rfl,(mk _).2 (by simp)⟩)
  case trim x=>
   split at h
   ·split at h
    ·rename_i c;split at h
     ·cases h;exact Sr c
     cases h
    cases h
   cases h
  case clr z x=>
   split at h
   ·split at h
    ·rename_i c;split at h
     ·cases h;exact Sr c
     cases h
    cases h
   cases h
  case P9 n x j=>
   split at h
   ·split at h
    ·rename_i c;split at h
     ·cases h;exact Sr c
     cases h
    cases h
   ·split at h
    ·obtain⟨rfl,rfl⟩:=uj h;trivial
    cases h
   cases h
  case cK C x k v=>
   split at h
   ·split at h
    ·rename_i c;simp only[ax]at h;obtain⟨_,_,h⟩:=h;cases h;exact ME c
    cases h
   cases h
  case slice3 n x j k=>
   split at h
   ·split at h
    ·rcases(mM h).2 with ⟨_,rfl⟩|⟨_,_,_,rfl,m⟩
     ·trivial
     exact m
    cases h
   cases h
  case Aq f args=>cases h
  case Od f args=>cases h
  case ua f args=>cases h
  case Q3 f args=>cases h
theorem NM{o:RI}{d:Nat}(L:Stp P o s s1)(z:Lh s d)(J:¬o.Mt s.base d)(I:o.isE=ag):Lh s1 d:=by
 obtain⟨ids,e,K,rfl⟩:=L;have j:=DE K;rw[Vz]at z|-;have r:=z
 have hb:(s.vz ids).di d=ae\/∃n,(s.vz ids).di d=aa (.Tj n):=by
  rcases(HI ids s d).1 with h|h
  ·exact .inl h
  rw[h];exact z.1
 have g:(s.vz ids).mp d=none:=by
  rcases(HI ids s d).2 with h|h
  ·exact h
  rw[h];exact z.2
 have q:∀id,¬Lh s id->id≠d:=λid h e=>h (e▸Vz.2 r);by_cases D:∃id b k b2,e= .Jn id b k b2
 ·obtain⟨id,b,k,b2,rfl⟩:=D;obtain⟨y,H⟩:=j;have F:=q _ y;have e2:=q _ H
  have B:(my.app o.dst (s.vz ids) (.Jn id b k b2)).di d=(s.vz ids).di d:=by
   show lu (lu (s.vz ids).di id (aa b)) k (aa b2) d=_;rw[ie _ _ _ _ (P8 e2),ie _ _ _ _ (P8 F)]
  refine⟨by rw[B];exact hb,g⟩
 have A:e.isM=false:=by
  cases e with
  |mem m v=>have j:o.isE=true:=j;rw[I]at j;cases j
  |Jn id b k b2=>exact absurd ⟨_,_,_,_,rfl⟩ D
  |_=>rfl
 rw[W4 _ _ _ A]
 have l:∀{α:Type} (f:Nat->α) (x:Option (Nat×α)),(∀i b,x=aa (i,b)->i≠d)->mod f x d=f d:=by
  intro α f x hx
  cases x with
  |none=>rfl
  |some p=>obtain⟨i,b⟩:=p;exact ie _ _ _ _ (P8 (hx i b rfl))
 have u:∀id,¬Lh s id->id≠d:=λid h e=>h (e▸Vz.2 r);have C:∀id,o.Mt s.base id->id≠d:=λid h e=>J (e▸h);show(mod (s.vz ids).di e.bw d=ae\/∃n,mod (s.vz ids).di e.bw d=aa (.Tj n))/\mod (s.vz ids).mp e.mw d=ae
 cases e with
 |val v=>exact⟨hb,g⟩
 |new v id b=>
  refine⟨?_,g⟩;rcases j with ⟨y,n,rfl⟩|y
  ·by_cases e:id=d
   ·subst e;exact .inr ⟨n,de _ _ _⟩
   rw[l _ _ (by intro i b c;simp only[my.bw,av,db]at c;rw[<-c.1];exact e)];exact hb
  rw[l _ _ (by intro i b c;simp only[my.bw,av,db]at c;rw[<-c.1];exact C _ y)];exact hb
 |set id b=>exact⟨by rw[l _ _ (by intro i b c;simp only[my.bw,av,db]at c;rw[<-c.1];exact u _ j)];exact hb,g⟩
 |grow v id b=>exact⟨by rw[l _ _ (by intro i b c;simp only[my.bw,av,db]at c;rw[<-c.1];exact u _ j)];exact hb,g⟩
 |gG v id=>exact⟨hb,by rw[l _ _ (by intro i b c;simp only[my.mw,av,db]at c;rw[<-c.1];exact C _ j)];exact g⟩
 |bQ id es=>exact⟨hb,by rw[l _ _ (by intro i b c;simp only[my.mw,av,db]at c;rw[<-c.1];exact u _ j)];exact g⟩
 |cut v id b=>exact⟨by rw[l _ _ (by intro i b c;simp only[my.bw,av,db]at c;rw[<-c.1];exact u _ j)];exact hb,g⟩
 |mem m v=>cases A
 |Jn _ _ _ _=>cases A
 |init v t id cs=>exact⟨by rw[l _ _ (by intro i b c;simp only[my.bw,av,db]at c;rw[<-c.1];exact C _ j)];exact hb,g⟩
end
section
variable{P:Program}{B0 nt:Nat}{w0 w w':World}{G0 G G':ix}{s s' s1 s2:PS}{E E':Env}{a:Act}
theorem Zl{o:Oper}{v:Value}{next:Act->World->Prop}{Q:Exit->Act->World->Prop}(h:(execOp a.eval o).run P w= .ok (.value v) w')(b:next (a.put o.dst v) w'):o.wp P a w next Q:=by
 unfold afr;rw[h];exact b
theorem XX{o:Oper}{next:Act->World->Prop}{Q:Exit->Act->World->Prop}(h:(execOp a.eval o).run P w= .ok .skip w')(b:next (a.put o.dst undef) w'):o.wp P a w next Q:=by
 unfold afr;rw[h];exact b
theorem OJ{o:Oper}{next b:Act->World->Prop}{Q:Exit->Act->World->Prop}(hN:∀a w,next a w->b a w)(h:o.wp P a w next Q):o.wp P a w b Q:=by
 unfold afr at h|-;generalize(execOp a.eval o).run P w=r at h|-
 cases r with
 |halt x w'=>cases x<;>exact h
 |ok n w'=>
  cases n with
  |value v=>exact hN _ _ h
  |skip=>exact hN _ _ h
  |defer d=>exact hN _ _ h
  |enter f args=>
   refine Calls.mono h λe i g=>?_
   cases e with
   |returned v=>exact hN _ _ g
   |panicked c=>exact g
   |outgrown=>exact g
  |row r args=>exact Rows.mono h λv i j=>hN _ _ j
  |_=>exact h
theorem Zf(a:Act)(d:Nat)(v:Value):(a.put (aa d) v).tmps.size=a.tmps.size:=by simp[Act.put]
theorem iM(a:Act){d:Nat}(v:Value)(b:d<a.tmps.size)(t:Nat):(a.put (aa d) v).tmps.getD t undef=if t=d then v else a.tmps.getD t undef:=by
 simp only[Act.put];rw[kl,kl];by_cases e:t=d
 ·subst e;rw[bc rfl,Ut,bc b];rfl
 rw[aq e,Xx (λh=>e h.symm)]
theorem Vu(a:Act)(t:Nat):a.eval (.tmp t)=a.tmps.getD t undef:=rfl
theorem jw.a6a(h:jw B0 w0 nt G0 s G E a w){a':Act}{tmp':Nat->V}(hs:a'.tmps.size=nt)(q:a'.defers=[])(u:∀t,j4 G E s (tmp' t) (a'.tmps.getD t undef)):
  jw B0 w0 nt G0 {s with tmp:=tmp'} G E a' w:=by
 have c:∀{x:V} {v:Value},j4 G E s x v->j4 G E {s with tmp:=tmp'} x v:=λ{x v} h=>by cases x<;>exact h
 have f:J2 E E s {s with tmp:=tmp'}:=⟨λ_=>bm _,λ_ _ n _ h=>⟨n,h,bm _,λ_=>⟨rfl,rfl⟩⟩,λ_ b _ h c=>⟨⟨b,h,c⟩,rfl⟩,λ_ _ h=>⟨h,rfl⟩⟩;refine⟨hs,q,h.base,h.below,h.gok,h.gle,h.Jt,λt=>c (u t),λi b hb=>?_,h.inj,λi es r=>?_,h.Sn,λp=>c (h.ctx p),h.tb⟩
 ·have k:=h.di i b hb;exact k.move (ix.me _) f rfl k.2.1 rfl rfl
 obtain⟨g,j,ents,clock,l,m,d,o⟩:=h.mp i es r;exact⟨g,j,ents,clock,l,m,λi e x hx hy=>⟨(d i e x hx hy).1,j4.F2 (ix.me _) f (d i e x hx hy).2⟩,o⟩
theorem EB{g:KK}{k:D}:∀{ds:List (D×C)} {j:Nat} {e:D×C} (i:Nat),Jj g k ds i=aa (aa (i+j))->ds[j]? =aa e->G3 g k e.1=aa ah/\∀c,O9 g k c ds=aa (ds.set j (k,c)):=by
 intro ds
 induction ds with
 |nil=>intro j e i _ d;simp at d
 |cons p ds n=>
  intro j e i b d;obtain⟨q,z⟩:=p;simp only[Jj]at b;split at b
  ·rename_i f;simp only[av]at b
   have:j=0:=by lia
   subst this;simp only[iw,av]at d;subst d;exact⟨f,λc=>by simp[O9,f]⟩
  ·rename_i f
   cases j with
   |zero=>
    have:=ID b;lia
   |succ j=>
    have h:Jj g k ds (i+1)=aa (aa (i+1+j)):=by rw[b];congr 2;lia
    obtain⟨l,m⟩:=n (i+1) h (by simpa using d);exact⟨l,λc=>by simp[O9,f,m c]⟩
  cases b
theorem uG(h:jw B0 w0 nt G0 s G E a w){t kt e:TypeId}{B:KK}(hu:P.underlying t=aa (.map kt e))(J:S9 P kt=aa B)(hz:(P.info? e).bind (·.zero)=aa (.slice ae 0 0))
  {id ba:Nat}{f:D}{U n:Value}(hx:j4 G E s (.o8 id ba) U)(I:iz G f n){es:List (D×C)}(O:s.ents id ba=aa es){r:Option C}(Z:Iv B f es=aa r):
  ∃(j:Nat) (ents:Array MapEntry) (clock:Nat) (x:MapEntry),U= .map (aa (E.m id))/\
   (aeb t U n).run P w= .ok (.tuple #[x.val,goInt x.born]) (Cp w (E.m id) (.map ents clock))/\ents[j]? =aa x/\eF ents clock/\zx G E s (r.getD (.d .cj)) x.val/\
   (∃o0,w.heap[E.m id]? =aa o0)/\
   ∃k:List (D×C),k.length=ents.size/\k[j]? =aa (f,r.getD (.d .cj))/\iz G f x.key/\
    (∀(i:Nat) (e:D×C) (y:MapEntry),i≠j->k[i]? =aa e->ents[i]? =aa y->iz G e.1 y.key/\zx G E s e.2 y.val)/\∀c,O9 B f c es=aa (k.set j (f,c)):=by
 obtain⟨pg,W⟩:=Gj O;have R:=hx.2 pg (by rw[W];rfl);subst R;obtain⟨_,_,ents,clock,F,L,K,k4⟩:=h.mp id es W;have V:=kH Z;have H:=cW (w:=w) J I V ag
 have S:(zeroValue e).run P w= .ok (.slice ae 0 0) w:=by
  cases A:P.info? e with
  |none=>rw[A]at hz;cases hz
  |some i=>
   rw[A]at hz;simp only[rX]at hz;simp[zeroValue,typeInfo,A,hz]
 have o:=λT (g:Jj B f es 0=aa T)=>Vt (P:=P) (w:=w) J I g (es:=ents.toList) (by simpa using L) (λj e x u hx=>(K j e x u (by simpa using hx)).1);rcases rD 0 Z with ⟨rfl,v⟩|⟨j,N,X,v,rfl⟩
 ·refine⟨ents.size,ents.push {key:=n,val:= .slice ae 0 0,born:=clock},clock+1,{key:=n,val:= .slice ae 0 0,born:=clock},rfl,?_,by simp,k4.push _ _,iz.cj,⟨_,F⟩,?_⟩
  ·unfold aeb;simp only[df,underlying,run_program,br,hu,fl,Hl F,H,o _ v,Option.map_none,S,Pb F]
  have Ye:∀(c:C) {ds:List (D×C)} (i:Nat),Jj B f ds i=aa ae->O9 B f c ds=aa (ds++[(f,c)]):=by
   intro c ds
   induction ds with
   |nil=>intro i _;simp[O9,V]
   |cons p ds ih=>
    intro i g;obtain⟨q,z⟩:=p;simp only[Jj]at g;simp only[O9]
    cases Y:G3 B f q with
    |none=>rw[Y]at g;cases g
    |some b=>
     rw[Y]at g
     cases b with
     |true=>simp at g
     |false=>
      simp only at g|-;rw[ih _ g];rfl
  refine⟨es++[(f,.d .cj)],by simp[L],by simp[L],I,λi e y M u hy=>?_,λc=>?_⟩;rotate_left
  ·rw[Ye c 0 v]
   congr 1
   rw[nO _ _ (by lia)]
   have:ents.size-es.length=0:=by lia
   rw[this];rfl
  have g:i<es.length:=by
   have:=(bd.1 u).1;simp only[dz,cq,ew]at this;lia
  rw[kq g]at u;rw[gB,aq (by lia)]at hy;exact K i e y u hy
 have Q:j<ents.size:=by have:=(bd.1 v).1;lia
 have l:ents[j]? =aa ents[j]:=bz Q;obtain⟨h3,Me⟩:=EB 0 X v;have hs:=Z9 h3 I (K j N ents[j] v l).1
 have xv:(JK (((ents[j]?).map (·.key)).getD n) n).run P w= .ok n w:=by
  unfold JK;simp only[l,jc,jj,hs,da,fl]
 refine⟨j,ents.modify j λe=>{e with key:=n},clock,{ents[j]with key:=n},rfl,?_,by rw[Em,bc rfl,l];rfl,k4.modify j λ_=>rfl,(K j N ents[j] v l).2,⟨_,F⟩,?_⟩
 ·have hv:((ents.toList[j]?).map (·.val)).getD undef=ents[j].val:=by simp[Q]
  unfold aeb;simp only[df,underlying,run_program,br,hu,fl,Hl F,H,o _ X,jc,gj,xv,Pb F];simp[Q]
 refine⟨es.set j (f,N.2),by simp[L],by rw[u7,bc rfl,bc (by lia)];rfl,I,λi e y M u hy=>?_,λc=>by rw[Me c];simp⟩;rw[u7,aq (P8 M)]at u;rw[Em,aq (P8 M)]at hy;exact K i e y u hy
theorem TI{ents:Array MapEntry}{clock j:Nat}{x:MapEntry}(hb:eF ents clock)(hx:ents[j]? =aa x):ents.findIdx? (λe=>(e.born:Int)==(x.born:Int))=aa j:=by
 have d:=(la.1 hx).1;have c:ents[j]=x:=(la.1 hx).2;rw[Array.findIdx?_eq_some_iff_getElem];refine⟨d,by simp[c],λk g=>?_⟩
 have b:k<ents.size:=by lia
 simp only[beq_iff_eq];intro f;have:=hb.2 k j ents[k] x (bz b) hx (by lia);lia
theorem mD{t r:Nat}{ents:Array MapEntry}{clock j:Nat}{x:MapEntry}(b:w.heap[r]? =aa (.map ents clock))(hb:eF ents clock)(hx:ents[j]? =aa x)(v:Value):
  (acm t (.map (aa r)) (goInt x.born) v).run P w= .ok () (Cp w r (.map (ents.modify j λe=>{e with val:=v}) clock)):=by
 unfold acm;have c:(asInt (goInt x.born)).run P w= .ok (x.born:Int) w:=rfl;simp only[df,Hl b,br,c,TI hb hx,Pb b]
structure GAt(P:Program)(nt:Nat)(o1 o2 o3 o4 o5:Oper)(kk:KK)(sz bytes m k y:Nat)(d1 d2 d3 d4:Nat)(t kt et e eu au:TypeId)(i:TypeInfo)(args:Array Operand)(Fy:Array TypeId)(t5:TypeId):Prop where
 o1:o1.dst=aa d1/\o1.op= .mapEntry t (.tmp m) (.tmp k)/\o1.guard=ae
 o2:o2.dst=aa d2/\o2.op= .extract (.tmp d1) 0/\o2.guard=ae
 o3:o3.dst=aa d3/\o3.op= .call ⟨.builtin .append,args,Fy⟩/\o3.guard=ae
 o4:o4.dst=aa d4/\o4.op= .extract (.tmp d1) 1/\o4.guard=ae
 o5:o5.dst=ae/\o5.op= .entryStore t5 (.tmp m) (.tmp d4) (.tmp d3)/\o5.guard=ae
 args:args.toList=[.tmp d2,.tmp y]
 a0:Fy[0]? =aa et
 a1:Fy[1]? =aa au
 ut:P.underlying t=aa (.map kt et)
 uet:P.underlying et=aa (.slice e)
 uau:P.underlying au=aa (.slice eu)
 zet:(P.info? et).bind (·.zero)=aa (.slice ae 0 0)
 key:S9 P kt=aa kk
 inf:P.info? e=aa i
 hz:i.zero.map (·.cells.size)=aa i.size
 hs:0<i.size
 hb:0<i.bytes
 esz:sz=i.size
 eby:bytes=i.bytes
 lt:d1<nt/\d2<nt/\d3<nt/\d4<nt
 ne:d1≠d2/\d1≠d3/\d3≠d4/\y≠d1/\y≠d2/\m≠d1/\m≠d2/\m≠d3/\m≠d4
theorem GF{o1 o2 o3 o4 o5:Oper}{ri:RI}(h:UN P nt o1 o2 o3 o4 o5=aa ri):∃b sz bytes m k y d1 d2 g j t o p e l f i args d t5,GAt P nt o1 o2 o3 o4 o5 b sz bytes m k y d1 d2 g j t o p e l f i args d t5/\
  ri={dst:=ae,op:= .dP b sz bytes (.t m) (.t k) (.t y) [d1,d2,g,j],guard:=ae,after:=[]}:=by
 unfold UN at h;split at h
 ·rename_i d1 t m k d2 e2 g c j e4 t5 m' e5 e6 q r u v x z A B C n;obtain⟨callee,args,d⟩:=c
  dsimp only at h
  split at h
  ·rename_i a0 y at_ f o p D F H I;split at h
   ·rename_i J;obtain⟨rfl,rfl,rfl,rfl,rfl,rfl,rfl,n1,n2,Q,q1,q2,q3,q4,q5,L,M,N,O,R,S,T,U,V,W⟩:=J;split at h
    ·rename_i e l b X Y Z u4;split at h
     ·rename_i i K;split at h
      ·rename_i hb
       injection h with h
       subst h;exact⟨b,i.size,i.bytes,_,k,y,_,_,_,_,t,o,_,e,l,f,i,args,d,t5,⟨⟨q,r,q1⟩,⟨u,v,q2⟩,⟨x,z,q3⟩,⟨A,B,q4⟩,⟨C,n,q5⟩,D,F,H,I,X,Y,Z,u4,K,hb.1,hb.2.1,hb.2.2.1,rfl,rfl,⟨L,M,N,O⟩,⟨n1,n2,Q,R,S,T,U,V,W⟩⟩,rfl⟩
      cases h
     cases h
    cases h
   cases h
  cases h
 cases h
theorem a00(h:jw B0 w0 nt G0 s G E a w){o1 o2 o3 o4 o5:Oper}{kk:KK}{sz bytes m k y d1 d2 M N:Nat}{t kt et e eu au:TypeId}{i:TypeInfo}{args:Array Operand}{Fy:Array TypeId}{t5:TypeId}
  (g:GAt P nt o1 o2 o3 o4 o5 kk sz bytes m k y d1 d2 M N t kt et e eu au i args Fy t5){K:PS->Prop}{next:Act->World->Prop}{Q:Exit->Act->World->Prop}
  {id:Nat}(xv:II s id kk sz bytes (s.tmp m) (s.tmp k) (s.tmp y) [d1,d2,M,N] s')(hK:K s')(hn:∀a w,Ml B0 nt w0 G0 K a w->next a w):
  o1.wp P a w (λa w=>o2.wp P a w (λa w=>o3.wp P a w (λa w=>o4.wp P a w (λa w=>o5.wp P a w next Q) Q) Q) Q) Q:=by
 obtain⟨zO,e6,f,ba,key,es,ys,osz,hm,hk,b2,d9,SM,l8,yr,_,fJ⟩:=xv;obtain⟨n1,n2,n3,n4,n5,n6,n7,n8,n9⟩:=g.ne;obtain⟨l1,l2,l3,l4⟩:=g.lt;have esz:=g.esz;have eby:=g.eby;subst esz eby;obtain⟨z,hz,b9⟩:=ax.1 g.hz;have vm:=h.tmp m;have vk:=h.tmp k;have vy:=h.tmp y;rw[hm]at vm;rw[hk]at vk
 obtain⟨r,hr⟩:∃r,Iv kk key es=aa r:=by rcases fJ with ⟨h1,_⟩|⟨_,_,_,_,h1,_⟩<;>exact⟨_,h1⟩
 obtain⟨j,ents,clock,x,d6,c7,hx,X,a5,⟨o0,b6⟩,l,p2,p3,p4,p5,Ye⟩:=uG h g.ut g.key g.zet vm vk b2 hr;obtain⟨pg,SS⟩:=Gj b2;have En:=h.size
 let a1:=a.put (aa d1) (.tuple #[x.val,goInt x.born])
 let I:=a1.put (aa d2) x.val
 have s1:a1.tmps.size=nt:=by show(a.put _ _).tmps.size=_;rw[Zf];exact En
 have s2:I.tmps.size=nt:=by show(a1.put _ _).tmps.size=_;rw[Zf];exact s1
 have TF:∀t,a1.tmps.getD t undef=if t=d1 then .tuple #[x.val,goInt x.born]else a.tmps.getD t undef:=λt=>iM a _ (by lia) t
 have TE:∀t,I.tmps.getD t undef=if t=d2 then x.val else a1.tmps.getD t undef:=λt=>iM a1 _ (by lia) t
 have ext:∀(A:Act) (W:World) (q:Nat) (v:Value) (o:Oper),o.op= .extract (.tmp d1) q->A.tmps.getD d1 undef= .tuple #[x.val,goInt x.born]->(#[x.val,goInt x.born]:Array Value)[q]? =aa v->(execOp A.eval o).run P W= .ok (.value v) W:=by
  intro A W q v o ho hA F;unfold execOp;rw[ho]
  dsimp only
  rw[Ss,Vu,hA];unfold ady;simp[F]
 refine Zl (v:= .tuple #[x.val,goInt x.born]) (w':=Cp w (E.m f) (.map ents clock)) ?_ ?_
 ·unfold execOp;rw[g.o1.2.1]
  dsimp only
  rw[Ss,Vu,Vu,c7];rfl
 rw[g.o1.1];refine Zl (v:=x.val) (ext _ _ 0 _ _ g.o2.2.1 (by show a1.tmps.getD d1 undef=_;rw[TF,bc rfl]) rfl) ?_;rw[g.o2.1]
 have a6:jw B0 w0 nt G0 {s with mp:=lu s.mp f (aa l)} G E a (Cp w (E.m f) (.map ents clock)):=by
  refine h.bQ SS (Bh.Cp b6 _) p2.symm (λq O y F hy=>?_) X;by_cases J:q=j
  ·subst J;rw[p3]at F
   injection F with F
   subst F;rw[hx]at hy
   injection hy with hy
   subst hy;exact⟨p4,a5⟩
  exact p5 q O y J F hy
 have a9:J2 E E s {s with mp:=lu s.mp f (aa l)}:=⟨λ_=>bm _,λ_ _ n _ h=>⟨n,h,bm _,λ_=>⟨rfl,rfl⟩⟩,λ_ b _ h hv=>⟨⟨b,h,hv⟩,rfl⟩,λq _ hp=>⟨by
  by_cases e:q=f
  ·subst e;rw[SS];rfl
  simp only[ie _ _ _ _ e]at hp;exact hp,rfl⟩⟩
 have c0:(args.map I.eval)[0]? =aa x.val:=by
  have h2:args[0]? =aa (.tmp d2):=by rw[<-ad5,g.args];rfl
  rw[Yx,h2];show aa (I.eval (.tmp d2))=_;rw[Vu,TE,bc rfl]
 have UX:(args.map I.eval)[1]? =aa (a.tmps.getD y undef):=by
  have h2:args[1]? =aa (.tmp y):=by rw[<-ad5,g.args];rfl
  rw[Yx,h2];show aa (I.eval (.tmp y))=_;rw[Vu,TE,aq n5,TF,aq n4]
 obtain⟨xb,cp,news,d7,b5,b4,D6,b8,Z⟩:=mF (P:=P) a6 (y:=s.tmp y) d9 SM (j4.move (ix.me _) a9 vy);rw[d7]at UX b8 Z;have e1:=VC (s:={s with mp:=lu s.mp f (aa l)}) yr
 have b0:∀(v3:Value) (w2:World) (L:Env) (U:Nat->Option B) (T:Nat->Nat) (c:C) (H:List (D×C)),(A9 Fy o3.type (args.map I.eval)).run P (Cp w (E.m f) (.map ents clock))= .ok v3 w2->
   jw B0 w0 nt G0 {s with mp:=lu s.mp f (aa l),di:=U,ba:=T} G L a w2->L.m=E.m->w2.heap[E.m f]? =aa (.map ents clock)->
   zx G L {s with mp:=lu s.mp f (aa l),di:=U,ba:=T} c v3->O9 kk key c es=aa H->s'=PS.dR {s with di:=U,ba:=T,mp:=lu s.mp f (aa H)} [d1,d2,M,N]->
   o3.wp P I (Cp w (E.m f) (.map ents clock)) (λa w=>o4.wp P a w (λa w=>o5.wp P a w next Q) Q) Q:=by
  intro v3 w2 L U T c H Kv hf c8 Y hc R d0;refine Zl (v:=v3) (w':=w2) ?_ ?_
  ·unfold execOp;rw[g.o3.2.1];have:=Ss (P:=P) (w:=Cp w (E.m f) (.map ents clock)) (A9 Fy o3.type (args.map I.eval));rw[Kv]at this;exact this
  rw[g.o3.1]
  let a3:=I.put (aa M) v3
  have s3:a3.tmps.size=nt:=by show(I.put _ _).tmps.size=_;rw[Zf];exact s2
  have ZZ:∀t,a3.tmps.getD t undef=if t=M then v3 else I.tmps.getD t undef:=λt=>iM I _ (by lia) t
  refine Zl (v:=goInt x.born) (ext a3 _ 1 _ _ g.o4.2.1 (by rw[ZZ,aq n2,TE,aq n1,TF,bc rfl]) rfl) ?_;rw[g.o4.1]
  let a4:=a3.put (aa N) (goInt x.born)
  have s4:a4.tmps.size=nt:=by show(a3.put _ _).tmps.size=_;rw[Zf];exact s3
  have ZY:∀t,a4.tmps.getD t undef=if t=N then goInt x.born else a3.tmps.getD t undef:=λt=>iM a3 _ (by lia) t
  have em:a4.tmps.getD m undef= .map (aa (E.m f)):=by rw[ZY,aq n9,ZZ,aq n8,TE,aq n7,TF,aq n6];exact d6
  have e3:a4.tmps.getD M undef=v3:=by rw[ZY,aq n3,ZZ,bc rfl]
  have e4:a4.tmps.getD N undef=goInt x.born:=by rw[ZY,bc rfl]
  have c9:j<l.length:=(bd.1 p3).1;obtain⟨p,ZQ⟩:∃p,p=l.set j (key,c):=⟨_,rfl⟩;rw[Ye c,<-ZQ]at R
  injection R with R
  subst R
  have q2:p.length=ents.size:=by rw[ZQ];simpa using p2
  have q3:p[j]? =aa (key,c):=by rw[ZQ,u7,bc rfl,bc c9]
  refine XX (w':=Cp w2 (E.m f) (.map (ents.modify j λe=>{e with val:=v3}) clock)) ?_ ?_
  ·unfold execOp;rw[g.o5.2.1]
   dsimp only
   rw[yZ];show((acm t5 (a4.eval (.tmp m)) (a4.eval (.tmp N)) (a4.eval (.tmp M))).run P w2).andThen _=_;rw[Vu,Vu,Vu,em,e3,e4,mD Y X hx];rfl
  rw[g.o5.1];have a8:(lu s.mp f (aa l)) f=aa l:=de _ _ _
  have b1:L.m f=E.m f:=by rw[c8]
  have b7:∀(q:Nat) (O:D×C) (y:MapEntry),l[q]? =aa O->ents[q]? =aa y->iz G O.1 y.key/\zx G L {s with mp:=lu s.mp f (aa l),di:=U,ba:=T} O.2 y.val:=by
   intro q O y F hy;obtain⟨_,_,e5,e2,S,_,k5,_⟩:=hf.mp f l a8;rw[b1,Y]at S;simp only[av,Obj.map.injEq]at S;obtain⟨rfl,rfl⟩:=S;exact k5 q O y F hy
  have same:∀q,q≠j->p[q]? =l[q]? :=by
   intro q F;rw[ZQ,u7,aq (P8 F)]
  refine hn _ _ ⟨s',G,L,hK,?_⟩
  have P1:=hf.bQ (es:=p) a8 (w':=Cp w2 (E.m f) (.map (ents.modify j λe=>{e with val:=v3}) clock)) (ents:=ents.modify j λe=>{e with val:=v3}) (clock:=clock) (by rw[b1];exact Bh.Cp Y _) (by simp[q2]) (λq O y F hy=>by
   rw[Em]at hy;by_cases J:q=j
   ·subst J;rw[bc rfl,hx]at hy;simp only[jc,av]at hy;subst hy;rw[q3]at F
    injection F with F
    subst F;exact⟨p4,hc⟩
   rw[aq (P8 J)]at hy;rw[same q J]at F
   exact b7 q O y F hy) (X.modify j λ_=>rfl)
  have d5:lu (lu s.mp f (aa l)) f (aa p)=lu s.mp f (aa p):=by
   funext q
   by_cases e:q=f
   ·subst e;rw[de,de]
   rw[ie _ _ _ _ e,ie _ _ _ _ e,ie _ _ _ _ e]
  have a7:jw B0 w0 nt G0 {s with di:=U,ba:=T,mp:=lu s.mp f (aa p)} G L a (Cp w2 (E.m f) (.map (ents.modify j λe=>{e with val:=v3}) clock)):=by
   have e:({s with mp:=lu (lu s.mp f (aa l)) f (aa p),di:=U,ba:=T}:PS)={s with di:=U,ba:=T,mp:=lu s.mp f (aa p)}:=by rw[d5]
   rw[<-e];exact P1
  rw[d0];refine a7.a6a (a':=a4) s4 h.defers (tmp':=λt=>if t∈[d1,d2,M,N]then .no else s.tmp t) λt=>?_;by_cases ht:t∈[d1,d2,M,N]
  ·rw[bc ht];exact j4.a9r
  rw[aq ht];simp only[fa,kz,or_false,not_or]at ht;rw[ZY,aq ht.2.2.2,ZZ,aq ht.2.2.1,TE,aq ht.2.1,TF,aq ht.1];exact a7.tmp t
 have V:(args.map I.eval)[0]? =aa x.val:=c0;have b3:(Cp w (E.m f) (.map ents clock)).heap[E.m f]? =aa (.map ents clock):=(Bh.Cp b6 (.map ents clock)).at_;rcases fJ with ⟨c1,c2,H,c3,c4⟩|⟨i',v0,n0,dv,c1,c2,c3,c4,H,c5,c6⟩
 ·rw[hr]at c1
  injection c1 with c1
  subst c1
  have d8:x.val= .slice ae 0 0:=by
   have:iz G .cj x.val:=a5;generalize x.val=q at this;cases this;rfl
  rw[d8]at V;obtain⟨v3,w2,L,k1,k2,S,k4,k5⟩:=eB (ty:=o3.type) a6 g.uet g.uau g.inf hz g.hb b9 (ys:=ys.map λe=>e.map .d) V UX g.a0 g.a1 (by simp) (by simpa using b5) b4.ofD Z (by simpa using l8) (by simpa using c2) id (nb:= .arr i.size ys) (by simp[B.Ei]) (λ_ q=>q.toD);simp only[al]at S;exact b0 v3 w2 L _ _ (.ref id (s.ba id+1) ys.length) H k1 k2 k4 (k5 _ _ _ b3) S c3 c4
 rw[hr]at c1
 injection c1 with c1
 subst c1;obtain⟨v3,w2,L,k1,k2,S,k4,k5⟩:=nE (ty:=o3.type) a6 g.uet g.uau g.inf hz g.hb b9 (ys:=ys.map λe=>e.map .d) V UX g.a0 g.a1 (by simp) (by simpa using b5) b4.ofD (λu hu=>D6 u hu yr) b8 Z
  (id:=i') (ba:=v0) (dv:=afi (λe:List D=>afi C.d e) dv) (mG (s:=s) c2) (by
   have:=j4.F2 (ix.me _) a9 a5;simp only[jj]at this;rw[<-c3]at this;simp only[al]
   exact this) (by simpa[c3]using c4) (nb:= .arr i.size (dv++ys)) (by simp[B.Ei]) (λ_ q=>Holds.toD (by simpa using q)) rfl
 simp only[al,c3]at S;exact b0 v3 w2 L _ _ (.ref i' v0 (n0+ys.length)) H k1 k2 k4 (k5 _ _ _ b3) S c5 c6
end
section
variable{P:Program}{B0 nt:Nat}{w0 w w':World}{G0 G G':ix}{s s' s1 s2:PS}{E E':Env}{a:Act}
theorem UK{d kp cv:Bool}{b:Nat}{op:Op}{g n:Nat}{x:ov}(h:cOp P d kp cv b op=aa (.init g n x)):False:=by
 unfold cOp at h;split at h
 all_goals(first|(simp only[ax]at h;obtain⟨y,hy,c⟩:=h;cases c;done)|skip)
 all_goals(repeat' split at h)
 all_goals(first|unfold dY at h|unfold U2 at h|skip)
 all_goals(repeat' split at h)
 all_goals(first|(cases h;done)|(simp[ax]at h;done))
theorem Fits.a7k{an:Ann}{ops:Array Oper}{o:Oper}{ri:RI}(h:Fits P nt an ops o ri):Good ri:=by
 intro g n x hx;obtain⟨f,c,rfl|⟨z,_,rfl⟩|⟨m,e,y,_,d,rfl⟩⟩:=h
 ·obtain⟨b,_⟩:=Yu c;rw[hx]at b;exact(UK b).elim
 ·cases hx
 exact d
theorem fR{an:Ann}{ops:Array Oper}:∀{L:List Oper} {l:List RI},U3 P nt an ops L=aa l->l.length=L.length/\∀(i:Nat) (o:Oper) (ri:RI),L[i]? =aa o->l[i]? =aa ri->mY P nt an ops o=aa ri:=by
 intro L
 induction L with
 |nil=>intro l h;simp only[U3,av]at h;subst h;exact⟨rfl,by simp⟩
 |cons o r e=>
  intro l h;simp only[U3]at h;split at h
  ·rename_i x j c d
   injection h with h
   subst h;obtain⟨f,g⟩:=e d;refine⟨by simp[f],λi y ri hy b=>?_⟩
   cases i with
   |zero=>simp at hy b;subst hy b;exact c
   |succ i=>simp at hy b;exact g i y ri hy b
  cases h
theorem MU{an:Ann}{ops:Array Oper}{o:Oper}{c:RI}(h:mY P nt an ops o=aa c)(l:List RI):Fits P nt an ops o (RI.ES l c):=by
 refine⟨c,h,?_⟩;unfold RI.ES;split
 ·rename_i z d b e;split
  ·exact .inr (.inl ⟨z,b,rfl⟩)
  exact .inl rfl
 ·rename_i n g x b e;split
  ·exact .inr (.inr ⟨n,g,x,b,e,rfl⟩)
  exact .inl rfl
 exact .inl rfl
def Aligned(P:Program)(nt:Nat)(an:Ann)(ops:Array Oper)(l:List RI):Prop:=l.length=ops.size/\∀(i:Nat) (o:Oper) (ri:RI),ops[i]? =aa o->l[i]? =aa ri->Fits P nt an ops o ri
theorem Xn{an:Ann}{ops:Array Oper}{l:List RI}(h:U3 P nt an ops ops.toList=aa l):Aligned P nt an ops l:=by
 obtain⟨b,c⟩:=fR h;exact⟨by simpa using b,λi o ri d e=>⟨ri,c i o ri (by simpa using d) e,.inl rfl⟩⟩
theorem wC{an:Ann}{ops:Array Oper}{l:List RI}(h:U3 P nt an ops ops.toList=aa l):Aligned P nt an ops (l.map (RI.ES l)):=by
 obtain⟨c,d⟩:=fR h;refine⟨by simpa using c,λi o ri e b=>?_⟩;simp only[dn,ax]at b;obtain⟨f,b,rfl⟩:=b;exact MU (d i o f (by simpa using e) b) l
theorem a2g(h:jw B0 w0 nt G0 s G E a w){an:Ann}{ops:Array Oper}{o:Oper}{ri:RI}(c:Fits P nt an ops o ri){i:Nat}(n:ops[i]? =aa o){s1:PS}(p:Stp P ri s s1){K:Act->World->Prop}{Q:Exit->Act->World->Prop}
  (k:∀a w,Ml B0 nt w0 G0 (· =s1) a w->K a w):wpOp P ops Q i K a w:=by
 obtain⟨ids,e,g,rfl⟩:=p;unfold wpOp;rw[n];simp only
 have l:wanted ri s=aa ag\/wanted ri s=aa true:=by rcases g with ⟨h,_⟩|⟨h,_⟩<;>simp[h]
 rcases l with b|b
 ·rw[Df h c b];rcases g with ⟨_,rfl,rfl⟩|⟨j,_⟩
  ·obtain⟨m,f,_⟩:=c.spec;refine k _ _ ⟨_,G,E,rfl,?_⟩;show jw B0 w0 nt G0 (s.put ri.dst (.d (.Bb []))) G E _ _;rw[m];exact h.nZ f S8
  rw[b]at j;cases j
 rw[Df h c b];exact .inl (V5 h c (qS b g) k)
theorem Xi(l:List RI):(fc l.length).map (λi=>l.getD i default)=l:=by
 apply wJ;intro i;simp only[dn];by_cases h:i<l.length
 ·simp[Nk h,cz,h]
 rw[nQ (by simpa using h),nQ (by simpa using h)];rfl
theorem QJ{o:RI}{r:List RI}{K:PS->Prop}(b:o.guard=ae):mc P (o::r) s K=Ig P o s λs'=>mc P r s' K:=by
 rw[Cb];unfold wanted;rw[b]
theorem JZ{an:Ann}{ops:Array Oper}{Q:Exit->Act->World->Prop}{K:PS->Prop}(U:∀a w,Ml B0 nt w0 G0 K a w->Q .normal a w):
  ∀(n:Nat) (L:List Oper) (q:Nat) {l:List RI},L.length<=n->ops.toList.drop q=L->pM P nt an ops 0 L=aa l->∀{s:PS} {G:ix} {E:Env} {a:Act} {w:World},jw B0 w0 nt G0 s G E a w->mc P l s K->wpOps P ops Q (GO q L.length) a w:=by
 intro n
 induction n with
 |zero=>
  intro L q l S J b s G E a w h d;have:L=[]:=jf (by lia);subst this;simp only[pM,av]at b;subst b;exact U _ _ ⟨s,G,E,d,h⟩
 |succ n V=>
  intro L q l S J b s G E a w h d
  cases L with
  |nil=>
   simp only[pM,av]at b;subst b;exact U _ _ ⟨s,G,E,d,h⟩
  |cons o r=>
   have at_:∀(i:Nat) (x:Oper),(o::r)[i]? =aa x->ops[q+i]? =aa x:=by
    intro i x hx;rw[<-J,pv]at hx;simpa using hx
   have next:∀i,ops.toList.drop (q+i)=(o::r).drop i:=by
    intro i;rw[<-J,JF]
   simp only[pM]at b;split at b
   ·rename_i ri B;unfold UM at B;split at B
    ·rename_i o1 o2 o3 o4 o5 p O;obtain⟨rfl,rfl⟩:=List.cons.inj O;simp only[ax]at b;obtain⟨C,b,rfl⟩:=b;have b:pM P nt an ops 0 p=aa C:=b;obtain⟨kk,sz,bytes,m,k,y,d1,d2,d3,d4,t,kt,et,e,eu,au,i,args,Fy,t5,g,rfl⟩:=GF B;rw[QJ rfl]at d;obtain⟨id,s',xv,H⟩:=d
     have c:∀a w,Ml B0 nt w0 G0 (λs'=>mc P C s' K) a w->wpOps P ops Q (GO (q+5) p.length) a w:=by
      rintro a' w' ⟨s2,G2,E2,I,F⟩;refine V p (q+5) (by simp at S;lia) (by have:=next 5;simpa using this) b F I
     have Y:=a00 h g xv H c (Q:=Q)
     have one:∀(j:Nat) (x:Oper) (T:List Nat) (A:Act) (W:World),ops[j]? =aa x->x.guard=ae->x.wp P A W (λa w=>wpOps P ops Q T a w) Q->wpOps P ops Q (j::T) A W:=by
      intro j x T A W hx R v;rw[wpOps_cons];unfold wpOp;rw[hx];simp only
      have:ado x (yielded ops A.tmps)=true:=by unfold ado;rw[R]
      rw[this];exact .inl v
     have mono:∀(x:Oper) (A:Act) (W:World) (N D:Act->World->Prop),(∀a w,N a w->D a w)->x.wp P A W N Q->x.wp P A W D Q:=by
      intro x A W N D hN hx;exact OJ hN hx
     have u:(o::o2::o3::o4::o5::p).length=p.length+5:=by simp
     rw[u]
     have f:GO q (p.length+5)=q::(q+1)::(q+2)::(q+3)::(q+4)::GO (q+5) p.length:=by
      simp[ace]
     rw[f];refine one q o _ a w (at_ 0 _ rfl) g.o1.2.2 (mono _ _ _ _ _ (λa1 w1 h1=>?_) Y);refine one (q+1) o2 _ a1 w1 (at_ 1 _ rfl) g.o2.2.2 (mono _ _ _ _ _ (λX w2 F=>?_) h1);refine one (q+2) o3 _ X w2 (at_ 2 _ rfl) g.o3.2.2 (mono _ _ _ _ _ (λa3 w3 h3=>?_) F);refine one (q+3) o4 _ a3 w3 (at_ 3 _ rfl) g.o4.2.2 (mono _ _ _ _ _ (λa4 w4 h4=>?_) h3);exact one (q+4) o5 _ a4 w4 (at_ 4 _ rfl) g.o5.2.2 h4
    cases B
   split at b
   ·rename_i ri C ho hl
    injection b with b
    subst b;have z:Fits P nt an ops o ri:=⟨ri,ho,.inl rfl⟩
    have f:GO q (o::r).length=q::GO (q+1) r.length:=by simp[ace]
    rw[f,wpOps_cons];have hi:=at_ 0 o rfl;unfold wpOp;rw[show ops[q]? =aa o from hi];simp only
    have c:∀a w,Ml B0 nt w0 G0 (λs'=>mc P C s' K) a w->wpOps P ops Q (GO (q+1) r.length) a w:=by
     rintro a' w' ⟨s',G',E',H,Z⟩;exact V r (q+1) (by simp at S;lia) (by have:=next 1;simpa using this) hl Z H
    rw[Cb]at d;split at d
    ·rename_i v;rw[Df h z v];exact .inl (V5 h z d c)
    ·rename_i v;rw[Df h z v];obtain⟨hd,M,_⟩:=z.spec;refine c _ _ ⟨_,G,E,d,?_⟩;rw[hd];exact h.nZ M S8
    exact d.elim
   cases b
theorem tV{an:Ann}{ops:Array Oper}{l:List RI}(b:pM P nt an ops 0 ops.toList=aa l){Q:Exit->Act->World->Prop}{K:PS->Prop}(h:jw B0 w0 nt G0 s G E a w)(d:mc P l s K)(c:∀a w,Ml B0 nt w0 G0 K a w->Q .normal a w){id:Nat}:
  (aew id ops ag).wp P Q a w:=by
 refine wp_region ?_;have:=JZ c ops.toList.length ops.toList 0 (bm _) (by simp) b h d;rw[x9,<-ade]at this;exact this
def Inv(s:PS)(l:List RI):Prop:=∀o∈l,∀d∈o.s8,Lh s (s.base+d)
def Far(x y:RI):Prop:=(∀d∈x.makes,d∉y.s8)/\(x.isE=ah->y.s8=[])
theorem OV{o:RI}(b:Stp P o s s1):s1.base=s.base:=by
 obtain⟨ids,e,_,rfl⟩:=b;rw[T6,(Hh ids s).1]
theorem zE{o:RI}{l:List RI}(f:Stp P o s s1)(g:Inv s l)(e:∀x∈l,Far o x):Inv s1 l:=λx hx d b=>by
 rw[OV f]
 cases c:o.isE with
 |true=>rw[(e x hx).2 c]at b;cases b
 |false=>exact NM f (g x hx d b) (λ⟨w,i,h⟩=>(e x hx).1 w h ((show d=w by lia)▸b)) c
theorem a4y{an:Ann}{ops:Array Oper}{y:RI}{c:List RI}{send:PS}(n:Good y):∀(b:List RI) {s:PS} {G:ix} {E:Env} {a:Act} {w:World},jw B0 w0 nt G0 s G E a w->(∀x∈b,∃o,Fits P nt an ops o x)->(∀x∈b,IZ x y)->
  Inv s (b++y::c)->(b++y::c).Pairwise Far->BQ P (b++y::c) s send->∃s1,Stp P y s s1/\BQ P (b++c) s1 send:=by
 intro b
 induction b with
 |nil=>intro s G E a w _ _ _ _ _ g;exact g
 |cons x b q=>
  intro s G E a w h m f d e g;obtain⟨u,hx,g⟩:=g;obtain⟨o,i⟩:=m x (by simp);obtain⟨A,v,a1,w1,p⟩:=OU h i hx;rw[qc,yh]at e;have j:Inv u (b++y::c):=zE hx (λz hz=>d z (by simp only[qc,fa];exact .inr hz)) e.1;obtain⟨s2,hy,k⟩:=q p (λz hz=>m z (by simp[hz])) (λz hz=>f z (by simp[hz])) j e.2 g;obtain⟨l,r,t⟩:=swap (f x (by simp)) i.a7k n h.wf (d x (by simp)) (d y (by simp)) hx hy;exact⟨l,r,s2,t,k⟩
theorem lQ(A:Array Bool)(i j:Nat)(d:Bool):(A.setIfInBounds i ah).getD j d=if j=i/\i<A.size then ah else A.getD j d:=by
 rw[kl,kl,a1w];by_cases h:i=j
 ·subst h;by_cases b:i<A.size
  ·simp[b]
  simp[b]
 simp[h,P8 h]
theorem Vr{A:Array Bool}{j:Nat}(h:j<A.size)(d b:Bool):A.getD j d=A.getD j b:=by simp[Array.getD,h]
end
section
variable{P:Program}{B0 nt:Nat}{w0 w w':World}{G0 G G':ix}{s s' s1 s2:PS}{E E':Env}{a:Act}
def left(n:Nat)(A:Array Bool):List Nat:=(fc n).filter λi=> !A.getD i ah
theorem mem_left{n i:Nat}{A:Array Bool}:i∈left n A<->i<n/\A.getD i ah=false:=by simp[left]
theorem N5(n:Nat)(A:Array Bool):(left n A).Pairwise (· < ·):=adi _ List.pairwise_lt_range
theorem zA{n i:Nat}{A:Array Bool}(l:i<A.size){c b:List Nat}(h:left n A=c++i::b):left n (A.setIfInBounds i ah)=c++b:=by
 have e:left n (A.setIfInBounds i ah)=(left n A).filter (λj=>j !=i):=by
  unfold left;rw[List.filter_filter]
  congr 1
  funext j
  rw[lQ];by_cases d:j=i
  ·subst d;simp[l]
  simp[d]
 have hs:=N5 n A;rw[h,sA,yh]at hs;obtain⟨_,⟨g,_⟩,k⟩:=hs;rw[e,h,Jy,Bl]
 have f:c.filter (λj=>j !=i)=c:=Qx.2 λj d=>by have:=k j d i (by simp);simp;lia
 have e2:b.filter (λj=>j !=i)=b:=Qx.2 λj d=>by have:=g j d;simp;lia
 simp[f,e2]
def VI(l:List RI)(A:Array Bool):Prop:=∀i o,A.getD i ag=ah->l[i]? =aa o->∀j∈o.after,A.getD j ag=ah
theorem wD{l:List RI}{A:Array Bool}(f:VI l A):∀(n i:Nat),(∀o,l[i]? =aa o->∀j∈o.after,A.getD j ag=ah)->∀k∈ahead l n i,A.getD k ag=true:=by
 intro n
 induction n with
 |zero=>intro i _ k b;simp[ahead]at b
 |succ n h=>
  intro i d k b;simp only[ahead]at b;split at b
  ·rename_i o e;rcases jz.1 b with b|b
   ·exact d o e k b
   obtain⟨j,g,b⟩:=K3.1 b;exact h j (λm c=>f j m (d o e j g) c) k b
  cases b
theorem FC{l:List RI}(h:Yp l=ah):∀o∈l,o.isR=false:=by
 unfold Yp at h;simp only[dc]at h;intro o b;have:=dg.1 h.1 o b;simpa using this
theorem Vx{l:List RI}(h:Yp l=ah){i:Nat}{o:RI}(b:l[i]? =aa o):(∀j∈o.after,j<i)/\∀k x,k<i->l[k]? =aa x->(x.vO o=ah\/k∈ahead l l.length i)/\x.far o=true:=by
 have c:=(bd.1 b).1;unfold Yp at h;rw[dc]at h;have h:=h.2;rw[dg]at h;have:=h i (er.2 c);simp only[b,dc,dg,er,decide_eq_true_eq]at this;obtain⟨f,g⟩:=this;refine⟨f,λk x m hx=>?_⟩;obtain⟨d,e⟩:=g k m;simp only[QT,hx,b,Oi,List.contains_iff_mem]at d;simp only[cz,hx,b,jj]at e;exact⟨d,e⟩
theorem OD{an:Ann}{ops:Array Oper}{l:List RI}(M:Aligned P nt an ops l)(C:Yp l=ah){Q:Exit->Act->World->Prop}{send:PS}(hQ:∀a w,Ml B0 nt w0 G0 (· =send) a w->Q .normal a w):
  ∀(fuel:Nat) (A:Array Bool) {s:PS} {G:ix} {E:Env} {a:Act} {w:World},A.size=ops.size->VI l A->(left l.length A).length<=fuel->jw B0 w0 nt G0 s G E a w->
  Inv s ((left l.length A).map λi=>l.getD i default)->BQ P ((left l.length A).map λi=>l.getD i default) s send->wpAny P .any ops Q fuel A a w:=by
 have S:=M.1
 have get:∀i,i<l.length->l[i]? =aa (l.getD i default):=λi b=>by simp[cz,b]
 have W:∀i,i<l.length->∃o,ops[i]? =aa o/\Fits P nt an ops o (l.getD i default):=λi b=>by
  have c:i<ops.size:=by lia
  exact⟨ops[i],bz c,M.2 i _ _ (bz c) (get i b)⟩
 have J:∀(A:Array Bool) i,i∈J7 .any ops A<->i<l.length/\A.getD i ah=ag/\∀j∈(l.getD i default).after,A.getD j ag=true:=by
  intro A i;unfold J7;simp only[ya,er,dc,ot];rw[<-S];constructor
  ·rintro⟨b,c,g⟩;obtain⟨o,U,D⟩:=W i b;refine⟨b,c,λj q=>?_⟩;rw[U]at g;simp only[jc,jj,Lu,Oi,ot]at g;rw[D.spec.2.2.2]at q;obtain⟨e,N,rfl⟩:=j6.1 q;obtain⟨a3,O⟩:=ya.1 N;rcases g e (by simpa using a3)with K|K
   ·rw[K]at O;cases O
   exact K
  rintro⟨b,c,g⟩;obtain⟨o,U,D⟩:=W i b;refine⟨b,c,?_⟩;rw[U];simp only[jc,jj,Lu,Oi,ot];intro e N;by_cases hb:ad6 .any e=ah
  ·exact .inr (g e.on (by rw[D.spec.2.2.2];exact j6.2 ⟨e,ya.2 ⟨by simpa using N,hb⟩,rfl⟩))
  exact .inl (by simpa using hb)
 have a5:∀A:Array Bool,((left l.length A).map λi=>l.getD i default).Pairwise Far:=by
  intro A;rw[U5];refine(N5 l.length A).imp_of_mem λ{k i} u b ju=>?_;have c:=(mem_left.1 u).1;have g:=(mem_left.1 b).1;have:=((Vx C (get i g)).2 k _ ju (get k c)).2;unfold RI.far at this;simp only[dc,dg,ot,adg,decide_eq_false_iff_not,Oi,List.isEmpty_iff]at this;exact⟨this.1,λN=>this.2.resolve_left (by rw[N];simp)⟩
 have ae:∀A:Array Bool,A.size=ops.size->J7 .any ops A=[]->left l.length A=[]:=by
  intro A Y V
  cases f:left l.length A with
  |nil=>rfl
  |cons i r=>
   exfalso;have b:=(mem_left (n:=l.length) (A:=A) (i:=i)).1 (by rw[f];simp)
   have:i∈J7 .any ops A:=(J A i).2 ⟨b.1,b.2,λj q=>by
    have F:=(Vx C (get i b.1)).1 j q
    have Z:j∉left l.length A:=by
     rw[f];intro H;have hs:=N5 l.length A;rw[f,yh]at hs;rcases fa.1 H with rfl|H
     ·lia
     have:=hs.1 j H;lia
    have:A.getD j ah≠false:=λh=>Z (mem_left.2 ⟨by lia,h⟩);rw[Vr (by lia) ag ah]
    simpa using this⟩
   rw[V]at this;cases this
 intro fuel
 induction fuel with
 |zero=>
  intro A s G E a w Y B D h d z;have f:left l.length A=[]:=jf (by lia)
  have V:J7 .any ops A=[]:=by
   apply VO.2;intro i b;obtain⟨c,g,_⟩:=(J A i).1 b;have:i∈left l.length A:=mem_left.2 ⟨c,g⟩;rw[f]at this;cases this
  rw[f]at z;exact⟨V,hQ _ _ ⟨s,G,E,z,h⟩⟩
 |succ fuel ih=>
  intro A s G E a w Y B D h d z;refine⟨λV=>?_,λi b=>?_⟩
  ·rw[ae A Y V]at z;exact hQ _ _ ⟨s,G,E,z,h⟩
  obtain⟨c,g,K⟩:=(J A i).1 b;obtain⟨I,a6,f⟩:=nS (mem_left.2 ⟨c,g⟩);obtain⟨o,U,R⟩:=W i c;have hs:=N5 l.length A;rw[f,sA]at hs
  have L:∀k∈I,k<i/\k<l.length/\A.getD k ah=false:=λk u=>by
   have T:=(mem_left (n:=l.length) (A:=A) (i:=k)).1 (by rw[f];simp[u]);exact⟨hs.2.2 k u i (by simp),T.1,T.2⟩
  have y:∀x∈I.map (λi=>l.getD i default),IZ x (l.getD i default):=by
   intro x hx;obtain⟨k,u,rfl⟩:=j6.1 hx;obtain⟨k1,k2,k3⟩:=L k u;rcases((Vx C (get i c)).2 k _ k1 (get k k2)).1 with a0|a1
   ·exact RI.vN a0
   exfalso
   have:=wD B l.length i (λo' t j q=>by
    rw[get i c]at t
    injection t with t
    subst t
    exact K j q) k a1
   rw[Vr (by lia) ag ah,k3]at this;cases this
  have X:=a5 A;rw[f,fj,du]at d z X
  obtain⟨s1,xv,a2⟩:=a4y (an:=an) (ops:=ops) R.a7k (I.map λi=>l.getD i default) h (λx hx=>by
   obtain⟨k,u,rfl⟩:=j6.1 hx;obtain⟨o',_,a4⟩:=W k (L k u).2.1
   exact⟨o',a4⟩) y d X z
  refine a2g h R U xv ?_;rintro a' w' ⟨s',G',E',rfl,h'⟩;have v:=zA (by lia) f;refine ih _ (by simpa using Y) ?_ (by rw[v];rw[f]at D;simp at D|-;lia) h' ?_ ?_
  ·intro j oj q p m T;rw[lQ]at q|-;split
   ·rfl
   by_cases F:j=i
   ·subst F;rw[get j c]at p
    injection p with p
    subst p;exact K m T
   rw[aq (by simp[F])]at q;exact B j oj q p m T
  ·rw[v,fj];rw[sA,yh]at X;refine zE xv (λx hx=>d x ?_) (λx hx=>?_)
   ·rcases jz.1 hx with hx|hx
    ·exact sE _ hx
    exact nP _ (sD _ hx)
   rcases jz.1 hx with hx|hx
   ·exact⟨(y x hx).aay,(y x hx).a7o⟩
   exact X.2.1.1 x hx
  rw[v,fj];exact a2
theorem FB{an:Ann}{ops:Array Oper}{l:List RI}(b:Aligned P nt an ops l)(c:Yp l=ah)(q:P.follows .mixedOrders=ah){Q:Exit->Act->World->Prop}{K:PS->Prop}(h:jw B0 w0 nt G0 s G E a w)
  (p:∀d∈s8 l,Lh s (s.base+d))(t:mc P l s K)(m:∀a w,Ml B0 nt w0 G0 K a w->Q .normal a w){id:Nat}:(aew id ops ah).wp P Q a w:=by
 obtain⟨send,n,k⟩:=CX (FC c) t
 have f:left l.length (iK ops.size ag)=fc l.length:=by
  unfold left;refine Qx.2 λi e=>?_;have:=er.1 e;rw[kl,Xy,bc (by rw[<-b.1];exact this)];rfl
 refine wp_region_any q (OD b c (send:=send) (λa w ⟨s',G',E',hs,j⟩=>m a w ⟨s',G',E',hs▸k,j⟩) _ _ (by simp) ?_ ?_ (w:={w with drawn:=w.drawn+1}) (s:=s) (G:=G) (E:=E) ?_ ?_ ?_)
 ·intro i o e _;rw[kl,Xy]at e;split at e<;>cases e
 ·rw[f];simp[b.1]
 ·exact h.drew
 ·rw[f,Xi];exact λo r d g=>p d (K3.2 ⟨o,r,g⟩)
 rw[f,Xi];exact n
end
section
variable{P:Program}{B0 nt:Nat}{w0 w w':World}{G0 G G':ix}{s s' s1 s2:PS}{E E':Env}{a:Act}
theorem T0(ids:List Nat)(s:PS):(s.x7 ids).base=s.base:=by
 cases ids with
 |nil=>rfl
 |cons i r=>exact(Hh (i::r) _).1
theorem jT{f:Nat}{args:List V}{j9:List D}{own:Bool}{d:Option Nat}{K b:PS->Prop}(j:∀s,K s->b s)(h:Gt P f args j9 own d s K):Gt P f args j9 own d s b:=by
 obtain⟨ds,r,c,e,g,i⟩:=h;exact⟨ds,r,c,e,g,j _ i⟩
theorem jO{o:RI}{K k:PS->Prop}(e:∀s,K s->k s)(h:Ig P o s K):Ig P o s k:=by
 unfold Ig at h|-;split
 ·rename_i b;rw[b]at h;obtain⟨id,s',c,d⟩:=h;exact⟨id,s',c,e _ d⟩
 ·rename_i f args b;rw[b]at h;obtain⟨R,c,d⟩:=h;exact⟨R,c,λm' r j=>e _ (d m' r j)⟩
 ·rename_i f args b;rw[b]at h;simp only at h|-;split
  ·rename_i g j9 hs;rw[hs]at h;obtain⟨R,c,d⟩:=h;exact⟨R,c,λm' r j=>e _ (d m' r j)⟩
  rename_i i;split at h
  ·rename_i g j9 hs;exact absurd hs (i g j9)
  exact h
 ·rename_i f args b;rw[b]at h;obtain⟨m',r,c,d⟩:=h;exact⟨m',r,c,e _ d⟩
 ·rename_i f args b;rw[b]at h;obtain⟨r,c,d⟩:=h;exact⟨r,c,e _ d⟩
 ·rename_i f args b;rw[b]at h;simp only at h|-;split
  ·rename_i g j9 hs;rw[hs]at h;obtain⟨m',r,c,d⟩:=h;exact⟨m',r,c,e _ d⟩
  rename_i i;split at h
  ·rename_i g j9 hs;exact absurd hs (i g j9)
  exact h
 ·rename_i f args b;rw[b]at h;exact jT e h
 ·rename_i f args b;rw[b]at h;simp only at h|-;split
  ·rename_i g j9 hs;rw[hs]at h;exact jT e h
  rename_i i;split at h
  ·rename_i g j9 hs;exact absurd hs (i g j9)
  exact h
 rename_i l c d m n p q t;split at h
 ·rename_i b;exact absurd b (l _ _ _ _ _ _ _)
 ·rename_i f args b;exact absurd b (c f args)
 ·rename_i f args b;exact absurd b (d f args)
 ·rename_i f args b;exact absurd b (m f args)
 ·rename_i f args b;exact absurd b (n f args)
 ·rename_i f args b;exact absurd b (p f args)
 ·rename_i f args b;exact absurd b (q f args)
 ·rename_i f args b;exact absurd b (t f args)
 split at h
 ·exact e _ h
 exact h.elim
theorem qM:∀{l:List RI} {s:PS} {K c:PS->Prop},(∀s,K s->c s)->mc P l s K->mc P l s c:=by
 intro l
 induction l with
 |nil=>intro s K c d h;exact d s h
 |cons o r e=>
  intro s K c d h;rw[Cb]at h|-;split
  ·rename_i b;rw[b]at h;exact jO (λs=>e d) h
  ·rename_i b;rw[b]at h;exact e d h
  rename_i b;rw[b]at h;exact h
theorem H8:∀{c:eh} {s:PS} {Q f:Exit->PS->Prop},(∀e s,Q e s->f e s)->l7 P c Q s->l7 P c f s:=by
 intro c
 induction c with
 |skip=>intro s Q f b h;exact b _ _ h
 |region ops d v=>intro s Q f b h;exact qM (b .normal) h
 |seq x y j k=>
  intro s Q f b h
  exact j (λe s' g=>by cases e<;>first|exact k b g|exact b _ _ g) h
 |cond c x y j k=>
  intro s Q f b h;simp only[l7]at h|-;split at h
  ·split at h
   ·rename_i hx;simp only[hx,da];exact j b h
   rename_i hx;simp only[hx,gp,bp];exact k b h
  exact h.elim
 |block id c r=>
  intro s Q f b h;refine r (λe s' g=>?_) h
  cases e with
  |exit i=>
   simp only at g|-;split
   ·rename_i q;rw[bc q]at g;exact b _ _ g
   rename_i q;rw[aq q]at g;exact b _ _ g
  |_=>exact b _ _ g
 |loop c r=>
  intro s Q f b h;obtain⟨I,m,p,n⟩:=h
  exact⟨I,m,p,λs' o=>r (λe u g=>by cases e<;>first|exact g|exact b _ _ g) (n s' o)⟩
 |freeze=>intro s Q f b h;obtain⟨ids,h⟩:=h;exact⟨ids,b _ _ h⟩
 |AA l=>intro s Q f b h;obtain⟨I,p,n⟩:=h;exact⟨I,p,λA s' o=>⟨λt=>b _ _ ((n A s' o).1 t),(n A s' o).2⟩⟩
 |both x y j k=>intro s Q f b h;exact⟨j b h.1,k b h.2⟩
 |exit id=>intro s Q f b h;exact b _ _ h
 |ret=>intro s Q f b h;exact b _ _ h
def VG(Q:Exit->PS->Prop):Exit->PS->Prop
 | .goto _,_=>False
 |e,s=>Q e s
theorem CW:∀{c:eh} {s:PS} {Q:Exit->PS->Prop},l7 P c Q s->l7 P c (VG Q) s:=by
 intro c
 induction c with
 |skip=>intro s Q h;exact h
 |region ops d r=>intro s Q h;exact h
 |seq x y f g=>
  intro s Q h;rw[Qg];refine H8 (λe s' b=>?_) (f h)
  cases e<;>first|exact b.elim|exact g b|exact b
 |cond c x y f g=>
  intro s Q h;simp only[l7]at h|-;split at h
  ·split at h
   ·rename_i hx;simp only[hx,da];exact f h
   rename_i hx;simp only[hx,gp,bp];exact g h
  exact h.elim
 |block id c k=>
  intro s Q h;rw[bS];refine H8 (λe s' b=>?_) (k h)
  cases e with
  |exit i=>
   simp only[VG]at b|-;split
   ·rename_i j;rw[bc j]at b;exact b
   rename_i j;rw[aq j]at b;exact b
  |goto l=>exact b.elim
  |_=>exact b
 |loop c k=>
  intro s Q h;obtain⟨I,m,n,o⟩:=h;refine⟨I,m,n,λs' p=>H8 (λe q b=>?_) (k (o s' p))⟩
  cases e<;>first|exact b.elim|exact b
 |freeze=>intro s Q h;exact h
 |AA l=>intro s Q h;exact h
 |both x y f g=>intro s Q h;exact⟨f h.1,g h.2⟩
 |exit id=>intro s Q h;exact h
 |ret=>intro s Q h;exact h
theorem tQ(r:P.follows .mixedOrders=ah){an:Ann}{id:Nat}{ops:Array Oper}{c:Bool}{o:eh}(b:vS P nt an id ops c=aa o){Q:Exit->PS->Prop}(h:jw B0 w0 nt G0 s G E a w)(n:l7 P o Q s):
  (aew id ops c).wp P (λe a w=>Ml B0 nt w0 G0 (Q e) a w) a w:=by
 unfold vS at b;split at b
 ·rename_i f;split at b
  ·rename_i l m
   injection b with b
   subst b f;obtain⟨p,_,g⟩:=h.x7 (sh s.base ((an.x7.lookup id).getD []));exact tV m g n (λ_ _ k=>k)
  cases b
 rename_i f;split at b
 ·rename_i l m;split at b
  ·rename_i j
   injection b with b
   subst b
   have i:c=true:=by simpa using f
   subst i;obtain⟨p,_,g⟩:=h.x7 (sh s.base ((an.x7.lookup id).getD []));obtain⟨v,_,q,_⟩:=g.vz (sh s.base (s8 (l.map (RI.ES l))))
   exact FB (wC m) j r q (λd f=>by
    rw[Vz]
    have hb:PS.base ((s.x7 (sh s.base ((an.x7.lookup id).getD []))).vz (sh s.base (s8 (l.map (RI.ES l)))))=s.base:=by
     rw[(Hh _ _).1,T0]
    rw[hb];obtain⟨t,u⟩:=QQ _ (s.x7 (sh s.base ((an.x7.lookup id).getD []))) (s.base+d) (.inl (j6.2 ⟨d,f,rfl⟩))
    exact⟨.inl t,u⟩) n (λ_ _ k=>k)
  cases b
 cases b
theorem NV:∀{L:List eh} {Q:Exit->PS->Prop} {s:PS},l7 P (UP L) Q s->∀x∈L,l7 P x Q s:=by
 intro L
 induction L with
 |nil=>intro Q s _ x hx;simp at hx
 |cons y r b=>
  intro Q s h x hx
  cases r with
  |nil=>simp only[Q9]at hx;subst hx;exact h
  |cons z t=>
   rcases fa.1 hx with rfl|hx
   ·exact h.1
   exact b h.2 x hx
theorem BX{an:Ann}{ops:Array Oper}{l:List RI}(g:Aligned P nt an ops l){Q:Exit->PS->Prop}:
  ∀(fuel:Nat) (A:Array Bool) {r:eh} {s:PS} {G:ix} {E:Env} {a:Act} {w:World},BH ops l fuel A=aa r->jw B0 w0 nt G0 s G E a w->l7 P r Q s->wpAny P .any ops (λe a w=>Ml B0 nt w0 G0 (Q e) a w) fuel A a w:=by
 intro fuel
 induction fuel with
 |zero=>
  intro A r s G E a w b h q;simp only[BH]at b;split at b
  ·rename_i j
   injection b with b
   subst b;exact⟨j,s,G,E,q,h⟩
  cases b
 |succ n O=>
  intro A r s G E a w b h q;simp only[BH]at b;split at b
  ·rename_i j
   injection b with b
   subst b;refine⟨λ_=>⟨s,G,E,q,h⟩,λi f=>?_⟩;rw[j]at f;simp at f
  rename_i j;simp only[ax]at b;obtain⟨L,J,rfl⟩:=b;obtain⟨R,S⟩:=Zk J;refine⟨λH=>absurd H j,λi f=>?_⟩;obtain⟨p,D,z⟩:=j0.1 f
  have y:p<L.length:=by simpa[R]using D
  have x:=S p L[p] (bh y);rw[dn,bh D,z]at x;simp only[jc,av,ax]at x;obtain⟨t,N,u⟩:=x;have m:=NV q L[p] (dj _);rw[<-u,Qg]at m
  have C:i<ops.size:=by
   unfold J7 at f;simp only[ya,er]at f;exact f.1
  have k:i<l.length:=by rw[g.1];exact C
  have M:l.getD i default=l[i]:=by simp[cz,k]
  have o:=g.2 i ops[i] l[i] (bz C) (bh k)
  have c:mc P [l[i]] s (λs'=>l7 P t Q s'):=by rw[<-M];exact m
  rw[Cb]at c;unfold wpOp;rw[bz C];simp only
  have d:∀a w,Ml B0 nt w0 G0 (λs'=>l7 P t Q s') a w->wpAny P .any ops (λe a w=>Ml B0 nt w0 G0 (Q e) a w) n (A.setIfInBounds i ah) a w:=by
   rintro a' w' ⟨s',G',E',I,F⟩;exact O _ N F I
  split at c
  ·rename_i B;rw[Df h o B];exact .inl (V5 h o c d)
  ·rename_i B;rw[Df h o B];obtain⟨K,v,_⟩:=o.spec;refine d _ _ ⟨_,G,E,c,?_⟩;rw[K];exact h.nZ v S8
  exact c.elim
theorem LS(f:P.follows .mixedOrders=ah){an:Ann}{id:Nat}{ops:Array Oper}{c:eh}(b:a4v P nt an ops=aa c){Q:Exit->PS->Prop}(h:jw B0 w0 nt G0 s G E a w)(g:l7 P c Q s):
  (aew id ops ah).wp P (λe a w=>Ml B0 nt w0 G0 (Q e) a w) a w:=by
 unfold a4v at b;split at b
 ·rename_i l d;exact wp_region_any f (BX (Xn d) _ _ b (w:={w with drawn:=w.drawn+1}) h.drew g)
 cases b
theorem ER{an:Ann}{ops:Array Oper}{l:List RI}(z:Aligned P nt an ops l)(ju:∀(i:Nat) (o:RI),l[i]? =aa o->∀j∈o.after,j<i){Q:Exit->PS->Prop}{I:(Nat->Bool)->PS->Prop}
  (R:∀A s',I A s'->((∀i,i<l.length->A i=ah)->Q .normal s')/\∀i o,l[i]? =aa o->A i=ag->(∀j∈o.after,A j=ah)->mc P [o] s' (I (lu A i ah))):
  ∀(fuel:Nat) (A:Array Bool) {s:PS} {G:ix} {E:Env} {a:Act} {w:World},A.size=ops.size->(left l.length A).length<=fuel->jw B0 w0 nt G0 s G E a w->I (λj=>A.getD j ag) s->
  wpAny P .any ops (λe a w=>Ml B0 nt w0 G0 (Q e) a w) fuel A a w:=by
 have C:=z.1
 have get:∀i,i<l.length->l[i]? =aa (l.getD i default):=λi b=>by simp[cz,b]
 have H:∀i,i<l.length->∃o,ops[i]? =aa o/\Fits P nt an ops o (l.getD i default):=λi b=>by
  have c:i<ops.size:=by lia
  exact⟨ops[i],bz c,z.2 i _ _ (bz c) (get i b)⟩
 have x:∀(A:Array Bool) i,i∈J7 .any ops A<->i<l.length/\A.getD i ah=ag/\∀j∈(l.getD i default).after,A.getD j ag=true:=by
  intro A i;unfold J7;simp only[ya,er,dc,ot];rw[<-C];constructor
  ·rintro⟨b,c,g⟩;obtain⟨o,D,u⟩:=H i b;refine⟨b,c,λj p=>?_⟩;rw[D]at g;simp only[jc,jj,Lu,Oi,ot]at g;rw[u.spec.2.2.2]at p;obtain⟨e,M,rfl⟩:=j6.1 p;obtain⟨N,B⟩:=ya.1 M;rcases g e (by simpa using N)with y|y
   ·rw[y]at B;cases B
   exact y
  rintro⟨b,c,g⟩;obtain⟨o,D,u⟩:=H i b;refine⟨b,c,?_⟩;rw[D];simp only[jc,jj,Lu,Oi,ot];intro e M;by_cases hb:ad6 .any e=ah
  ·exact .inr (g e.on (by rw[u.spec.2.2.2];exact j6.2 ⟨e,ya.2 ⟨by simpa using M,hb⟩,rfl⟩))
  exact .inl (by simpa using hb)
 have ae:∀A:Array Bool,A.size=ops.size->J7 .any ops A=[]->left l.length A=[]:=by
  intro A t F
  cases d:left l.length A with
  |nil=>rfl
  |cons i r=>
   exfalso;have b:=(mem_left (n:=l.length) (A:=A) (i:=i)).1 (by rw[d];simp)
   have:i∈J7 .any ops A:=(x A i).2 ⟨b.1,b.2,λj p=>by
    have Y:=ju i _ (get i b.1) j p
    have J:j∉left l.length A:=by
     rw[d];intro v;have hs:=N5 l.length A;rw[d,yh]at hs;rcases fa.1 v with rfl|v
     ·lia
     have:=hs.1 j v;lia
    have:A.getD j ah≠false:=λh=>J (mem_left.2 ⟨by lia,h⟩);rw[Vr (by lia) ag ah]
    simpa using this⟩
   rw[F]at this;cases this
 have done:∀(A:Array Bool) {s:PS},A.size=ops.size->left l.length A=[]->I (λj=>A.getD j ag) s->Q .normal s:=by
  intro A s t d h;refine(R _ s h).1 λi b=>?_
  have:A.getD i ah≠false:=λX=>by
   have:=(mem_left (n:=l.length) (A:=A) (i:=i)).2 ⟨b,X⟩;rw[d]at this;cases this
  show A.getD i ag=ah;rw[Vr (by lia) ag ah];simpa using this
 intro fuel
 induction fuel with
 |zero=>
  intro A s G E a w t u h k;have d:left l.length A=[]:=jf (by lia)
  have F:J7 .any ops A=[]:=by
   apply VO.2;intro i b;obtain⟨c,g,_⟩:=(x A i).1 b;have:i∈left l.length A:=mem_left.2 ⟨c,g⟩;rw[d]at this;cases this
  exact⟨F,s,G,E,done A t d k,h⟩
 |succ fuel Z=>
  intro A s G E a w t u h k;refine⟨λF=>⟨s,G,E,done A t (ae A t F) k,h⟩,λi b=>?_⟩;obtain⟨c,g,y⟩:=(x A i).1 b;obtain⟨a0,S,d⟩:=nS (mem_left.2 ⟨c,g⟩);obtain⟨o,D,m⟩:=H i c;have f:=(R _ s k).2 i _ (get i c) (by show A.getD i ag=ag;rw[Vr (by lia) ag ah];exact g) y
  have T:(λj=>(A.setIfInBounds i ah).getD j ag)=lu (λj=>A.getD j ag) i true:=by
   funext j
   rw[lQ];unfold lu;by_cases p:j=i
   ·subst p;rw[bc ⟨rfl,by lia⟩,bc rfl]
   rw[aq (by simp[p]),aq p]
  have K:=zA (by lia) d
  have q:∀a w,Ml B0 nt w0 G0 (I (lu (λj=>A.getD j ag) i ah)) a w->wpAny P .any ops (λe a w=>Ml B0 nt w0 G0 (Q e) a w) fuel (A.setIfInBounds i ah) a w:=by
   rintro a' w' ⟨s',G',E',V,U⟩;exact Z _ (by simpa using t) (by rw[K];rw[d]at u;simp at u|-;lia) U (by rw[T];exact V)
  rw[Cb]at f;unfold wpOp;rw[D];simp only;split at f
  ·rename_i O;rw[Df h m O];exact .inl (V5 h m f q)
  ·rename_i O;rw[Df h m O];obtain⟨W,L,_⟩:=m.spec;refine q _ _ ⟨_,G,E,f,?_⟩;rw[W];exact h.nZ L S8
  exact f.elim
theorem zZ(r:P.follows .mixedOrders=ah){an:Ann}{id:Nat}{ops:Array Oper}{g:eh}(b:UO P nt an ops=aa g){Q:Exit->PS->Prop}(h:jw B0 w0 nt G0 s G E a w)(t:l7 P g Q s):
  (aew id ops ah).wp P (λe a w=>Ml B0 nt w0 G0 (Q e) a w) a w:=by
 unfold UO at b;split at b
 ·rename_i l q;split at b
  ·rename_i u
   injection b with b
   subst b;obtain⟨I,m,n⟩:=t;have c:=Xn q
   have k:left l.length (iK ops.size ag)=fc l.length:=by
    unfold left;refine Qx.2 λi d=>?_;have:=er.1 d;rw[kl,Xy,bc (by rw[<-c.1];exact this)];rfl
   refine wp_region_any r (ER c (λi o f j p=>?_) n _ _ (by simp) (by rw[k];simp[c.1]) (w:={w with drawn:=w.drawn+1}) h.drew ?_)
   ·have d:=(bd.1 f).1;have:=dg.1 u i (er.2 d)
    have e:l.getD i default=o:=by simp[cz,f]
    rw[e]at this;exact of_decide_eq_true (dg.1 this j p)
   have e:(λj=>(iK ops.size ag).getD j ag)=λ_=>false:=by
    funext j
    rw[kl,Xy];split<;>rfl
   rw[e];exact m
  cases b
 cases b
theorem Ys(K:P.follows .mixedOrders=ah){an:Ann}:∀(c:Code) {o:eh},comp P nt an c=aa o->∀{Q:Exit->PS->Prop} {s:PS} {G:ix} {E:Env} {a:Act} {w:World},jw B0 w0 nt G0 s G E a w->l7 P o Q s->
  c.wp P (λe a w=>Ml B0 nt w0 G0 (Q e) a w) a w:=by
 intro c
 induction c with
 |skip=>intro o d Q s G E a w h g;simp only[comp,av]at d;subst d;exact wp_skip ⟨s,G,E,g,h⟩
 |label l=>intro o d Q s G E a w h g;simp only[comp,av]at d;subst d;exact wp_label ⟨s,G,E,g,h⟩
 |exit id=>intro o d Q s G E a w h g;simp only[comp,av]at d;subst d;exact wp_exit ⟨s,G,E,g,h⟩
 |ret=>intro o d Q s G E a w h g;simp only[comp,av]at d;subst d;exact wp_ret ⟨s,G,E,g,h⟩
 |region id ops C=>
  intro o d Q s G E a w h g;simp only[comp,ax]at d;obtain⟨r,d,rfl⟩:=d
  have M:∀{s:PS} {G:ix},jw B0 w0 nt G0 s G E a w->l7 P r Q s->(aew id ops C).wp P (λe a w=>Ml B0 nt w0 G0 (Q e) a w) a w:=by
   intro s G h g;split at d
   ·rename_i j;rw[j.1];exact zZ K d h g
   split at d
   ·rename_i j;rw[j.1];exact LS K d h g
   exact tQ K d h g
  split at g
  ·obtain⟨ids,g⟩:=g;obtain⟨Y,_,H⟩:=h.x7 ids;exact M H g
  exact M h g
 |seq x y t u=>
  intro o d Q s G E a w h g;simp only[comp]at d;split at d
  ·rename_i rx V hx hy
   injection d with d
   subst d;refine wp_seq (wp_mono (t hx h g) λe a' w' q=>?_);obtain⟨s',G',E',k,p⟩:=q
   cases e with
   |normal=>exact u hy p k
   |_=>exact⟨s',G',E',k,p⟩
  cases d
 |cond c x y t u=>
  intro o d Q s G E a w h g;simp only[comp]at d;split at d
  ·rename_i Z rx V U hx hy
   injection d with d
   subst d;have L:=h.ev U;simp only[l7]at g;split at g
   ·rename_i b hb;rw[hb]at L
    have S:a.eval c= .bool b:=by
     generalize a.eval c=v at L;cases L;rfl
    refine wp_cond S ?_
    cases b with
    |true=>exact t hx h (by simpa using g)
    |false=>exact u hy h (by simpa using g)
   exact g.elim
  cases d
 |block id c F=>
  intro o d Q s G E a w h g;simp only[comp,ax]at d;obtain⟨r,d,rfl⟩:=d;refine wp_block (wp_mono (F d h g) λe a' w' q=>?_);obtain⟨s',G',E',k,p⟩:=q
  cases e with
  |exit i=>
   simp only[Exit.inBlock]at k|-;split
   ·rename_i J;rw[bc J]at k;exact⟨s',G',E',k,p⟩
   rename_i J;rw[aq J]at k;exact⟨s',G',E',k,p⟩
  |_=>exact⟨s',G',E',k,p⟩
 |loop c F=>
  intro o d Q s G E a w h g;simp only[comp,ax]at d;obtain⟨r,d,rfl⟩:=d;obtain⟨I,m,O,H⟩:=g;refine wp_loop_ghost (λn a w=>Ml B0 nt w0 G0 (λs=>I s/\m s=n) a w) (m s) ⟨s,G,E,⟨O,rfl⟩,h⟩ ?_;rintro n a' w' ⟨s',G',E',⟨R,T⟩,p⟩;refine wp_mono (F d p (H s' R)) λe N W q=>?_;obtain⟨z,B,A,k,D⟩:=q
  cases e with
  |normal=>exact⟨m z,by lia,z,B,A,⟨k.1,rfl⟩,D⟩
  |_=>exact⟨z,B,A,k,D⟩
 |scope c F=>
  intro o d Q s G E a w h g;simp only[comp]at d;refine wp_scope_straight (wp_mono (F d h (CW g)) λe a' w' q=>?_);obtain⟨s',G',E',k,p⟩:=q
  cases e with
  |goto l=>exact k.elim
  |_=>exact⟨s',G',E',k,p⟩
 |rangeFunc f ps x y _ _=>intro o d;cases d
 |goto l=>intro o d;cases d
 |refuse X=>intro o d;cases d
end
section
variable{P:Program}{s:PS}
theorem vE(ids:List Nat)(s:PS):(s.x7 ids).ctx=s.ctx:=by
 cases ids with
 |nil=>rfl
 |cons i r=>exact(Hh (i::r) _).2
def a1p(c:Nat->V×Value)(K:PS->Prop):PS->Prop:=λs'=>K s'/\s'.ctx=c
theorem LB{o:RI}{K:PS->Prop}(h:Ig P o s K):Ig P o s (a1p s.ctx K):=by
 unfold Ig at h|-;split
 ·rename_i q sz bytes x k y ts a;rw[a]at h;obtain⟨id,s',b,c⟩:=h;refine⟨id,s',b,c,?_⟩
  have e:s'.ctx=s.ctx:=by
   obtain⟨_,_,m,ba,key,es,ys,osz,_,_,_,_,_,_,_,_,z⟩:=b;rcases z with ⟨_,_,n,_,rfl⟩|⟨i,v0,n0,dv,_,_,_,_,n,_,rfl⟩<;>rfl
  rw[<-e];cases o.dst<;>rfl
 ·rename_i f args a;rw[a]at h;obtain⟨R,b,c⟩:=h;exact⟨R,b,λm' r p=>⟨c m' r p,by cases o.dst<;>rfl⟩⟩
 ·rename_i f args a;rw[a]at h;simp only at h|-;split
  ·rename_i g j9 hs;rw[hs]at h;obtain⟨R,b,c⟩:=h;exact⟨R,b,λm' r p=>⟨c m' r p,by cases o.dst<;>rfl⟩⟩
  rename_i d;split at h
  ·rename_i g j9 hs;exact absurd hs (d g j9)
  exact h
 ·rename_i f args a;rw[a]at h;obtain⟨m',r,b,c⟩:=h;exact⟨m',r,b,c,by cases o.dst<;>rfl⟩
 ·rename_i f args a;rw[a]at h;obtain⟨r,b,c⟩:=h;exact⟨r,b,c,by cases o.dst<;>rfl⟩
 ·rename_i f args a;rw[a]at h;simp only at h|-;split
  ·rename_i g j9 hs;rw[hs]at h;obtain⟨m',r,b,c⟩:=h;exact⟨m',r,b,c,by cases o.dst<;>rfl⟩
  rename_i d;split at h
  ·rename_i g j9 hs;exact absurd hs (d g j9)
  exact h
 ·rename_i f args a;rw[a]at h;obtain⟨ds,r,b,c,j,l⟩:=h;exact⟨ds,r,b,c,j,l,by cases o.dst<;>rfl⟩
 ·rename_i f args a;rw[a]at h;simp only at h|-;split
  ·rename_i g j9 hs;rw[hs]at h;obtain⟨ds,r,b,c,j,l⟩:=h;exact⟨ds,r,b,c,j,l,by cases o.dst<;>rfl⟩
  rename_i d;split at h
  ·rename_i g j9 hs;exact absurd hs (d g j9)
  exact h
 rename_i t b c j l u v w;split at h
 ·rename_i q sz bytes x k y ts a;exact absurd a (t q sz bytes x k y ts)
 ·rename_i f args a;exact absurd a (b f args)
 ·rename_i f args a;exact absurd a (c f args)
 ·rename_i f args a;exact absurd a (j f args)
 ·rename_i f args a;exact absurd a (l f args)
 ·rename_i f args a;exact absurd a (u f args)
 ·rename_i f args a;exact absurd a (v f args)
 ·rename_i f args a;exact absurd a (w f args)
 split at h
 ·exact⟨h,by rw[aY,(Hh _ _).2]⟩
 exact h.elim
theorem xT:∀{l:List RI} {s:PS} {K:PS->Prop},mc P l s K->mc P l s (a1p s.ctx K):=by
 intro l
 induction l with
 |nil=>intro s K h;exact⟨h,rfl⟩
 |cons o r b=>
  intro s K h;rw[Cb]at h|-;split
  ·rename_i a;rw[a]at h;refine jO ?_ (LB h);rintro s' ⟨c,f⟩;have:=b c;rw[f]at this;exact this
  ·rename_i a;rw[a]at h;have:=b h
   have e:(s.put o.dst (.d (.Bb []))).ctx=s.ctx:=by cases o.dst<;>rfl
   rw[e]at this;exact this
  rename_i a;rw[a]at h;exact h
def a8g(c:Nat->V×Value)(Q:Exit->PS->Prop):Exit->PS->Prop:=λe s'=>Q e s'/\s'.ctx=c
theorem tL:∀{c:eh} {s:PS} {Q:Exit->PS->Prop},l7 P c Q s->l7 P c (a8g s.ctx Q) s:=by
 intro c
 induction c with
 |skip=>intro s Q h;exact⟨h,rfl⟩
 |region ops d n=>
  intro s Q h;have:=xT (s:=if d=ah then(s.x7 (sh s.base n)).vz (sh s.base (s8 ops))else s.x7 (sh s.base n)) h
  have e:(if d=ah then(s.x7 (sh s.base n)).vz (sh s.base (s8 ops))else s.x7 (sh s.base n)).ctx=s.ctx:=by
   split
   ·rw[(Hh _ _).2,vE]
   rw[vE]
  rw[e]at this;exact this
 |seq x y b f=>
  intro s Q h;rw[Qg];refine H8 (λe s' k=>?_) (b h);obtain⟨a,j⟩:=k
  cases e with
  |normal=>
   have:=f a;rw[j]at this;exact this
  |_=>exact⟨a,j⟩
 |cond c x y b f=>
  intro s Q h;simp only[l7]at h|-;split at h
  ·split at h
   ·rename_i hx;simp only[hx,da];exact b h
   rename_i hx;simp only[hx,gp,bp];exact f h
  exact h.elim
 |block id c u=>
  intro s Q h;rw[bS];refine H8 (λe s' k=>?_) (u h);obtain⟨a,j⟩:=k
  cases e with
  |exit i=>
   simp only at a|-;split
   ·rename_i t;rw[bc t]at a;exact⟨a,j⟩
   rename_i t;rw[aq t]at a;exact⟨a,j⟩
  |_=>exact⟨a,j⟩
 |loop c u=>
  intro s Q h;obtain⟨I,m,p,a⟩:=h;refine⟨λs'=>I s'/\s'.ctx=s.ctx,m,⟨p,rfl⟩,λs' g=>H8 (λe B k=>?_) (u (a s' g.1))⟩;obtain⟨v,w⟩:=k;rw[g.2]at w
  cases e with
  |normal=>exact⟨⟨v.1,w⟩,v.2⟩
  |_=>exact⟨v,w⟩
 |freeze=>intro s Q ⟨ids,h⟩;exact⟨ids,h,vE ids s⟩
 |AA l=>
  intro s Q ⟨I,p,a⟩;refine⟨λA s'=>I A s'/\s'.ctx=s.ctx,⟨p,rfl⟩,λA s' g=>⟨λq=>⟨(a A s' g.1).1 q,g.2⟩,λi o z q r=>?_⟩⟩;have:=xT ((a A s' g.1).2 i o z q r);rw[g.2]at this;exact this
 |both x y b f=>intro s Q h;exact⟨b h.1,f h.2⟩
 |exit id=>intro s Q h;exact⟨h,rfl⟩
 |ret=>intro s Q h;exact⟨h,rfl⟩
end
def GC(P:Program):ResultVar->Option K1
 | .tmp t=>aa (.tmp t)
 | .cell a t=>match lx P t,C1 P t with
  |some n,aa g=>if g=ah\/n=1 then aa (.cell a n g)else ae
  |_,_=>ae
def Ue(P:Program):List ResultVar->Option (List K1)
 |[]=>aa []
 |r::l=>match GC P r,Ue P l with
  |some x,aa y=>aa (x::y)
  |_,_=>ae
def RI.bare(o:RI):RI:=⟨o.dst,o.op,o.guard,[]⟩
def eh.bare:eh->eh
 | .region l d f=> .region (l.map RI.bare) d f
 | .seq a b=> .seq a.bare b.bare
 | .cond c a b=> .cond c a.bare b.bare
 | .block i c=> .block i c.bare
 | .loop c=> .loop c.bare
 | .both a b=> .both a.bare b.bare
 | .skip=> .skip
 | .freeze=> .freeze
 | .AA l=> .AA l
 | .exit i=> .exit i
 | .ret=> .ret
theorem bU{P:Program}{K:PS->Prop}:∀(l:List RI) (s:PS),mc P (l.map RI.bare) s K=mc P l s K
 |[],_=>rfl
 |o::l,s=>by
  rw[du,Cb,Cb];have b:wanted o.bare s=wanted o s:=rfl;have c:∀a,Ig P o.bare s a=Ig P o s a:=λ_=>rfl;rw[b,c];have d:(λs'=>mc P (l.map RI.bare) s' K)=λs'=>mc P l s' K:=funext λs'=>bU l s';rw[d,bU l];rfl
theorem BN(l:List RI):s8 (l.map RI.bare)=s8 l:=by
 unfold s8;rw[List.flatMap_map];rfl
theorem H9{P:Program}:∀(c:eh) (Q:Exit->PS->Prop) (s:PS),l7 P c.bare Q s=l7 P c Q s
 | .skip,_,_=>rfl
 | .freeze,_,_=>rfl
 | .AA _,_,_=>rfl
 | .exit _,_,_=>rfl
 | .ret,_,_=>rfl
 | .region l d f,Q,s=>by
  show mc P (l.map RI.bare) (if d=ah then(s.x7 (sh s.base f)).vz (sh s.base (s8 (l.map RI.bare)))else s.x7 (sh s.base f)) (Q .normal)=_;rw[bU,BN];rfl
 | .seq a b,Q,s=>by
  show l7 P a.bare (λe s'=>match e with| .normal=>l7 P b.bare Q s'|e=>Q e s') s=l7 P a (λe s'=>match e with| .normal=>l7 P b Q s'|e=>Q e s') s
  rw[H9 a]
  congr 1
  funext e s'
  cases e<;>first|exact H9 b Q s'|rfl
 | .cond c a b,Q,s=>by
  show(match c.ev s with| .d (.bool x)=>if x then l7 P a.bare Q s else l7 P b.bare Q s|_=>False)=(match c.ev s with| .d (.bool x)=>if x then l7 P a Q s else l7 P b Q s|_=>False)
  rw[H9 a,H9 b]
 | .block i c,Q,s=>H9 c _ s
 | .loop c,Q,s=>by
  show(∃(I:PS->Prop) (m:PS->Nat),I s/\∀s',I s'->l7 P c.bare (λe g=>match e with| .normal=>I g/\m g<m s'|e=>Q e g) s')=∃(I:PS->Prop) (m:PS->Nat),I s/\∀s',I s'->l7 P c (λe g=>match e with| .normal=>I g/\m g<m s'|e=>Q e g) s'
  simp only[H9 c]
 | .both a b,Q,s=>by
  show(l7 P a.bare Q s/\l7 P b.bare Q s)=(l7 P a Q s/\l7 P b Q s);rw[H9 a,H9 b]
def fu(P:Program)(f:Nat)(an:Ann):Option (eh×List K1×Nat):=
 match P.funcs[f]? with
 |none=>ae
 |some a=>if a.name= "runtime.NumGoroutine"then ae else match a.body with
  |none=>ae
  |some c=>match comp P a.ntmps an c,Ue P a.results.toList with
   |some rc,aa rs=>aa (rc.bare,rs,a.ntmps)
   |_,_=>ae
def start(args:List D):PS:={tmp:=λt=>match args[t]? with|some x=> .d x|none=> .no,di:=λ_=>ae,ba:=λ_=>0,mp:=λ_=>ae}
section
variable{P:Program}{B0 nt:Nat}{w0 w w':World}{G0 G G':ix}{s s' s1 s2:PS}{E E':Env}{a:Act}
def VZ(s:PS):V->List Nat
 | .ref id _ _=>[id]
 | .o8 id _=>[id]
 | .agg cs=>match Qh s cs with
  |some p=>p.2
  |none=>[]
 |_=>[]
theorem xZ{x:V}{d:D}{v:Value}(b:Zg s x=aa d)(g:j4 G E s x v)(e:G.le G')(f:∀id∈VZ s x,bG G' G E s id):iz G' d v:=by
 cases x with
 |d y=>simp only[Zg,av]at b;subst b;exact iz.mono e g
 |ref id ba len=>
  simp only[Zg,ax]at b;obtain⟨⟨y,ids⟩,b,rfl⟩:=b
  have h:ids=[id]:=by
   simp only[Rs]at b;split at b
   ·split at b
    ·simp only[av,db]at b;exact b.2.symm
    cases b
   cases b
  exact jX (c:= .ref id ba len) b g e (by rw[h];exact f)
 |o8 id ba=>
  simp only[Zg,ax]at b;obtain⟨⟨y,ids⟩,b,rfl⟩:=b
  have h:ids=[id]:=by
   simp only[Rs]at b;split at b
   ·simp only[ax,db]at b;obtain⟨_,_,_,b⟩:=b;exact b.symm
   cases b
  exact jX (c:= .o8 id ba) b g e (by rw[h];exact f)
 |agg cs=>
  simp only[Zg,ax]at b;obtain⟨⟨ds,ids⟩,b,rfl⟩:=b;simp only[VZ,b]at f;obtain⟨n,m⟩:=qP (G:=G) (G':=G') (E:=E) b;obtain⟨vs,rfl,e2,k⟩:=G6.1 g;show iz G' (.agg ds) (.agg vs);refine iz.agg (by lia) λi x u hx l=>?_
  have j:i<cs.length:=by have:=(bd.1 hx).1;lia
  exact m e f i cs[i] x u (bh j) hx (k i _ u (bh j) l)
 |_=>cases b
def tO(s:PS):K1->List Nat
 | .tmp t=>VZ s (s.tmp t)
 | .cell t n g=>match Cw s n g (s.tmp t)with
  |some v=>VZ s v
  |none=>[]
theorem XK(h:jw B0 w0 nt G0 s G E a w){r:ResultVar}{x:K1}(e:GC P r=aa x){d:D}(j:CZ s x=aa d)(k:G.le G')(m:∀id∈tO s x,bG G' G E s id):
  ∃v,(match r with| .tmp t=>pure (a.tmps.getD t undef)| .cell b t=>do loadVar t (<-asAddr (a.tmps.getD b undef)):Sem Value).run P w= .ok v w/\iz G' d v:=by
 cases r with
 |tmp t=>
  simp only[GC,av]at e;subst e;exact⟨_,rfl,xZ j (h.tmp t) k m⟩
 |cell b t=>
  simp only[GC]at e;split at e
  ·rename_i n g F H;split at e
   ·rename_i I
    injection e with e
    subst e;simp only[CZ]at j;simp only[tO]at m;split at j
    ·rename_i v c;rw[c]at m;obtain⟨u,l,K⟩:=Yd h F H I c (h.tmp b);refine⟨u,?_,xZ j K k m⟩
     have J:∃ad,a.tmps.getD b undef= .pointer (aa ad):=by
      have hb:=h.tmp b;generalize s.tmp b=y at c hb
      cases y with
      |gz id ba off=>
       simp only[Cw]at c;split at c
       ·rename_i cs B;obtain⟨f,e2⟩:=xl B;exact⟨_,hb.2 f ⟨_,e2,rfl⟩⟩
       cases c
      |Iy id ba L i off=>
       simp only[Cw]at c;split at c
       ·rename_i sz dv p;obtain⟨f,e2⟩:=zn p;split at c
        ·split at c
         ·rename_i A;exact⟨_,(hb.2 f _ _ (yf e2)).2 A.1⟩
         cases c
        cases c
       split at c
       ·rename_i sz dv p;obtain⟨f,b,e2,C,_⟩:=Lb p;split at c
        ·split at c
         ·rename_i A;exact⟨_,(hb.2 f _ _ ((yf e2).trans C)).2 A.1⟩
         cases c
        cases c
       cases c
      |d z=>
       cases z with
       |ym cells off=>
        generalize a.tmps.getD b undef=q at hb;cases hb;exact⟨_,rfl⟩
       |_=>cases c
      |_=>cases c
     obtain⟨ad,o⟩:=J;show(do loadVar t (<-asAddr (a.tmps.getD b undef)):Sem Value).run P w=_;rw[o]at l|-;unfold aeq at l;simp only[df]at l|-;have f:(a5p (.pointer (aa ad))).run P w= .ok ad w:=rfl;have e2:(asAddr (.pointer (aa ad))).run P w= .ok ad w:=rfl;rw[f]at l;rw[e2];exact l
    cases j
   cases e
  cases e
theorem yW{α:Type}(f:α->Sem Value)(w:World):∀(l:List α) (vs:List Value),l.length=vs.length->(∀(i:Nat) (x:α) (v:Value),l[i]? =aa x->vs[i]? =aa v->(f x).run P w= .ok v w)->(l.mapM f).run P w= .ok vs w:=by
 intro l
 induction l with
 |nil=>intro vs b _;cases vs with
  |nil=>simp
  |cons _ _=>cases b
 |cons x r d=>
  intro vs b h
  cases vs with
  |nil=>cases b
  |cons v vs=>
   simp only[List.mapM_cons,df,h 0 x v rfl rfl,br,d vs (by simpa using b) (λi x v hx c=>h (i+1) x v (by simpa using hx) (by simpa using c)),fl]
theorem xV(h:jw B0 w0 nt G0 s G E a w)(j:G.le G'):∀{l:List ResultVar} {xs:List K1} {ds:List D},Ue P l=aa xs->eP s xs=aa ds->(∀id∈xs.flatMap (tO s),bG G' G E s id)->
  ∃vs:List Value,vs.length=ds.length/\l.length=vs.length/\xs.length=ds.length/\(∀(i:Nat) (x:ResultVar) (v:Value),l[i]? =aa x->vs[i]? =aa v->(match x with| .tmp t=>pure (a.tmps.getD t undef)| .cell b t=>do loadVar t (<-asAddr (a.tmps.getD b undef)):Sem Value).run P w= .ok v w)/\
   ∀(i:Nat) (d:D) (v:Value),ds[i]? =aa d->vs[i]? =aa v->iz G' d v:=by
 intro l
 induction l with
 |nil=>
  intro xs ds c e _;simp only[Ue,av]at c;subst c;simp only[eP,av]at e;subst e;exact⟨[],rfl,rfl,rfl,by simp,by simp⟩
 |cons r l B=>
  intro xs ds c e n;simp only[Ue]at c;split at c
  ·rename_i x y p q
   injection c with c
   subst c;simp only[eP]at e;split at e
   ·rename_i d o z A
    injection e with e
    subst e;obtain⟨vs,C,F,H,I,J⟩:=B q A (λid g=>n id (by simp only[a8x,jz];exact .inr g));obtain⟨v,k,m⟩:=XK h p z j (λid g=>n id (by simp only[a8x,jz];exact .inl g));refine⟨v::vs,by simp[C],by simp[F],by simp[H],λi x u hx f=>?_,λi d u hx f=>?_⟩
    ·cases i with
     |zero=>simp only[iw,av]at hx f;subst hx f;exact k
     |succ i=>simp only[mq]at hx f;exact I i x u hx f
    cases i with
    |zero=>simp only[iw,av]at hx f;subst hx f;exact m
    |succ i=>simp only[mq]at hx f;exact J i d u hx f
   cases e
  cases c
theorem Xg(h:jw B0 w0 nt G0 s G E a w){f:Func}{xs:List K1}(o:Ue P f.results.toList=aa xs){r:D}(j:bY s xs=aa r):
  ∃v G',(results f a.tmps).run P w= .ok v w/\G0.le G'/\G0.same G' B0/\GOk G' w/\iz G' r v:=by
 obtain⟨G',g,m,p⟩:=h.vz (xs.flatMap (tO s))
 have all:∃ds,eP s xs=aa ds/\((∃d,ds=[d]/\r=d)\/(ds.length≠1/\r= .Bb ds)):=by
  unfold bY at j;split at j
  ·rename_i x;exact⟨[r],by simp[eP,j],.inl ⟨r,rfl,rfl⟩⟩
  rename_i k;simp only[ax]at j;obtain⟨ds,c,rfl⟩:=j;refine⟨ds,c,.inr ⟨λI=>?_,rfl⟩⟩;obtain⟨vs,_,_,e,_⟩:=xV h g o c p
  match xs,e,k with
  |[x],_,k=>exact k x rfl
  |[],e,_=>simp at e;lia
  |_::_::_,e,_=>simp at e;lia
 obtain⟨ds,c,A⟩:=all;obtain⟨vs,q,C,e,F,u⟩:=xV h g o c p
 have y:=yW (P:=P) (λx:ResultVar=>(match x with| .tmp t=>pure (a.tmps.getD t undef)| .cell b t=>do loadVar t (<-asAddr (a.tmps.getD b undef)):Sem Value)) w f.results.toList vs C F
 have z:(f.results.mapM λ(x:ResultVar)=>(match x with| .tmp t=>pure (a.tmps.getD t undef)| .cell b t=>do loadVar t (<-asAddr (a.tmps.getD b undef)):Sem Value)).run P w= .ok vs.toArray w:=by
  rw[sK,af5,y];rfl
 have l:(results f a.tmps).run P w= .ok (if H:vs.toArray.size=1 then vs.toArray[0]else .tuple vs.toArray) w:=by
  unfold results;simp only[df]
  erw [z]
  simp only[br,fl]
 refine⟨_,G',l,m.gle,m.Jt,m.gok,?_⟩;rcases A with ⟨d,rfl,rfl⟩|⟨k,rfl⟩
 ·have n:vs.toArray.size=1:=by simpa using q
  rw[dif_pos n];exact u 0 r _ rfl (by simp)
 have n:¬vs.toArray.size=1:=by simp;lia
 rw[dif_neg n];exact iz.Bb (by simpa using q) λi x v hx B=>u i x v hx (by simpa using B)
theorem pX{args:List D}{vs:Array Value}(g:GOk G w)(k:vs.size=args.length)(h:∀(i:Nat) (x:D) (v:Value),args[i]? =aa x->vs[i]? =aa v->iz G x v)(l:args.length<=nt):
  jw w.heap.size w nt G (start args) G ⟨λ_=>0,λ_=>0,λ_=>0⟩ {tmps:=vs++iK (nt-vs.size) undef,defers:=[]} w:=by
 refine⟨by simp;lia,rfl,rfl,Bel.refl _ _,g,ix.me _,⟨λ_ _ _=>rfl,λ_ _=>rfl⟩,λt=>?_,λi b hb=>(by cases hb),λi j e f c=>(by cases c),λi es c=>(by cases c),λi j e f c=>(by cases c),λp=>trivial,λ_=>Xo.nil⟩
 show j4 G _ _ (match args[t]? with|some x=>V.d x|none=> .no) ((vs++iK (nt-vs.size) undef).getD t undef)
 cases hx:args[t]? with
 |none=>trivial
 |some x=>
  have m:t<args.length:=(bd.1 hx).1;rw[kl,Bn (by lia),bz (by lia)];exact h t x _ hx (bz (by lia))
theorem ez(B:P.follows .mixedOrders=ah){f:Nat}{an:Ann}{k:eh}{l:List K1}{nt:Nat}(b:fu P f an=aa (k,l,nt)){args:List D}{r:D}(C:args.length<=nt)
  (h:l7 P k (λe s=>(e= .normal\/e= .ret)/\bY s l=aa r) (start args)):iv P f args r:=by
 unfold fu at b;split at b
 ·cases b
 rename_i q g;split at b
 ·cases b
 rename_i p;split at b
 ·cases b
 rename_i c hb;split at b
 ·rename_i N O t u;simp only[av,db]at b;obtain⟨rfl,rfl,rfl⟩:=b;simp only[H9]at h;refine⟨by unfold B3;rw[g];simp[p,hb],λG w vs x A F=>?_⟩;refine calls_of_wp g hb (wp_mono (Ys B c t (pX x A F C) (tL h)) λe a' w' z=>?_);obtain⟨s',G',E',⟨⟨y,o⟩,M⟩,j⟩:=z;obtain⟨v,n,H,I,J,K,L⟩:=Xg j u o
  have d:a'.defers=[]/\∃v,(results q a'.tmps).run P w'= .ok v w'/\∃m G',adl v= .returned m/\G.le G'/\G.same G' w.heap.size/\GOk G' w'/\Bel True w.heap.size w w'/\iz G' r m:=
   ⟨j.defers,v,H,v,n,rfl,I,J,K,j.below.Nl (λ_=>by rw[M];intro i v e;exact(af2 e).2.symm),L⟩
  rcases y with rfl|rfl
  ·exact d
  exact d
 cases b
def a7z(c:Nat->V×Value)(i:Nat):V×Value:=match(c i).1 with
 | .d _=>c i
 | .no=>c i
 |_=>(.no,.tuple #[])
theorem a8t{c:Nat->V×Value}{i:Nat}{v:Value}(h:c i=(.no,v)):a7z c i=(.no,v):=by unfold a7z;rw[h]
end
end Go.PI
