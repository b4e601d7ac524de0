/- A part of the proof for HistoryNames: PS26 to F6. Printed from longer texts. -/
import Derived.Test.YtakonfolegckgaaGreatDoorB
import Derived.Scope
import Derived.Deep.LoopGhost
set_option linter.all false
set_option maxHeartbeats 64000000
open Go.PI.dn renaming seq→ar,region→cb,block→dd,loop→ix,exit→iq,skip→bz,ret→br,both→L9
open Array renaming all_eq_true_iff_forall_mem→Ky,getD_eq_getD_getElem?→jd,getElem?_append_left→ow,getElem?_eq_getElem→bh,getElem?_replicate→Wr,mapM_eq_mapM_toList→ab7,replicate→Ns
open Bool renaming and_eq_false_iff→aqh,and_eq_true→da,and_false→qq,and_self→aK3,and_true→Hj,false_and→dz,false_eq_true→fw,false_or→Q2,not_eq_true'→qp,not_false→M7,not_true→aFr,or_eq_false_iff→S0,or_eq_true→Nr,or_false→W6,true_and→u9,true_or→M6
open Eq renaming refl→gp,trans→fc
open Go.Code renaming region→aL0
open Go.Ending renaming returned→avp
open Go.Instr renaming loadAt→aKu,sureAddr→aD5
open Go.IntKind renaming i64→ab
open Go.Op renaming bytesLess→amn
open Go.Region renaming binds→aJh,ready→Ic
open Go.Result renaming andThen_ok→bm
open Go.Sem renaming run_bind→cn,run_map→aL9,run_pure→ep
open Int renaming cast_ofNat_Int→aD4,natCast_nonneg→ao,natCast_zero→a2m,reduceLE→ew,reduceLT→de,reduceNeg→cq,reduceToNat→ed,tmod_eq_emod_of_nonneg→aD3
open List renaming all_cons→W4,all_eq_false→a3p,all_eq_true→dj,all_nil→aJr,append_assoc→po,append_nil→sr,append_of_mem→a8c,cons_append→yv,drop→aLq,drop_zero→adz,eq_nil_iff_forall_not_mem→avm,eq_nil_of_length_eq_zero→j1,filter_eq_self→a2k,flatMap_append→ahm,flatMap_cons→avg,flatten_cons→avf,flatten_nil→aIu,getD→cw,getD_cons_zero→aAa,getD_eq_getElem?_getD→Au,getElem?_cons_succ→i7,getElem?_cons_zero→dv,getElem?_eq_getElem→ax,getElem?_eq_none→a88,getElem?_eq_some_iff→aw,getElem?_map→cy,getElem?_range→Mt,getElem_mem→df,length→Gz,length_append→db,length_cons→cj,length_map→ag,length_nil→du,length_pos_iff→a2j,length_range→aFt,length_take→er,map→aLy,map_append→fl,map_cons→dr,map_nil→gn,mem_append→lx,mem_cons→fb,mem_filter→F5,mem_iff_getElem→gf,mem_map→gr,mem_of_getElem?→jw,mem_range→ez,mem_singleton→Tc,nil_append→Ap,pairwise_cons→J8,range→dt,reduceReplicate→di,size_toArray→Wo,take→aLs,take_add_one→gl,take_append_drop→Kx,take_length→eh,take_of_length_le→vl,take_succ_cons→aJw,take_zero→M5
open Nat renaming add_left_cancel_iff→fu,add_zero→Af,le_of_lt→aKq,le_refl→ay,le_trans→ij,mod_lt→a8a,mul_le_mul→aK5,reduceAdd→ae,reduceEqDiff→aa,reduceLeDiff→ah,reduceMul→ey,zero_add→gd,zero_le→aCz,zero_mul→amp
open Option renaming bind_eq_some_iff→ahn,getD_some→jc,map→aLg,map_eq_some_iff→aq,map_some→ir,toList_some→amm
open Option.some renaming injEq→ak
open Prod renaming ext→R1
open Prod.mk renaming inj→aL1,injEq→cd
namespace Go.PI
open Go Go.RowKit
section
variable{P:Program}{B0 nt:Nat}{w0 w w':World}{G0 G G':gq}{s s' s1 s2:PS}{E E':Env}{a:Act}
theorem Uk(ids:List Nat)(s:PS):(s.xc ids).base=s.base:=by
 cases ids with
 |nil=>rfl
 |cons i r=>exact(Ga (i::r) _).1
theorem a56{f:Nat}{args:List V}{j2:List D}{own:Bool}{d:Option Nat}{K K':PS→Prop}(hk:∀s,K s→K' s)(h:Ey P f args j2 own d s K):Ey P f args j2 own d s K':=by
 obtain⟨ds,r,h1,h2,h3,h4⟩:=h;exact⟨ds,r,h1,h2,h3,hk _ h4⟩
theorem a4x{o:RI}{K K':PS→Prop}(hk:∀s,K s→K' s)(h:H6 P o s K):H6 P o s K':=by
 unfold H6 at h⊢;split
 ·rename_i ho;rw[ho]at h;obtain⟨id,s',h1,h2⟩:=h;exact⟨id,s',h1,hk _ h2⟩
 ·rename_i f args ho;rw[ho]at h;obtain⟨R,h1,h2⟩:=h;exact⟨R,h1,fun m' r hr=>hk _ (h2 m' r hr)⟩
 ·rename_i f args ho;rw[ho]at h;simp only at h⊢;split
  ·rename_i g j2 hs;rw[hs]at h;obtain⟨R,h1,h2⟩:=h;exact⟨R,h1,fun m' r hr=>hk _ (h2 m' r hr)⟩
  rename_i Bs;split at h
  ·rename_i g j2 hs;exact absurd hs (Bs g j2)
  exact h
 ·rename_i f args ho;rw[ho]at h;obtain⟨m',r,h1,h2⟩:=h;exact⟨m',r,h1,hk _ h2⟩
 ·rename_i f args ho;rw[ho]at h;obtain⟨r,h1,h2⟩:=h;exact⟨r,h1,hk _ h2⟩
 ·rename_i f args ho;rw[ho]at h;simp only at h⊢;split
  ·rename_i g j2 hs;rw[hs]at h;obtain⟨m',r,h1,h2⟩:=h;exact⟨m',r,h1,hk _ h2⟩
  rename_i Bs;split at h
  ·rename_i g j2 hs;exact absurd hs (Bs g j2)
  exact h
 ·rename_i f args ho;rw[ho]at h;exact a56 hk h
 ·rename_i f args ho;rw[ho]at h;simp only at h⊢;split
  ·rename_i g j2 hs;rw[hs]at h;exact a56 hk h
  rename_i Bs;split at h
  ·rename_i g j2 hs;exact absurd hs (Bs g j2)
  exact h
 rename_i h0 h1 h2 h3 h4 h5 h6 h7;split at h
 ·rename_i ho;exact absurd ho (h0 _ _ _ _ _ _ _)
 ·rename_i f args ho;exact absurd ho (h1 f args)
 ·rename_i f args ho;exact absurd ho (h2 f args)
 ·rename_i f args ho;exact absurd ho (h3 f args)
 ·rename_i f args ho;exact absurd ho (h4 f args)
 ·rename_i f args ho;exact absurd ho (h5 f args)
 ·rename_i f args ho;exact absurd ho (h6 f args)
 ·rename_i f args ho;exact absurd ho (h7 f args)
 split at h
 ·exact hk _ h
 exact h.elim
theorem a9z:∀{l:List RI} {s:PS} {K K':PS→Prop},(∀s,K s→K' s)→lk P l s K→lk P l s K':=by
 intro l
 induction l with
 |nil=>intro s K K' hk h;exact hk s h
 |cons o r ih=>
  intro s K K' hk h;rw[Bl]at h⊢;split
  ·rename_i hw;rw[hw]at h;exact a4x (fun s=>ih hk) h
  ·rename_i hw;rw[hw]at h;exact ih hk h
  rename_i hw;rw[hw]at h;exact h
theorem Fz:∀{c:dn} {s:PS} {Q Q':Exit→PS→Prop},(∀e s,Q e s→Q' e s)→kq P c Q s→kq P c Q' s:=by
 intro c
 induction c with
 |skip=>intro s Q Q' hq h;exact hq _ _ h
 |region ops d fz=>intro s Q Q' hq h;exact a9z (hq .normal) h
 |seq x y ihx ihy=>
  intro s Q Q' hq h
  exact ihx (fun e s' h'=>by cases e<;>first|exact ihy hq h'|exact hq _ _ h') h
 |cond c x y ihx ihy=>
  intro s Q Q' hq h;simp only[kq]at h⊢;split at h
  ·split at h
   ·rename_i hx;simp only[hx,cz];exact ihx hq h
   rename_i hx;simp only[hx,fw,bn];exact ihy hq h
  exact h.elim
 |block id c ih=>
  intro s Q Q' hq h;refine ih (fun e s' h'=>?_) h
  cases e with
  |exit i=>
   simp only at h'⊢;split
   ·rename_i hi;rw[bd hi]at h';exact hq _ _ h'
   rename_i hi;rw[al hi]at h';exact hq _ _ h'
  |_=>exact hq _ _ h'
 |loop c ih=>
  intro s Q Q' hq h;obtain⟨I,m,h0,h1⟩:=h
  exact⟨I,m,h0,fun s' hI=>ih (fun e s'' h'=>by cases e<;>first|exact h'|exact hq _ _ h') (h1 s' hI)⟩
 |freeze=>intro s Q Q' hq h;obtain⟨ids,h⟩:=h;exact⟨ids,hq _ _ h⟩
 |a6m l=>intro s Q Q' hq h;obtain⟨I,h0,h1⟩:=h;exact⟨I,h0,fun A s' hI=>⟨fun hA=>hq _ _ ((h1 A s' hI).1 hA),(h1 A s' hI).2⟩⟩
 |both x y ihx ihy=>intro s Q Q' hq h;exact⟨ihx hq h.1,ihy hq h.2⟩
 |exit id=>intro s Q Q' hq h;exact hq _ _ h
 |ret=>intro s Q Q' hq h;exact hq _ _ h
def avb(Q:Exit→PS→Prop):Exit→PS→Prop
 | .goto _,_=>False
 |e,s=>Q e s
theorem aij:∀{c:dn} {s:PS} {Q:Exit→PS→Prop},kq P c Q s→kq P c (avb Q) s:=by
 intro c
 induction c with
 |skip=>intro s Q h;exact h
 |region ops d fz=>intro s Q h;exact h
 |seq x y ihx ihy=>
  intro s Q h;rw[a3s];refine Fz (fun e s' h'=>?_) (ihx h)
  cases e<;>first|exact h'.elim|exact ihy h'|exact h'
 |cond c x y ihx ihy=>
  intro s Q h;simp only[kq]at h⊢;split at h
  ·split at h
   ·rename_i hx;simp only[hx,cz];exact ihx h
   rename_i hx;simp only[hx,fw,bn];exact ihy h
  exact h.elim
 |block id c ih=>
  intro s Q h;rw[Zv];refine Fz (fun e s' h'=>?_) (ih h)
  cases e with
  |exit i=>
   simp only[avb]at h'⊢;split
   ·rename_i hi;rw[bd hi]at h';exact h'
   rename_i hi;rw[al hi]at h';exact h'
  |goto l=>exact h'.elim
  |_=>exact h'
 |loop c ih=>
  intro s Q h;obtain⟨I,m,h0,h1⟩:=h;refine⟨I,m,h0,fun s' hI=>Fz (fun e s'' h'=>?_) (ih (h1 s' hI))⟩
  cases e<;>first|exact h'.elim|exact h'
 |freeze=>intro s Q h;exact h
 |a6m l=>intro s Q h;exact h
 |both x y ihx ihy=>intro s Q h;exact⟨ihx h.1,ihy h.2⟩
 |exit id=>intro s Q h;exact h
 |ret=>intro s Q h;exact h
theorem aby(hm:P.follows .mixedOrders=true){an:Ann}{id:Nat}{ops:Array Oper}{draw:Bool}{rc:dn}(hc:adg P nt an id ops draw=some rc){Q:Exit→PS→Prop}(h:jf B0 w0 nt G0 s G E a w)(hr:kq P rc Q s):
  (aL0 id ops draw).wp P (fun e a w=>Lq B0 nt w0 G0 (Q e) a w) a w:=by
 unfold adg at hc;split at hc
 ·rename_i hd;split at hc
  ·rename_i l hl
   injection hc with hc
   subst hc hd;obtain⟨G1,_,h1⟩:=h.xc (sh s.base ((an.xc.lookup id).getD []));exact ac3 hl h1 hr (fun _ _ hh=>hh)
  cases hc
 rename_i hd;split at hc
 ·rename_i l hl;split at hc
  ·rename_i hdr
   injection hc with hc
   subst hc
   have hd':draw=true:=by simpa using hd
   subst hd';obtain⟨G1,_,h1⟩:=h.xc (sh s.base ((an.xc.lookup id).getD []));obtain⟨G2,_,h2,_⟩:=h1.uu (sh s.base (ql (l.map (RI.ajy l))))
   exact ak8 (adq hl) hdr hm h2 (fun d hd=>by
    rw[Us]
    have hb:PS.base ((s.xc (sh s.base ((an.xc.lookup id).getD []))).uu (sh s.base (ql (l.map (RI.ajy l)))))=s.base:=by
     rw[(Ga _ _).1,Uk]
    rw[hb];obtain⟨k1,k2⟩:=as5 _ (s.xc (sh s.base ((an.xc.lookup id).getD []))) (s.base+d) (.inl (gr.2 ⟨d,hd,rfl⟩))
    exact⟨.inl k1,k2⟩) hr (fun _ _ hh=>hh)
  cases hc
 cases hc
theorem aq3:∀{L:List dn} {Q:Exit→PS→Prop} {s:PS},kq P (auu L) Q s→∀x∈L,kq P x Q s:=by
 intro L
 induction L with
 |nil=>intro Q s _ x hx;simp at hx
 |cons y r ih=>
  intro Q s h x hx
  cases r with
  |nil=>simp only[Tc]at hx;subst hx;exact h
  |cons z t=>
   rcases fb.1 hx with rfl|hx
   ·exact h.1
   exact ih h.2 x hx
theorem ahs{an:Ann}{ops:Array Oper}{l:List RI}(hal:Aligned P nt an ops l){Q:Exit→PS→Prop}:
  ∀(fuel:Nat) (A:Array Bool) {rc:dn} {s:PS} {G:gq} {E:Env} {a:Act} {w:World},ahe ops l fuel A=some rc→jf B0 w0 nt G0 s G E a w→kq P rc Q s→wpAny P .any ops (fun e a w=>Lq B0 nt w0 G0 (Q e) a w) fuel A a w:=by
 intro fuel
 induction fuel with
 |zero=>
  intro A rc s G E a w hc h hr;simp only[ahe]at hc;split at hc
  ·rename_i he
   injection hc with hc
   subst hc;exact⟨he,s,G,E,hr,h⟩
  cases hc
 |succ n ih=>
  intro A rc s G E a w hc h hr;simp only[ahe]at hc;split at hc
  ·rename_i he
   injection hc with hc
   subst hc;refine⟨fun _=>⟨s,G,E,hr,h⟩,fun i hi=>?_⟩;rw[he]at hi;simp at hi
  rename_i he;simp only[aq]at hc;obtain⟨L,hL,rfl⟩:=hc;obtain⟨k1,k2⟩:=Yj hL;refine⟨fun h0=>absurd h0 he,fun i hi=>?_⟩;obtain⟨p,hp,hpi⟩:=gf.1 hi
  have hpL:p<L.length:=by simpa[k1]using hp
  have hk:=k2 p L[p] (ax hpL);rw[cy,ax hp,hpi]at hk;simp only[ir,ak,aq]at hk;obtain⟨t,ht,hLp⟩:=hk;have hr1:=aq3 hr L[p] (df _);rw[←hLp,a3s]at hr1
  have hlt:i<ops.size:=by
   unfold Ic at hi;simp only[F5,ez]at hi;exact hi.1
  have hil:i<l.length:=by rw[hal.1];exact hlt
  have hg:l.getD i default=l[i]:=by simp[cw,hil]
  have hf:=hal.2 i ops[i] l[i] (bh hlt) (ax hil)
  have hr2:lk P [l[i]] s (fun s'=>kq P t Q s'):=by rw[←hg];exact hr1
  rw[Bl]at hr2;unfold wpOp;rw[bh hlt];simp only
  have rest:∀a w,Lq B0 nt w0 G0 (fun s'=>kq P t Q s') a w→wpAny P .any ops (fun e a w=>Lq B0 nt w0 G0 (Q e) a w) n (A.setIfInBounds i true) a w:=by
   rintro a' w' ⟨s',G',E',hK,h'⟩;exact ih _ ht h' hK
  split at hr2
  ·rename_i hw;rw[Ck h hf hw];exact .inl (Ty h hf hr2 rest)
  ·rename_i hw;rw[Ck h hf hw];obtain⟨hd,hd2,_⟩:=hf.spec;refine rest _ _ ⟨_,G,E,hr2,?_⟩;rw[hd];exact h.a8m hd2 R4
  exact hr2.elim
theorem aol(hm:P.follows .mixedOrders=true){an:Ann}{id:Nat}{ops:Array Oper}{rc:dn}(hc:aCk P nt an ops=some rc){Q:Exit→PS→Prop}(h:jf B0 w0 nt G0 s G E a w)(hr:kq P rc Q s):
  (aL0 id ops true).wp P (fun e a w=>Lq B0 nt w0 G0 (Q e) a w) a w:=by
 unfold aCk at hc;split at hc
 ·rename_i l hl;exact wp_region_any hm (ahs (Wl hl) _ _ hc (w:={w with drawn:=w.drawn+1}) h.drew hr)
 cases hc
theorem ajx{an:Ann}{ops:Array Oper}{l:List RI}(hal:Aligned P nt an ops l)(hlt:∀(i:Nat) (o:RI),l[i]? =some o→∀j∈o.after,j<i){Q:Exit→PS→Prop}{I:(Nat→Bool)→PS→Prop}
  (hI:∀A s',I A s'→((∀i,i<l.length→A i=true)→Q .normal s')∧∀i o,l[i]? =some o→A i=false→(∀j∈o.after,A j=true)→lk P [o] s' (I (l7 A i true))):
  ∀(fuel:Nat) (A:Array Bool) {s:PS} {G:gq} {E:Env} {a:Act} {w:World},A.size=ops.size→(left l.length A).length≤fuel→jf B0 w0 nt G0 s G E a w→I (fun j=>A.getD j false) s→
  wpAny P .any ops (fun e a w=>Lq B0 nt w0 G0 (Q e) a w) fuel A a w:=by
 have hlen:=hal.1
 have get:∀i,i<l.length→l[i]? =some (l.getD i default):=fun i hi=>by simp[cw,hi]
 have Ox:∀i,i<l.length→∃o,ops[i]? =some o∧Fits P nt an ops o (l.getD i default):=fun i hi=>by
  have h1:i<ops.size:=by omega
  exact⟨ops[i],bh h1,hal.2 i _ _ (bh h1) (get i hi)⟩
 have rdy:∀(A:Array Bool) i,i∈Ic .any ops A↔i<l.length∧A.getD i true=false∧∀j∈(l.getD i default).after,A.getD j false=true:=by
  intro A i;unfold Ic;simp only[F5,ez,da,qp];rw[←hlen];constructor
  ·rintro⟨hi,h1,h2⟩;obtain⟨o,ho,hf⟩:=Ox i hi;refine⟨hi,h1,fun j hj=>?_⟩;rw[ho]at h2;simp only[ir,jc,Ky,Nr,qp]at h2;rw[hf.spec.2.2.2]at hj;obtain⟨e,he,rfl⟩:=gr.1 hj;obtain⟨he1,he2⟩:=F5.1 he;rcases h2 e (by simpa using he1)with h3|h3
   ·rw[h3]at he2;cases he2
   exact h3
  rintro⟨hi,h1,h2⟩;obtain⟨o,ho,hf⟩:=Ox i hi;refine⟨hi,h1,?_⟩;rw[ho];simp only[ir,jc,Ky,Nr,qp];intro e he;by_cases hb:aJh .any e=true
  ·exact .inr (h2 e.on (by rw[hf.spec.2.2.2];exact gr.2 ⟨e,F5.2 ⟨by simpa using he,hb⟩,rfl⟩))
  exact .inl (by simpa using hb)
 have none:∀A:Array Bool,A.size=ops.size→Ic .any ops A=[]→left l.length A=[]:=by
  intro A hA hr
  cases hL:left l.length A with
  |nil=>rfl
  |cons i r=>
   exfalso;have hi:=(mem_left (n:=l.length) (A:=A) (i:=i)).1 (by rw[hL];simp)
   have:i∈Ic .any ops A:=(rdy A i).2 ⟨hi.1,hi.2,fun j hj=>by
    have hji:=hlt i _ (get i hi.1) j hj
    have aBx:j∉left l.length A:=by
     rw[hL];intro hjm;have hs:=Mj l.length A;rw[hL,J8]at hs;rcases fb.1 hjm with rfl|hjm
     ·omega
     have:=hs.1 j hjm;omega
    have:A.getD j true≠false:=fun h=>aBx (mem_left.2 ⟨by omega,h⟩);rw[Ui (by omega) false true]
    simpa using this⟩
   rw[hr]at this;cases this
 have done:∀(A:Array Bool) {s:PS},A.size=ops.size→left l.length A=[]→I (fun j=>A.getD j false) s→Q .normal s:=by
  intro A s hA hL h;refine(hI _ s h).1 fun i hi=>?_
  have:A.getD i true≠false:=fun hh=>by
   have:=(mem_left (n:=l.length) (A:=A) (i:=i)).2 ⟨hi,hh⟩;rw[hL]at this;cases this
  show A.getD i false=true;rw[Ui (by omega) false true];simpa using this
 intro fuel
 induction fuel with
 |zero=>
  intro A s G E a w hA hf h hI0;have hL:left l.length A=[]:=j1 (by omega)
  have hr:Ic .any ops A=[]:=by
   apply avm.2;intro i hi;obtain⟨h1,h2,_⟩:=(rdy A i).1 hi;have:i∈left l.length A:=mem_left.2 ⟨h1,h2⟩;rw[hL]at this;cases this
  exact⟨hr,s,G,E,done A hA hL hI0,h⟩
 |succ fuel ih=>
  intro A s G E a w hA hf h hI0;refine⟨fun hr=>⟨s,G,E,done A hA (none A hA hr) hI0,h⟩,fun i hi=>?_⟩;obtain⟨h1,h2,h3⟩:=(rdy A i).1 hi;obtain⟨pre,post,hL⟩:=a8c (mem_left.2 ⟨h1,h2⟩);obtain⟨o,ho,hfi⟩:=Ox i h1;have hr2:=(hI _ s hI0).2 i _ (get i h1) (by show A.getD i false=false;rw[Ui (by omega) false true];exact h2) h3
  have eA:(fun j=>(A.setIfInBounds i true).getD j false)=l7 (fun j=>A.getD j false) i true:=by
   funext j
   rw[a6l];unfold l7;by_cases hj:j=i
   ·subst hj;rw[bd ⟨rfl,by omega⟩,bd rfl]
   rw[al (by simp[hj]),al hj]
  have hL':=afw (by omega) hL
  have rest:∀a w,Lq B0 nt w0 G0 (I (l7 (fun j=>A.getD j false) i true)) a w→wpAny P .any ops (fun e a w=>Lq B0 nt w0 G0 (Q e) a w) fuel (A.setIfInBounds i true) a w:=by
   rintro a' w' ⟨s',G',E',hK,h'⟩;exact ih _ (by simpa using hA) (by rw[hL'];rw[hL]at hf;simp at hf⊢;omega) h' (by rw[eA];exact hK)
  rw[Bl]at hr2;unfold wpOp;rw[ho];simp only;split at hr2
  ·rename_i hw;rw[Ck h hfi hw];exact .inl (Ty h hfi hr2 rest)
  ·rename_i hw;rw[Ck h hfi hw];obtain⟨hd,hd2,_⟩:=hfi.spec;refine rest _ _ ⟨_,G,E,hr2,?_⟩;rw[hd];exact h.a8m hd2 R4
  exact hr2.elim
theorem agh(hm:P.follows .mixedOrders=true){an:Ann}{id:Nat}{ops:Array Oper}{rc:dn}(hc:aus P nt an ops=some rc){Q:Exit→PS→Prop}(h:jf B0 w0 nt G0 s G E a w)(hr:kq P rc Q s):
  (aL0 id ops true).wp P (fun e a w=>Lq B0 nt w0 G0 (Q e) a w) a w:=by
 unfold aus at hc;split at hc
 ·rename_i l hl;split at hc
  ·rename_i hlt
   injection hc with hc
   subst hc;obtain⟨I,h0,hI⟩:=hr;have hal:=Wl hl
   have eL:left l.length (Ns ops.size false)=dt l.length:=by
    unfold left;refine a2k.2 fun i hi=>?_;have:=ez.1 hi;rw[jd,Wr,bd (by rw[←hal.1];exact this)];rfl
   refine wp_region_any hm (ajx hal (fun i o ho j hj=>?_) hI _ _ (by simp) (by rw[eL];simp[hal.1]) (w:={w with drawn:=w.drawn+1}) h.drew ?_)
   ·have hi:=(aw.1 ho).1;have:=dj.1 hlt i (ez.2 hi)
    have e:l.getD i default=o:=by simp[cw,ho]
    rw[e]at this;exact of_decide_eq_true (dj.1 this j hj)
   have e:(fun j=>(Ns ops.size false).getD j false)=fun _=>false:=by
    funext j
    rw[jd,Wr];split<;>rfl
   rw[e];exact h0
  cases hc
 cases hc
theorem St(hm:P.follows .mixedOrders=true){an:Ann}:∀(c:Code) {rc:dn},comp P nt an c=some rc→∀{Q:Exit→PS→Prop} {s:PS} {G:gq} {E:Env} {a:Act} {w:World},jf B0 w0 nt G0 s G E a w→kq P rc Q s→
  c.wp P (fun e a w=>Lq B0 nt w0 G0 (Q e) a w) a w:=by
 intro c
 induction c with
 |skip=>intro rc hc Q s G E a w h hr;simp only[comp,ak]at hc;subst hc;exact wp_skip ⟨s,G,E,hr,h⟩
 |label l=>intro rc hc Q s G E a w h hr;simp only[comp,ak]at hc;subst hc;exact wp_label ⟨s,G,E,hr,h⟩
 |exit id=>intro rc hc Q s G E a w h hr;simp only[comp,ak]at hc;subst hc;exact wp_exit ⟨s,G,E,hr,h⟩
 |ret=>intro rc hc Q s G E a w h hr;simp only[comp,ak]at hc;subst hc;exact wp_ret ⟨s,G,E,hr,h⟩
 |region id ops draw=>
  intro rc hc Q s G E a w h hr;simp only[comp,aq]at hc;obtain⟨r,hc,rfl⟩:=hc
  have go:∀{s:PS} {G:gq},jf B0 w0 nt G0 s G E a w→kq P r Q s→(aL0 id ops draw).wp P (fun e a w=>Lq B0 nt w0 G0 (Q e) a w) a w:=by
   intro s G h hr;split at hc
   ·rename_i hcond;rw[hcond.1];exact agh hm hc h hr
   split at hc
   ·rename_i hcond;rw[hcond.1];exact aol hm hc h hr
   exact aby hm hc h hr
  split at hr
  ·obtain⟨ids,hr⟩:=hr;obtain⟨G1,_,h1⟩:=h.xc ids;exact go h1 hr
  exact go h hr
 |seq x y ihx ihy=>
  intro rc hc Q s G E a w h hr;simp only[comp]at hc;split at hc
  ·rename_i rx ry hx hy
   injection hc with hc
   subst hc;refine wp_seq (wp_mono (ihx hx h hr) fun e a' w' hg=>?_);obtain⟨s',G',E',hq,h'⟩:=hg
   cases e with
   |normal=>exact ihy hy h' hq
   |_=>exact⟨s',G',E',hq,h'⟩
  cases hc
 |cond c x y ihx ihy=>
  intro rc hc Q s G E a w h hr;simp only[comp]at hc;split at hc
  ·rename_i oc rx ry ho hx hy
   injection hc with hc
   subst hc;have hv:=h.ev ho;simp only[kq]at hr;split at hr
   ·rename_i b hb;rw[hb]at hv
    have he:a.eval c= .bool b:=by
     generalize a.eval c=v at hv;cases hv;rfl
    refine wp_cond he ?_
    cases b with
    |true=>exact ihx hx h (by simpa using hr)
    |false=>exact ihy hy h (by simpa using hr)
   exact hr.elim
  cases hc
 |block id c ih=>
  intro rc hc Q s G E a w h hr;simp only[comp,aq]at hc;obtain⟨r,hc,rfl⟩:=hc;refine wp_block (wp_mono (ih hc h hr) fun e a' w' hg=>?_);obtain⟨s',G',E',hq,h'⟩:=hg
  cases e with
  |exit i=>
   simp only[Exit.inBlock]at hq⊢;split
   ·rename_i hi;rw[bd hi]at hq;exact⟨s',G',E',hq,h'⟩
   rename_i hi;rw[al hi]at hq;exact⟨s',G',E',hq,h'⟩
  |_=>exact⟨s',G',E',hq,h'⟩
 |loop c ih=>
  intro rc hc Q s G E a w h hr;simp only[comp,aq]at hc;obtain⟨r,hc,rfl⟩:=hc;obtain⟨I,m,h0,h1⟩:=hr;refine wp_loop_ghost (fun n a w=>Lq B0 nt w0 G0 (fun s=>I s∧m s=n) a w) (m s) ⟨s,G,E,⟨h0,rfl⟩,h⟩ ?_;rintro n a' w' ⟨s',G',E',⟨hI,hmn⟩,h'⟩;refine wp_mono (ih hc h' (h1 s' hI)) fun e a'' w'' hg=>?_;obtain⟨s'',G'',E'',hq,h''⟩:=hg
  cases e with
  |normal=>exact⟨m s'',by omega,s'',G'',E'',⟨hq.1,rfl⟩,h''⟩
  |_=>exact⟨s'',G'',E'',hq,h''⟩
 |scope c ih=>
  intro rc hc Q s G E a w h hr;simp only[comp]at hc;refine wp_scope_straight (wp_mono (ih hc h (aij hr)) fun e a' w' hg=>?_);obtain⟨s',G',E',hq,h'⟩:=hg
  cases e with
  |goto l=>exact hq.elim
  |_=>exact⟨s',G',E',hq,h'⟩
 |rangeFunc f ps x y _ _=>intro rc hc;cases hc
 |goto l=>intro rc hc;cases hc
 |refuse why=>intro rc hc;cases hc
end
section
variable{P:Program}{s:PS}
theorem acz(ids:List Nat)(s:PS):(s.xc ids).ctx=s.ctx:=by
 cases ids with
 |nil=>rfl
 |cons i r=>exact(Ga (i::r) _).2
def aA5(c:Nat→V×Value)(K:PS→Prop):PS→Prop:=fun s'=>K s'∧s'.ctx=c
theorem ao7{o:RI}{K:PS→Prop}(h:H6 P o s K):H6 P o s (aA5 s.ctx K):=by
 unfold H6 at h⊢;split
 ·rename_i kk sz bytes x k y ts ho;rw[ho]at h;obtain⟨id,s',h1,h2⟩:=h;refine⟨id,s',h1,h2,?_⟩
  have e:s'.ctx=s.ctx:=by
   obtain⟨_,_,m,av,key,es,ys,osz,_,_,_,_,_,_,_,_,hc⟩:=h1;rcases hc with ⟨_,_,es',_,rfl⟩|⟨i,v0,n0,dm,_,_,_,_,es',_,rfl⟩<;>rfl
  rw[←e];cases o.dst<;>rfl
 ·rename_i f args ho;rw[ho]at h;obtain⟨R,h1,h2⟩:=h;exact⟨R,h1,fun m' r hr=>⟨h2 m' r hr,by cases o.dst<;>rfl⟩⟩
 ·rename_i f args ho;rw[ho]at h;simp only at h⊢;split
  ·rename_i g j2 hs;rw[hs]at h;obtain⟨R,h1,h2⟩:=h;exact⟨R,h1,fun m' r hr=>⟨h2 m' r hr,by cases o.dst<;>rfl⟩⟩
  rename_i Bs;split at h
  ·rename_i g j2 hs;exact absurd hs (Bs g j2)
  exact h
 ·rename_i f args ho;rw[ho]at h;obtain⟨m',r,h1,h2⟩:=h;exact⟨m',r,h1,h2,by cases o.dst<;>rfl⟩
 ·rename_i f args ho;rw[ho]at h;obtain⟨r,h1,h2⟩:=h;exact⟨r,h1,h2,by cases o.dst<;>rfl⟩
 ·rename_i f args ho;rw[ho]at h;simp only at h⊢;split
  ·rename_i g j2 hs;rw[hs]at h;obtain⟨m',r,h1,h2⟩:=h;exact⟨m',r,h1,h2,by cases o.dst<;>rfl⟩
  rename_i Bs;split at h
  ·rename_i g j2 hs;exact absurd hs (Bs g j2)
  exact h
 ·rename_i f args ho;rw[ho]at h;obtain⟨ds,r,h1,h2,h3,h4⟩:=h;exact⟨ds,r,h1,h2,h3,h4,by cases o.dst<;>rfl⟩
 ·rename_i f args ho;rw[ho]at h;simp only at h⊢;split
  ·rename_i g j2 hs;rw[hs]at h;obtain⟨ds,r,h1,h2,h3,h4⟩:=h;exact⟨ds,r,h1,h2,h3,h4,by cases o.dst<;>rfl⟩
  rename_i Bs;split at h
  ·rename_i g j2 hs;exact absurd hs (Bs g j2)
  exact h
 rename_i h0 h1 h2 h3 h4 h5 h6 h7;split at h
 ·rename_i kk sz bytes x k y ts ho;exact absurd ho (h0 kk sz bytes x k y ts)
 ·rename_i f args ho;exact absurd ho (h1 f args)
 ·rename_i f args ho;exact absurd ho (h2 f args)
 ·rename_i f args ho;exact absurd ho (h3 f args)
 ·rename_i f args ho;exact absurd ho (h4 f args)
 ·rename_i f args ho;exact absurd ho (h5 f args)
 ·rename_i f args ho;exact absurd ho (h6 f args)
 ·rename_i f args ho;exact absurd ho (h7 f args)
 split at h
 ·exact⟨h,by rw[Zh,(Ga _ _).2]⟩
 exact h.elim
theorem aez:∀{l:List RI} {s:PS} {K:PS→Prop},lk P l s K→lk P l s (aA5 s.ctx K):=by
 intro l
 induction l with
 |nil=>intro s K h;exact⟨h,rfl⟩
 |cons o r ih=>
  intro s K h;rw[Bl]at h⊢;split
  ·rename_i hw;rw[hw]at h;refine a4x ?_ (ao7 h);rintro s' ⟨h1,h2⟩;have:=ih h1;rw[h2]at this;exact this
  ·rename_i hw;rw[hw]at h;have:=ih h
   have e:(s.put o.dst (.d (.Ar []))).ctx=s.ctx:=by cases o.dst<;>rfl
   rw[e]at this;exact this
  rename_i hw;rw[hw]at h;exact h
def aFh(c:Nat→V×Value)(Q:Exit→PS→Prop):Exit→PS→Prop:=fun e s'=>Q e s'∧s'.ctx=c
theorem a3t:∀{c:dn} {s:PS} {Q:Exit→PS→Prop},kq P c Q s→kq P c (aFh s.ctx Q) s:=by
 intro c
 induction c with
 |skip=>intro s Q h;exact⟨h,rfl⟩
 |region ops d fz=>
  intro s Q h;have:=aez (s:=if d=true then(s.xc (sh s.base fz)).uu (sh s.base (ql ops))else s.xc (sh s.base fz)) h
  have e:(if d=true then(s.xc (sh s.base fz)).uu (sh s.base (ql ops))else s.xc (sh s.base fz)).ctx=s.ctx:=by
   split
   ·rw[(Ga _ _).2,acz]
   rw[acz]
  rw[e]at this;exact this
 |seq x y ihx ihy=>
  intro s Q h;rw[a3s];refine Fz (fun e s' h'=>?_) (ihx h);obtain⟨h1,h2⟩:=h'
  cases e with
  |normal=>
   have:=ihy h1;rw[h2]at this;exact this
  |_=>exact⟨h1,h2⟩
 |cond c x y ihx ihy=>
  intro s Q h;simp only[kq]at h⊢;split at h
  ·split at h
   ·rename_i hx;simp only[hx,cz];exact ihx h
   rename_i hx;simp only[hx,fw,bn];exact ihy h
  exact h.elim
 |block id c ih=>
  intro s Q h;rw[Zv];refine Fz (fun e s' h'=>?_) (ih h);obtain⟨h1,h2⟩:=h'
  cases e with
  |exit i=>
   simp only at h1⊢;split
   ·rename_i hi;rw[bd hi]at h1;exact⟨h1,h2⟩
   rename_i hi;rw[al hi]at h1;exact⟨h1,h2⟩
  |_=>exact⟨h1,h2⟩
 |loop c ih=>
  intro s Q h;obtain⟨I,m,h0,h1⟩:=h;refine⟨fun s'=>I s'∧s'.ctx=s.ctx,m,⟨h0,rfl⟩,fun s' hI=>Fz (fun e s'' h'=>?_) (ih (h1 s' hI.1))⟩;obtain⟨k1,k2⟩:=h';rw[hI.2]at k2
  cases e with
  |normal=>exact⟨⟨k1.1,k2⟩,k1.2⟩
  |_=>exact⟨k1,k2⟩
 |freeze=>intro s Q ⟨ids,h⟩;exact⟨ids,h,acz ids s⟩
 |a6m l=>
  intro s Q ⟨I,h0,h1⟩;refine⟨fun A s'=>I A s'∧s'.ctx=s.ctx,⟨h0,rfl⟩,fun A s' hI=>⟨fun hA=>⟨(h1 A s' hI.1).1 hA,hI.2⟩,fun i o ho hA haf=>?_⟩⟩;have:=aez ((h1 A s' hI.1).2 i o ho hA haf);rw[hI.2]at this;exact this
 |both x y ihx ihy=>intro s Q h;exact⟨ihx h.1,ihy h.2⟩
 |exit id=>intro s Q h;exact⟨h,rfl⟩
 |ret=>intro s Q h;exact⟨h,rfl⟩
end
def akv(P:Program):ResultVar→Option J0
 | .tmp t=>some (.tmp t)
 | .cell a t=>match lg P t,B9 P t with
  |some n,some g=>if g=true∨n=1 then some (.cell a n g)else none
  |_,_=>none
def T9(P:Program):List ResultVar→Option (List J0)
 |[]=>some []
 |r::l=>match akv P r,T9 P l with
  |some x,some y=>some (x::y)
  |_,_=>none
def RI.bare(o:RI):RI:=⟨o.dst,o.op,o.guard,[]⟩
def dn.bare:dn→dn
 | .region l d f=> .region (l.map RI.bare) d f
 | .seq a b=> .seq a.bare b.bare
 | .cond c a b=> .cond c a.bare b.bare
 | .block i c=> .block i c.bare
 | .loop c=> .loop c.bare
 | .both a b=> .both a.bare b.bare
 | .skip=> .skip
 | .freeze=> .freeze
 | .a6m l=> .a6m l
 | .exit i=> .exit i
 | .ret=> .ret
theorem Zx{P:Program}{K:PS→Prop}:∀(l:List RI) (s:PS),lk P (l.map RI.bare) s K=lk P l s K
 |[],_=>rfl
 |o::l,s=>by
  rw[dr,Bl,Bl];have h1:wanted o.bare s=wanted o s:=rfl;have h2:∀K',H6 P o.bare s K'=H6 P o s K':=fun _=>rfl;rw[h1,h2];have h3:(fun s'=>lk P (l.map RI.bare) s' K)=fun s'=>lk P l s' K:=funext fun s'=>Zx l s';rw[h3,Zx l];rfl
theorem ahi(l:List RI):ql (l.map RI.bare)=ql l:=by
 unfold ql;rw[List.flatMap_map];rfl
theorem Ex{P:Program}:∀(c:dn) (Q:Exit→PS→Prop) (s:PS),kq P c.bare Q s=kq P c Q s
 | .skip,_,_=>rfl
 | .freeze,_,_=>rfl
 | .a6m _,_,_=>rfl
 | .exit _,_,_=>rfl
 | .ret,_,_=>rfl
 | .region l d f,Q,s=>by
  show lk P (l.map RI.bare) (if d=true then(s.xc (sh s.base f)).uu (sh s.base (ql (l.map RI.bare)))else s.xc (sh s.base f)) (Q .normal)=_;rw[Zx,ahi];rfl
 | .seq a b,Q,s=>by
  show kq P a.bare (fun e s'=>match e with| .normal=>kq P b.bare Q s'|e=>Q e s') s=kq P a (fun e s'=>match e with| .normal=>kq P b Q s'|e=>Q e s') s
  rw[Ex a]
  congr 1
  funext e s'
  cases e<;>first|exact Ex b Q s'|rfl
 | .cond c a b,Q,s=>by
  show(match c.ev s with| .d (.bool x)=>if x then kq P a.bare Q s else kq P b.bare Q s|_=>False)=(match c.ev s with| .d (.bool x)=>if x then kq P a Q s else kq P b Q s|_=>False)
  rw[Ex a,Ex b]
 | .block i c,Q,s=>Ex c _ s
 | .loop c,Q,s=>by
  show(∃(I:PS→Prop) (m:PS→Nat),I s∧∀s',I s'→kq P c.bare (fun e s''=>match e with| .normal=>I s''∧m s''<m s'|e=>Q e s'') s')=∃(I:PS→Prop) (m:PS→Nat),I s∧∀s',I s'→kq P c (fun e s''=>match e with| .normal=>I s''∧m s''<m s'|e=>Q e s'') s'
  simp only[Ex c]
 | .both a b,Q,s=>by
  show(kq P a.bare Q s∧kq P b.bare Q s)=(kq P a Q s∧kq P b Q s);rw[Ex a,Ex b]
def ff(P:Program)(f:Nat)(an:Ann):Option (dn×List J0×Nat):=
 match P.funcs[f]? with
 |none=>none
 |some fn=>if fn.name= "runtime.NumGoroutine"then none else match fn.body with
  |none=>none
  |some c=>match comp P fn.ntmps an c,T9 P fn.results.toList with
   |some rc,some rs=>some (rc.bare,rs,fn.ntmps)
   |_,_=>none
def start(args:List D):PS:={tmp:=fun t=>match args[t]? with|some x=> .d x|none=> .no,dc:=fun _=>none,av:=fun _=>0,mp:=fun _=>none}
section
variable{P:Program}{B0 nt:Nat}{w0 w w':World}{G0 G G':gq}{s s' s1 s2:PS}{E E':Env}{a:Act}
def avv(s:PS):V→List Nat
 | .ref id _ _=>[id]
 | .l9 id _=>[id]
 | .agg cs=>match Pn s cs with
  |some p=>p.2
  |none=>[]
 |_=>[]
theorem af5{x:V}{d:D}{v:Value}(hp:Ye s x=some d)(hv:iw G E s x v)(hle:G.le G')(hg:∀id∈avv s x,Zl G' G E s id):i6 G' d v:=by
 cases x with
 |d y=>simp only[Ye,ak]at hp;subst hp;exact i6.mono hle hv
 |ref id av len=>
  simp only[Ye,aq]at hp;obtain⟨⟨y,ids⟩,hp,rfl⟩:=hp
  have Vu:ids=[id]:=by
   simp only[Qs]at hp;split at hp
   ·split at hp
    ·simp only[ak,cd]at hp;exact hp.2.symm
    cases hp
   cases hp
  exact a5c (c:= .ref id av len) hp hv hle (by rw[Vu];exact hg)
 |l9 id av=>
  simp only[Ye,aq]at hp;obtain⟨⟨y,ids⟩,hp,rfl⟩:=hp
  have Vu:ids=[id]:=by
   simp only[Qs]at hp;split at hp
   ·simp only[aq,cd]at hp;obtain⟨_,_,_,hp⟩:=hp;exact hp.symm
   cases hp
  exact a5c (c:= .l9 id av) hp hv hle (by rw[Vu];exact hg)
 |agg cs=>
  simp only[Ye,aq]at hp;obtain⟨⟨ds,ids⟩,hp,rfl⟩:=hp;simp only[avv,hp]at hg;obtain⟨k1,k2⟩:=aa3 (G:=G) (G':=G') (E:=E) hp;obtain⟨vs,rfl,e2,e3⟩:=F4.1 hv;show i6 G' (.agg ds) (.agg vs);refine i6.agg (by omega) fun i x u hx hu=>?_
  have hi:i<cs.length:=by have:=(aw.1 hx).1;omega
  exact k2 hle hg i cs[i] x u (ax hi) hx (e3 i _ u (ax hi) hu)
 |_=>cases hp
def abw(s:PS):J0→List Nat
 | .tmp t=>avv s (s.tmp t)
 | .cell t n g=>match C4 s n g (s.tmp t)with
  |some v=>avv s v
  |none=>[]
theorem awu(h:jf B0 w0 nt G0 s G E a w){r:ResultVar}{x:J0}(hc:akv P r=some x){d:D}(hd:ain s x=some d)(hle:G.le G')(hg:∀id∈abw s x,Zl G' G E s id):
  ∃v,(match r with| .tmp t=>pure (a.tmps.getD t undef)| .cell b t=>do loadVar t (←asAddr (a.tmps.getD b undef)):Sem Value).run P w= .ok v w∧i6 G' d v:=by
 cases r with
 |tmp t=>
  simp only[akv,ak]at hc;subst hc;exact⟨_,rfl,af5 hd (h.tmp t) hle hg⟩
 |cell b t=>
  simp only[akv]at hc;split at hc
  ·rename_i n g h1 h2;split at hc
   ·rename_i h3
    injection hc with hc
    subst hc;simp only[ain]at hd;simp only[abw]at hg;split at hd
    ·rename_i v hv;rw[hv]at hg;obtain⟨u,hr,hu⟩:=X3 h h1 h2 h3 hv (h.tmp b);refine⟨u,?_,af5 hd hu hle hg⟩
     have hp:∃ad,a.tmps.getD b undef= .pointer (some ad):=by
      have hb:=h.tmp b;generalize s.tmp b=y at hv hb
      cases y with
      |ie id av off=>
       simp only[C4]at hv;split at hv
       ·rename_i cs Iu;obtain⟨e1,e2⟩:=ve Iu;exact⟨_,hb.2 e1 ⟨_,e2,rfl⟩⟩
       cases hv
      |Hw id av ln i off=>
       simp only[C4]at hv;split at hv
       ·rename_i sz dm he;obtain⟨e1,e2⟩:=yj he;split at hv
        ·split at hv
         ·rename_i hh;exact⟨_,(hb.2 e1 _ _ (xj e2)).2 hh.1⟩
         cases hv
        cases hv
       split at hv
       ·rename_i sz dm he;obtain⟨e1,b,e2,e3,_⟩:=Kd he;split at hv
        ·split at hv
         ·rename_i hh;exact⟨_,(hb.2 e1 _ _ ((xj e2).trans e3)).2 hh.1⟩
         cases hv
        cases hv
       cases hv
      |d z=>
       cases z with
       |uw cells off=>
        generalize a.tmps.getD b undef=q at hb;cases hb;exact⟨_,rfl⟩
       |_=>cases hv
      |_=>cases hv
     obtain⟨ad,had⟩:=hp;show(do loadVar t (←asAddr (a.tmps.getD b undef)):Sem Value).run P w=_;rw[had]at hr⊢;unfold aKu at hr;simp only[cn]at hr⊢;have e1:(aD5 (.pointer (some ad))).run P w= .ok ad w:=rfl;have e2:(asAddr (.pointer (some ad))).run P w= .ok ad w:=rfl;rw[e1]at hr;rw[e2];exact hr
    cases hd
   cases hc
  cases hc
theorem afs{α:Type}(f:α→Sem Value)(w:World):∀(l:List α) (vs:List Value),l.length=vs.length→(∀(i:Nat) (x:α) (v:Value),l[i]? =some x→vs[i]? =some v→(f x).run P w= .ok v w)→(l.mapM f).run P w= .ok vs w:=by
 intro l
 induction l with
 |nil=>intro vs hl _;cases vs with
  |nil=>simp
  |cons _ _=>cases hl
 |cons x r ih=>
  intro vs hl h
  cases vs with
  |nil=>cases hl
  |cons v vs=>
   simp only[List.mapM_cons,cn,h 0 x v rfl rfl,bm,ih vs (by simpa using hl) (fun i x v hx hv=>h (i+1) x v (by simpa using hx) (by simpa using hv)),ep]
theorem af0(h:jf B0 w0 nt G0 s G E a w)(hle:G.le G'):∀{l:List ResultVar} {xs:List J0} {ds:List D},T9 P l=some xs→a1j s xs=some ds→(∀id∈xs.flatMap (abw s),Zl G' G E s id)→
  ∃vs:List Value,vs.length=ds.length∧l.length=vs.length∧xs.length=ds.length∧(∀(i:Nat) (x:ResultVar) (v:Value),l[i]? =some x→vs[i]? =some v→(match x with| .tmp t=>pure (a.tmps.getD t undef)| .cell b t=>do loadVar t (←asAddr (a.tmps.getD b undef)):Sem Value).run P w= .ok v w)∧
   ∀(i:Nat) (d:D) (v:Value),ds[i]? =some d→vs[i]? =some v→i6 G' d v:=by
 intro l
 induction l with
 |nil=>
  intro xs ds hc hd _;simp only[T9,ak]at hc;subst hc;simp only[a1j,ak]at hd;subst hd;exact⟨[],rfl,rfl,rfl,by simp,by simp⟩
 |cons r l ih=>
  intro xs ds hc hd hg;simp only[T9]at hc;split at hc
  ·rename_i x y h1 h2
   injection hc with hc
   subst hc;simp only[a1j]at hd;split at hd
   ·rename_i d ds' h3 h4
    injection hd with hd
    subst hd;obtain⟨vs,k1,k2,k3,k4,k5⟩:=ih h2 h4 (fun id hid=>hg id (by simp only[avg,lx];exact .inr hid));obtain⟨v,hv1,hv2⟩:=awu h h1 h3 hle (fun id hid=>hg id (by simp only[avg,lx];exact .inl hid));refine⟨v::vs,by simp[k1],by simp[k2],by simp[k3],fun i x u hx hu=>?_,fun i d u hx hu=>?_⟩
    ·cases i with
     |zero=>simp only[dv,ak]at hx hu;subst hx hu;exact hv1
     |succ i=>simp only[i7]at hx hu;exact k4 i x u hx hu
    cases i with
    |zero=>simp only[dv,ak]at hx hu;subst hx hu;exact hv2
    |succ i=>simp only[i7]at hx hu;exact k5 i d u hx hu
   cases hd
  cases hc
theorem Q5(h:jf B0 w0 nt G0 s G E a w){fn:Func}{xs:List J0}(hc:T9 P fn.results.toList=some xs){r:D}(hr:Yc s xs=some r):
  ∃v G',(results fn a.tmps).run P w= .ok v w∧G0.le G'∧G0.same G' B0∧GOk G' w∧i6 G' r v:=by
 obtain⟨G',hle,h',hg⟩:=h.uu (xs.flatMap (abw s))
 have all:∃ds,a1j s xs=some ds∧((∃d,ds=[d]∧r=d)∨(ds.length≠1∧r= .Ar ds)):=by
  unfold Yc at hr;split at hr
  ·rename_i x;exact⟨[r],by simp[a1j,hr],.inl ⟨r,rfl,rfl⟩⟩
  rename_i hne;simp only[aq]at hr;obtain⟨ds,hds,rfl⟩:=hr;refine⟨ds,hds,.inr ⟨fun hl=>?_,rfl⟩⟩;obtain⟨vs,_,_,k3,_⟩:=af0 h hle hc hds hg
  match xs,k3,hne with
  |[x],_,hne=>exact hne x rfl
  |[],k3,_=>simp at k3;omega
  |_::_::_,k3,_=>simp at k3;omega
 obtain⟨ds,hds,a1w⟩:=all;obtain⟨vs,k1,k2,k3,k4,k5⟩:=af0 h hle hc hds hg
 have K3:=afs (P:=P) (fun x:ResultVar=>(match x with| .tmp t=>pure (a.tmps.getD t undef)| .cell b t=>do loadVar t (←asAddr (a.tmps.getD b undef)):Sem Value)) w fn.results.toList vs k2 k4
 have ati:(fn.results.mapM fun(x:ResultVar)=>(match x with| .tmp t=>pure (a.tmps.getD t undef)| .cell b t=>do loadVar t (←asAddr (a.tmps.getD b undef)):Sem Value)).run P w= .ok vs.toArray w:=by
  rw[ab7,aL9,K3];rfl
 have aGu:(results fn a.tmps).run P w= .ok (if hh:vs.toArray.size=1 then vs.toArray[0]else .tuple vs.toArray) w:=by
  unfold results;simp only[cn]
  erw [ati]
  simp only[bm,ep]
 refine⟨_,G',aGu,h'.gle,h'.J4,h'.gok,?_⟩;rcases a1w with ⟨d,rfl,rfl⟩|⟨hne,rfl⟩
 ·have h1:vs.toArray.size=1:=by simpa using k1
  rw[dif_pos h1];exact k5 0 r _ rfl (by simp)
 have h1:¬vs.toArray.size=1:=by simp;omega
 rw[dif_neg h1];exact i6.Ar (by simpa using k1) fun i x v hx hv=>k5 i x v hx (by simpa using hv)
theorem a9q{args:List D}{vs:Array Value}(hG:GOk G w)(hl:vs.size=args.length)(hr:∀(i:Nat) (x:D) (v:Value),args[i]? =some x→vs[i]? =some v→i6 G x v)(hn:args.length≤nt):
  jf w.heap.size w nt G (start args) G ⟨fun _=>0,fun _=>0,fun _=>0⟩ {tmps:=vs++Ns (nt-vs.size) undef,defers:=[]} w:=by
 refine⟨by simp;omega,rfl,rfl,Bel.refl _ _,hG,gq.la _,⟨fun _ _ _=>rfl,fun _ _=>rfl⟩,fun t=>?_,fun i b hb=>(by cases hb),fun i j bi bj hi=>(by cases hi),fun i es hi=>(by cases hi),fun i j bi bj hi=>(by cases hi),fun p=>trivial,fun _=>Nt.nil⟩
 show iw G _ _ (match args[t]? with|some x=>V.d x|none=> .no) ((vs++Ns (nt-vs.size) undef).getD t undef)
 cases hx:args[t]? with
 |none=>trivial
 |some x=>
  have ht:t<args.length:=(aw.1 hx).1;rw[jd,ow (by omega),bh (by omega)];exact hr t x _ hx (bh (by omega))
theorem ec(hm:P.follows .mixedOrders=true){f:Nat}{an:Ann}{rc:dn}{rs:List J0}{nt:Nat}(hf:ff P f an=some (rc,rs,nt)){args:List D}{r:D}(hn:args.length≤nt)
  (h:kq P rc (fun e s=>(e= .normal∨e= .ret)∧Yc s rs=some r) (start args)):iz P f args r:=by
 unfold ff at hf;split at hf
 ·cases hf
 rename_i fn hfn;split at hf
 ·cases hf
 rename_i U8;split at hf
 ·cases hf
 rename_i c hb;split at hf
 ·rename_i rc' rs' h1 h2;simp only[ak,cd]at hf;obtain⟨rfl,rfl,rfl⟩:=hf;simp only[Ex]at h;refine⟨by unfold zf;rw[hfn];simp[U8,hb],fun G w vs hG hl hr=>?_⟩;refine calls_of_wp hfn hb (wp_mono (St hm c h1 (a9q hG hl hr hn) (a3t h)) fun e a' w' hg=>?_);obtain⟨s',G',E',⟨⟨he,ajn⟩,a0g⟩,h'⟩:=hg;obtain⟨v,G2,k1,k2,k3,k4,k5⟩:=Q5 h' h2 ajn
  have fin:a'.defers=[]∧∃v,(results fn a'.tmps).run P w'= .ok v w'∧∃v' G',avp v= .returned v'∧G.le G'∧G.same G' w.heap.size∧GOk G' w'∧Bel True w.heap.size w w'∧i6 G' r v':=
   ⟨h'.defers,v,k1,v,G2,rfl,k2,k3,k4,h'.below.M8 (fun _=>by rw[a0g];intro i v e;exact(aL1 e).2.symm),k5⟩
  rcases he with rfl|rfl
  ·exact fin
  exact fin
 cases hf
def W2(c:Nat→V×Value)(i:Nat):V×Value:=match(c i).1 with
 | .d _=>c i
 | .no=>c i
 |_=>(.no,.tuple #[])
theorem az1{c:Nat→V×Value}{i:Nat}{v:Value}(h:c i=(.no,v)):W2 c i=(.no,v):=by unfold W2;rw[h]
theorem akm{c:Nat→V×Value}(h:Plain c):Plain (W2 c):=by
 intro i v e;unfold W2 at e;split at e
 ·exact h i v e
 ·exact h i v e
 exact(aL1 e).2.symm
theorem aug{c:Nat→V×Value}{B:Nat}{w:World}(h:∀i,Nt (c i) B w)(i:Nat):Nt (W2 c i) B w:=by
 unfold W2;split
 ·exact h i
 ·exact h i
 exact Nt.nil
theorem ahy{c:Nat→V×Value}(hc:∀(i:Nat) (d:D) (v:Value),c i=(V.d d,v)→i6 G d v)(ht:∀i,Nt (c i) w.heap.size w){args:List D}{vs:Array Value}(hG:GOk G w)(hl:vs.size=args.length)(hr:∀(i:Nat) (x:D) (v:Value),args[i]? =some x→vs[i]? =some v→i6 G x v)(hn:args.length≤nt):
  jf w.heap.size w nt G {start args with ctx:=W2 c} G ⟨fun _=>0,fun _=>0,fun _=>0⟩ {tmps:=vs++Ns (nt-vs.size) undef,defers:=[]} w:=by
 refine⟨by simp;omega,rfl,rfl,Bel.refl _ _,hG,gq.la _,⟨fun _ _ _=>rfl,fun _ _=>rfl⟩,fun t=>?_,fun i b hb=>(by cases hb),fun i j bi bj hi=>(by cases hi),fun i es hi=>(by cases hi),fun i j bi bj hi=>(by cases hi),fun p=>?_,fun p=>aug ht p⟩;rotate_left
 ·show iw G _ _ (W2 c p).1 (W2 c p).2;unfold W2;split
  ·rename_i d e;have h1:c p=(V.d d,(c p).2):=R1 e rfl;have h2:=hc p d (c p).2 h1;generalize(c p).1=x at e;subst e;exact h2
  ·rename_i e;rw[e];trivial
  trivial
 show iw G _ _ (match args[t]? with|some x=>V.d x|none=> .no) ((vs++Ns (nt-vs.size) undef).getD t undef)
 cases hx:args[t]? with
 |none=>trivial
 |some x=>
  have ht:t<args.length:=(aw.1 hx).1;rw[jd,ow (by omega),bh (by omega)];exact hr t x _ hx (bh (by omega))
theorem af9(hm:P.follows .mixedOrders=true){f:Nat}{an:Ann}{rc:dn}{rs:List J0}{nt:Nat}(hf:ff P f an=some (rc,rs,nt)){args:List D}{r:D}(c:Nat→V×Value)(hn:args.length≤nt)
  (h:kq P rc (fun e s=>(e= .normal∨e= .ret)∧Yc s rs=some r) {start args with ctx:=W2 c}):P7 P c f args r:=by
 unfold ff at hf;split at hf
 ·cases hf
 rename_i fn hfn;split at hf
 ·cases hf
 rename_i U8;split at hf
 ·cases hf
 rename_i cc hb;split at hf
 ·rename_i rc' rs' h1 h2;simp only[ak,cd]at hf;obtain⟨rfl,rfl,rfl⟩:=hf;simp only[Ex]at h;refine⟨by unfold zf;rw[hfn];simp[U8,hb],fun G w vs hc htk hG hl hr=>?_⟩;refine calls_of_wp hfn hb (wp_mono (St hm cc h1 (ahy hc htk hG hl hr hn) (a3t h)) fun e a' w' hg=>?_);obtain⟨s',G',E',⟨⟨he,ajn⟩,a0g⟩,h'⟩:=hg;obtain⟨v,G2,k1,k2,k3,k4,k5⟩:=Q5 h' h2 ajn
  have fin:a'.defers=[]∧∃v,(results fn a'.tmps).run P w'= .ok v w'∧∃v' G',avp v= .returned v'∧G.le G'∧G.same G' w.heap.size∧GOk G' w'∧Bel (Plain c) w.heap.size w w'∧i6 G' r v':=
   ⟨h'.defers,v,k1,v,G2,rfl,k2,k3,k4,h'.below.M8 (fun q=>by rw[a0g];exact akm q),k5⟩
  rcases he with rfl|rfl
  ·exact fin
  exact fin
 cases hf
end
section
variable{P:Program}{B0 nt:Nat}{w0 w w':World}{G0 G G':gq}{s s' s1 s2:PS}{E E':Env}{a:Act}
def enter(m:Mem)(args:List V)(b:Nat)(c:Nat→V×Value):PS:={tmp:=fun t=>args.getD t .no,dc:=m.dc,av:=m.av,mp:=m.mp,base:=b,ctx:=c}
def Clean(m m':Mem):Prop:=∀i,(m'.dc i=none∨(m'.dc i=m.dc i∧m'.av i=m.av i))∧(m'.mp i=none∨(m'.mp i=m.mp i∧m'.av i=m.av i))
def Oa(m:Mem):C→Prop
 | .d _=>True
 | .ref i av _=>av≤m.av i
 | .l9 i av=>av≤m.av i
 | .ptr i av _=>av≤m.av i
def Hh(m:Mem):V→Prop
 | .d _=>True
 | .ref i av _=>av≤m.av i
 | .l9 i av=>av≤m.av i
 | .ie i av _=>av≤m.av i
 | .Hw i av _ _ _=>av≤m.av i
 | .oq _ ids=>∀p∈ids,p.2≤m.av p.1
 | .agg cs=>∀c∈cs,Oa m c
 | .Ar cs=>∀c∈cs,Oa m c
 | .Kr i av _ _=>av≤m.av i
 | .Hx i av _ _=>av≤m.av i
 | .win i av _ _ _=>av≤m.av i
 | .no=>True
def Ms(m:Mem):B→Prop
 | .loc cs=>∀c∈cs,Oa m c
 | .qi _ dm=>∀e∈dm,∀c∈e,Oa m c
 |_=>True
theorem Oa.mono{m m':Mem}(h:∀i,m.av i≤m'.av i){c:C}(hc:Oa m c):Oa m' c:=by
 cases c with
 |d x=>trivial
 |_=>exact ij hc (h _)
theorem Hh.mono{m m':Mem}(h:∀i,m.av i≤m'.av i){v:V}(hv:Hh m v):Hh m' v:=by
 cases v with
 |d x=>trivial
 |no=>trivial
 |agg cs=>exact fun c hc=>(hv c hc).mono h
 |Ar cs=>exact fun c hc=>(hv c hc).mono h
 |oq f ids=>exact fun p hp=>ij (hv p hp) (h _)
 |Kr i av l n=>exact ij (show av≤m.av i from hv) (h _)
 |Hx i av l n=>exact ij (show av≤m.av i from hv) (h _)
 |win i av l n o=>exact ij (show av≤m.av i from hv) (h _)
 |_=>exact ij hv (h _)
theorem Zm{c:C}(h:CWf s c):Oa s.mem c:=by cases c<;>exact h
theorem ami{v:V}(h:VWf s v):Hh s.mem v:=by
 cases v with
 |agg cs=>exact fun c hc=>Zm (h c hc)
 |Ar cs=>exact fun c hc=>Zm (h c hc)
 |d x=>trivial
 |no=>trivial
 |Kr i av l n=>exact(show av≤s.av i from h)
 |Hx i av l n=>exact(show av≤s.av i from h)
 |win i av l n o=>exact(show av≤s.av i from h)
 |ref i av l=>exact(show av≤s.av i from h)
 |l9 i av=>exact(show av≤s.av i from h)
 |ie i av l=>exact(show av≤s.av i from h)
 |Hw i av _ _ _=>exact(show av≤s.av i from h)
 |oq f ids=>exact(show∀p∈ids,p.2≤s.av p.1 from h)
theorem yq.clean{m':Mem}(hc:Clean s.mem m'){c:C}{v:Value}(h:yq G E s c v)(hw:Oa m' c)(he:s'.mem=m'):yq G E s' c v:=by
 have eb:s'.dc=m'.dc:=by rw[←he];rfl
 have ev:s'.av=m'.av:=by rw[←he];rfl
 have em:s'.mp=m'.mp:=by rw[←he];rfl
 cases c with
 |d x=>exact h
 |ref id av len=>
  refine⟨by rw[ev];exact hw,fun nh sz dm hb=>?_⟩;unfold PS.De at hb;rw[eb]at hb;rw[ev]at nh;rcases(hc id).1 with h0|⟨h1,h2⟩
  ·rw[h0]at hb;cases hb
  exact h.2 (by rw[←nh,h2];rfl) sz dm (by unfold PS.De;rw[←hb,h1];rfl)
 |l9 id av=>
  refine⟨by rw[ev];exact hw,fun nh hm=>?_⟩;rw[em]at hm;rw[ev]at nh;rcases(hc id).2 with h0|⟨h1,h2⟩
  ·rw[h0]at hm;cases hm
  exact h.2 (by rw[←nh,h2];rfl) (by rw[h1]at hm;exact hm)
 |ptr id av off=>
  refine⟨by rw[ev];exact hw,fun nh ⟨b,hb,hva⟩=>?_⟩;rw[eb]at hb;rw[ev]at nh;rcases(hc id).1 with h0|⟨h1,h2⟩
  ·rw[h0]at hb;cases hb
  exact h.2 (by rw[←nh,h2];rfl) ⟨b,by rw[←hb,h1];rfl,hva⟩
theorem iw.clean{m':Mem}(hc:Clean s.mem m'){x:V}{v:Value}(h:iw G E s x v)(hw:Hh m' x)(he:s'.mem=m'):iw G E s' x v:=by
 have eb:s'.dc=m'.dc:=by rw[←he];rfl
 have ev:s'.av=m'.av:=by rw[←he];rfl
 cases x with
 |d x=>exact h
 |no=>trivial
 |ref id av len=>exact yq.clean (c:= .ref id av len) hc h hw he
 |l9 id av=>exact yq.clean (c:= .l9 id av) hc h hw he
 |ie id av off=>exact yq.clean (c:= .ptr id av off) hc h hw he
 |Kr id av len n=>
  refine⟨by rw[ev];exact hw,fun nh ⟨b,hb,hva⟩=>?_⟩;rw[eb]at hb;rw[ev]at nh;rcases(hc id).1 with h0|⟨h1,h2⟩
  ·rw[h0]at hb;cases hb
  exact h.2 (by rw[←nh,h2];rfl) ⟨b,by rw[←hb,h1];rfl,hva⟩
 |Hx id av n a=>
  refine⟨h.1,by rw[ev];exact hw,fun nh sz dm hb=>?_⟩;unfold PS.De at hb;rw[eb]at hb;rw[ev]at nh;rcases(hc id).1 with h0|⟨h1,h2⟩
  ·rw[h0]at hb;cases hb
  exact h.2.2 (by rw[←nh,h2];rfl) sz dm (by unfold PS.De;rw[←hb,h1];rfl)
 |win id av n o l=>
  refine⟨h.1,by rw[ev];exact hw,fun nh sz dm hb=>?_⟩;unfold PS.De at hb;rw[eb]at hb;rw[ev]at nh;rcases(hc id).1 with h0|⟨h1,h2⟩
  ·rw[h0]at hb;cases hb
  exact h.2.2 (by rw[←nh,h2];rfl) sz dm (by unfold PS.De;rw[←hb,h1];rfl)
 |Hw id av ln i off=>
  refine⟨by rw[ev];exact hw,fun nh sz dm hb=>?_⟩;unfold PS.De at hb;rw[eb]at hb;rw[ev]at nh;rcases(hc id).1 with h0|⟨h1,h2⟩
  ·rw[h0]at hb;cases hb
  exact h.2 (by rw[←nh,h2];rfl) sz dm (by unfold PS.De;rw[←hb,h1];rfl)
 |oq f ids=>
  refine⟨fun p hp=>by rw[ev];exact hw p hp,fun hall=>h.2 fun p hp=>?_⟩;obtain⟨k1,b,k2,k3⟩:=hall p hp;rw[eb]at k2;rw[ev]at k1;rcases(hc p.1).1 with h0|⟨h1,h2⟩
  ·rw[h0]at k2;cases k2
  exact⟨by rw[←k1,h2];rfl,b,by rw[←k2,h1];rfl,k3⟩
 |agg cs=>
  obtain⟨vs,e1,e2,e3⟩:=F4.1 h;exact F4.2 ⟨vs,e1,e2,fun i c u hi hu=>(e3 i c u hi hu).clean hc (hw c (jw hi)) he⟩
 |Ar cs=>
  obtain⟨vs,e1,e2,e3⟩:=Kk.1 h;exact Kk.2 ⟨vs,e1,e2,fun i c u hi hu=>(e3 i c u hi hu).clean hc (hw c (jw hi)) he⟩
theorem af1(h:jf B0 w0 nt G0 s G E a w){r:ResultVar}{x:J0}(hc:akv P r=some x){y:V}(hd:sq s x=some y):
  ∃v,(match r with| .tmp t=>pure (a.tmps.getD t undef)| .cell b t=>do loadVar t (←asAddr (a.tmps.getD b undef)):Sem Value).run P w= .ok v w∧iw G E s y v:=by
 cases r with
 |tmp t=>
  simp only[akv,ak]at hc;subst hc;simp only[sq,ak]at hd;subst hd;exact⟨_,rfl,h.tmp t⟩
 |cell b t=>
  simp only[akv]at hc;split at hc
  ·rename_i n g h1 h2;split at hc
   ·rename_i h3
    injection hc with hc
    subst hc;simp only[sq]at hd;obtain⟨u,hr,hu⟩:=X3 h h1 h2 h3 hd (h.tmp b);refine⟨u,?_,hu⟩
    have hp:∃ad,a.tmps.getD b undef= .pointer (some ad):=by
     have hb:=h.tmp b;generalize s.tmp b=z at hd hb
     cases z with
     |ie id av off=>
      simp only[C4]at hd;split at hd
      ·rename_i cs Iu;obtain⟨e1,e2⟩:=ve Iu;exact⟨_,hb.2 e1 ⟨_,e2,rfl⟩⟩
      cases hd
     |Hw id av ln i off=>
      simp only[C4]at hd;split at hd
      ·rename_i sz dm he;obtain⟨e1,e2⟩:=yj he;split at hd
       ·split at hd
        ·rename_i hh;exact⟨_,(hb.2 e1 _ _ (xj e2)).2 hh.1⟩
        cases hd
       cases hd
      split at hd
      ·rename_i sz dm he;obtain⟨e1,b,e2,e3,_⟩:=Kd he;split at hd
       ·split at hd
        ·rename_i hh;exact⟨_,(hb.2 e1 _ _ ((xj e2).trans e3)).2 hh.1⟩
        cases hd
       cases hd
      cases hd
     |d z=>
      cases z with
      |uw cells off=>
       generalize a.tmps.getD b undef=q at hb;cases hb;exact⟨_,rfl⟩
      |_=>cases hd
     |_=>cases hd
    obtain⟨ad,had⟩:=hp;show(do loadVar t (←asAddr (a.tmps.getD b undef)):Sem Value).run P w=_;rw[had]at hr⊢;unfold aKu at hr;simp only[cn]at hr⊢;have e1:(aD5 (.pointer (some ad))).run P w= .ok ad w:=rfl;have e2:(asAddr (.pointer (some ad))).run P w= .ok ad w:=rfl;rw[e1]at hr;rw[e2];exact hr
   cases hc
  cases hc
theorem toC_rel{y:V}{c:C}(h:y.toC=some c){v:Value}(hv:iw G E s y v):yq G E s c v:=by
 cases y<;>simp only[V.toC,ak,reduceCtorEq]at h<;>(subst h;exact hv)
theorem aob(h:jf B0 w0 nt G0 s G E a w):∀{l:List ResultVar} {xs:List J0} {cs:List C},T9 P l=some xs→Jh s xs=some cs→
  ∃vs:List Value,vs.length=cs.length∧l.length=vs.length∧xs.length=cs.length∧(∀(i:Nat) (x:ResultVar) (v:Value),l[i]? =some x→vs[i]? =some v→(match x with| .tmp t=>pure (a.tmps.getD t undef)| .cell b t=>do loadVar t (←asAddr (a.tmps.getD b undef)):Sem Value).run P w= .ok v w)∧
   ∀(i:Nat) (d:C) (v:Value),cs[i]? =some d→vs[i]? =some v→yq G E s d v:=by
 intro l
 induction l with
 |nil=>
  intro xs ds hc hd;simp only[T9,ak]at hc;subst hc;simp only[Jh,ak]at hd;subst hd;exact⟨[],rfl,rfl,rfl,by simp,by simp⟩
 |cons r l ih=>
  intro xs ds hc hd;simp only[T9]at hc;split at hc
  ·rename_i x y h1 h2
   injection hc with hc
   subst hc;simp only[Jh]at hd;split at hd
   ·rename_i d ds' h3 h4
    injection hd with hd
    subst hd;obtain⟨vs,k1,k2,k3,k4,k5⟩:=ih h2 h4;obtain⟨y,hy,hyc⟩:=ahn.1 h3;obtain⟨v,hv1,hv2⟩:=af1 h h1 hy;refine⟨v::vs,by simp[k1],by simp[k2],by simp[k3],fun i x u hx hu=>?_,fun i d u hx hu=>?_⟩
    ·cases i with
     |zero=>simp only[dv,ak]at hx hu;subst hx hu;exact hv1
     |succ i=>simp only[i7]at hx hu;exact k4 i x u hx hu
    cases i with
    |zero=>simp only[dv,ak]at hx hu;subst hx hu;exact toC_rel hyc hv2
    |succ i=>simp only[i7]at hx hu;exact k5 i d u hx hu
   cases hd
  cases hc
theorem a4y(h:jf B0 w0 nt G0 s G E a w){fn:Func}{xs:List J0}(hc:T9 P fn.results.toList=some xs){r:V}(hr:pa s xs=some r):
  ∃v,(results fn a.tmps).run P w= .ok v w∧iw G E s r v:=by
 have fin:∀{vs:List Value},fn.results.toList.length=vs.length→(∀(i:Nat) (x:ResultVar) (v:Value),fn.results.toList[i]? =some x→vs[i]? =some v→(match x with| .tmp t=>pure (a.tmps.getD t undef)| .cell b t=>do loadVar t (←asAddr (a.tmps.getD b undef)):Sem Value).run P w= .ok v w)→
   (results fn a.tmps).run P w= .ok (if hh:vs.toArray.size=1 then vs.toArray[0]else .tuple vs.toArray) w:=by
  intro vs k2 k4
  have K3:=afs (P:=P) (fun x:ResultVar=>(match x with| .tmp t=>pure (a.tmps.getD t undef)| .cell b t=>do loadVar t (←asAddr (a.tmps.getD b undef)):Sem Value)) w fn.results.toList vs k2 k4
  have ati:(fn.results.mapM fun(x:ResultVar)=>(match x with| .tmp t=>pure (a.tmps.getD t undef)| .cell b t=>do loadVar t (←asAddr (a.tmps.getD b undef)):Sem Value)).run P w= .ok vs.toArray w:=by
   rw[ab7,aL9,K3];rfl
  unfold results;simp only[cn]
  erw [ati]
  simp only[bm,ep]
 unfold pa at hr;split at hr
 ·rename_i x;generalize hl:fn.results.toList=l at hc fin
  match l,hc with
  |[q],hc=>
   simp only[T9]at hc;split at hc
   ·rename_i x' y h1 h2
    injection h2 with h2
    subst h2
    injection hc with hc
    injection hc with hc _
    subst hc;obtain⟨v,hv1,hv2⟩:=af1 h h1 hr
    have:=fin (vs:=[v]) rfl (fun i x u hx hu=>by
     match i with
     |0=>simp at hx hu;subst hx hu;exact hv1
     |i+1=>simp at hx)
    exact⟨v,this,hv2⟩
   cases hc
  |[],hc=>cases hc
  |q1::q2::r,hc=>
   simp only[T9]at hc;split at hc
   ·rename_i h1 h2
    injection hc with hc
    injection hc with _ hc
    subst hc;split at h2
    ·injection h2 with h2;cases h2
    cases h2
   cases hc
 rename_i hne;simp only[aq]at hr;obtain⟨cs,Iu,rfl⟩:=hr;obtain⟨vs,k1,k2,k3,k4,k5⟩:=aob h hc Iu;have:=fin k2 k4
 have h1:¬vs.toArray.size=1:=by
  simp only[Wo];intro hl
  match xs,k3,hne with
  |[x],_,hne=>exact hne x rfl
  |[],k3,_=>simp at k3;omega
  |_::_::_,k3,_=>simp at k3;omega
 rw[dif_neg h1]at this;exact⟨_,this,Kk.2 ⟨_,rfl,by simpa using k1,fun i c u hi hu=>k5 i c u hi (by simpa using hu)⟩⟩
structure Leaves(m:Mem)(s:PS)(m':Mem)(r:V):Prop where
 clean:Clean s.mem m'
 av:∀i,m.av i≤m'.av i
 cells:∀i b,m'.dc i=some b→m.dc i=some b∨Ms m' b
 mps:∀i es,m'.mp i=some es→m.mp i=some es∨∀e∈es,Oa m' e.2
 wf:Hh m' r
theorem aap(hm:P.follows .mixedOrders=true){f:Nat}{an:Ann}{rc:dn}{rs:List J0}{n':Nat}(hf:ff P f an=some (rc,rs,n')){s:PS}{args:List V}{R:Mem→V→Prop}(hn:args.length≤n')(b:Nat)
  (h:∀c,(∀i,c (2*i+1)=s.ctx i)→kq P rc (fun e s'=>(e= .normal∨e= .ret)∧∃m' r,R m' r∧pa s' rs=some r∧Leaves s.mem s' m' r) (enter s.mem args b c)):Df P f s args R:=by
 unfold ff at hf;split at hf
 ·cases hf
 rename_i fn hfn;split at hf
 ·cases hf
 rename_i U8;split at hf
 ·cases hf
 rename_i c hb;split at hf
 ·rename_i rc' rs' h1 h2;simp only[ak,cd]at hf;obtain⟨rfl,rfl,rfl⟩:=hf;simp only[Ex]at h;refine⟨by unfold zf;rw[hfn];simp[U8,hb],fun B0 w0 nt G0 G E a w vs hF hl hrel=>?_⟩
  let cx:Nat→V×Value:=fun i=>if i%2=0 then(match s.tmp (i/2)with| .no=>(.no,.tuple #[])|x=>(x,a.tmps.getD (i/2) undef))else s.ctx (i/2)
  have hcx:∀i,cx (2*i+1)=s.ctx i:=by
   intro i
   have h1:(2*i+1)%2=1:=by omega
   have h2:(2*i+1)/2=i:=by omega
   simp only[cx,h1,h2,al (show¬(1=0)by decide)]
  have aBt:Plain s.ctx→Plain cx:=by
   intro q i v e;simp only[cx]at e;split at e
   ·split at e
    ·exact(aL1 e).2.symm
    rename_i Bs;exact absurd (aL1 e).1 Bs
   exact q _ v e
  have mv:∀{x:V} {v:Value},iw G E s x v→iw G E (enter s.mem args b cx) x v:=by
   intro x v hx;refine iw.move (gq.la G) (E':=E) ⟨fun _=>ay _,fun _ _ Tp _ h=>⟨Tp,h,ay _,fun _=>⟨rfl,rfl⟩⟩,fun _ b' _ h hv=>⟨⟨b',h,hv⟩,rfl⟩,fun _ _ h=>⟨h,rfl⟩⟩ hx
  have tn:jf B0 w0 fn.ntmps G0 (enter s.mem args b cx) G E {tmps:=vs++Ns (fn.ntmps-vs.size) undef,defers:=[]} w:=by
   refine⟨by simp;omega,rfl,hF.base,hF.below.M8 (fun q i v e=>q (2*i+1) v ((hcx i).trans e)),hF.gok,hF.gle,hF.J4,fun t=>?_,fun i b' rp=>?_,hF.inj,fun i es hi=>?_,hF.Rg,fun i=>?_,fun i=>?_⟩
   ·show iw G E _ (args.getD t .no) ((vs++Ns (fn.ntmps-vs.size) undef).getD t undef);by_cases ht:t<args.length
    ·rw[jd,ow (by omega),bh (by omega)]
     have e:args.getD t .no=args[t]:=by simp[cw,ht]
     rw[e];exact mv (hrel t _ _ (ax ht) (bh (by omega)))
    have e:args.getD t .no= .no:=by rw[Au,a88 (by omega)];rfl
    rw[e];trivial
   ·obtain⟨k1,k2,cells,et,k3,k4,k5⟩:=hF.dc i b' rp;refine⟨k1,k2,cells,et,k3,k4,?_⟩
    cases b' with
    |arr sz dm=>exact k5
    |loc cs=>exact⟨k5.1,fun j c u hj hu=>by
      have:=k5.2 j c u hj hu
      exact mv this⟩
    |qi sz dm=>exact⟨k5.1,k5.2.1,fun i e j c u hi hj hu=>by
      have:=k5.2.2 i e j c u hi hj hu
      exact mv this⟩
    |Sd n=>exact k5
   ·obtain⟨k1,k2,ents,clock,k3,k4,k5,k6⟩:=hF.mp i es hi;exact⟨k1,k2,ents,clock,k3,k4,fun j e x hj hx=>⟨(k5 j e x hj hx).1,mv (k5 j e x hj hx).2⟩,k6⟩
   ·show iw G E _ (cx i).1 (cx i).2;simp only[cx];split
    ·have:=hF.tmp (i/2);split
     ·trivial
     exact mv this
    exact mv (hF.ctx _)
   show Nt (cx i) _ _;simp only[cx];split
   ·split
    ·exact Nt.nil
    rename_i Bs;intro b' cs' e;simp only[cd]at e;exact absurd e.1 Bs
   exact hF.tb _
  refine calls_of_wp hfn hb (wp_mono (St hm c h1 tn (a3t (h cx hcx))) fun e a' w' hg=>?_);obtain⟨s',G',E',⟨⟨he,m',r,hR,ajn,⟨hcl,nh,Ua,aBz,hr⟩⟩,a0g⟩,h'⟩:=hg;obtain⟨v,k1,k2⟩:=a4y h' h2 ajn;have hwf:=hF.wf
  have O4:jf B0 w0 nt G0 (s.j6 m') G' E' a w':=by
   refine⟨hF.size,hF.defers,hF.base,h'.below.M8 (fun q=>by rw[a0g];exact aBt q),h'.gok,h'.gle,h'.J4,fun t=>?_,fun i b' rp=>?_,fun i j bi bj hi hj J3=>?_,fun i es hi=>?_,fun i j bi bj hi hj J3=>?_,fun i=>?_,hF.tb⟩
   ·have:=h'.ctx (2*t);rw[a0g]at this
    have e1:(enter s.mem args b cx).ctx (2*t)=(match s.tmp t with| .no=>(.no,.tuple #[])|x=>(x,a.tmps.getD t undef)):=by
     show cx (2*t)=_;simp only[cx];rw[bd (by omega),show 2*t/2=t by omega]
    rw[e1]at this;by_cases Bs:s.tmp t= .no
    ·show iw G' E' _ (s.tmp t) _;rw[Bs];trivial
    have e2:(match s.tmp t with| .no=>(V.no,Value.tuple #[])|x=>(x,a.tmps.getD t undef))=(s.tmp t,a.tmps.getD t undef):=by
     split
     ·rename_i e;exact absurd e Bs
     rfl
    rw[e2]at this;exact iw.clean hcl this ((ami (hwf.tmp t)).mono nh) rfl
   ·have hb2:m'.dc i=some b':=rp;rcases(hcl i).1 with h0|⟨h3,h4⟩
    ·rw[h0]at hb2;cases hb2
    have hb3:s'.dc i=some b':=h3.symm.trans hb2;obtain⟨q1,q2,cells,et,q3,q4,q5⟩:=h'.dc i b' hb3;refine⟨q1,q2,cells,et,q3,q4,?_⟩
    cases b' with
    |arr sz dm=>exact q5
    |loc cs=>
     refine⟨q5.1,fun j c u hj hu=>?_⟩
     have hcw:Oa m' c:=by
      rcases Ua i _ hb2 with hh|hh
      ·exact(Zm (hwf.loc i cs hh c (jw hj))).mono nh
      exact hh c (jw hj)
     exact yq.clean hcl (q5.2 j c u hj hu) hcw rfl
    |qi sz dm=>
     refine⟨q5.1,q5.2.1,fun k e j c u hk hj hu=>?_⟩
     have hcw:Oa m' c:=by
      rcases Ua i _ hb2 with hh|hh
      ·exact(Zm (hwf.qi i sz dm hh e (jw hk) c (jw hj))).mono nh
      exact hh e (jw hk) c (jw hj)
     exact yq.clean hcl (q5.2.2 k e j c u hk hj hu) hcw rfl
    |Sd n=>exact q5
   ·have un:∀{i b'},m'.dc i=some b'→s'.dc i=some b':=by
     intro i b' hb2;rcases(hcl i).1 with h0|⟨h3,h4⟩
     ·rw[h0]at hb2;cases hb2
     exact h3.symm.trans hb2
    exact h'.inj i j bi bj (un hi) (un hj) J3
   ·have hb2:m'.mp i=some es:=hi;rcases(hcl i).2 with h0|⟨h3,h4⟩
    ·rw[h0]at hb2;cases hb2
    obtain⟨q1,q2,ents,clock,q3,q4,q5,q6⟩:=h'.mp i es (h3.symm.trans hb2);refine⟨q1,q2,ents,clock,q3,q4,fun j e x hj hx=>⟨(q5 j e x hj hx).1,?_⟩,q6⟩
    have hcw:Oa m' e.2:=by
     rcases aBz i es hb2 with hh|hh
     ·exact(Zm (hwf.mp i es hh e (jw hj))).mono nh
     exact hh e (jw hj)
    exact yq.clean hcl (q5 j e x hj hx).2 hcw rfl
   ·have un:∀{i b'},m'.mp i=some b'→s'.mp i=some b':=by
     intro i b' hb2;rcases(hcl i).2 with h0|⟨h3,h4⟩
     ·rw[h0]at hb2;cases hb2
     exact h3.symm.trans hb2
    exact h'.Rg i j bi bj (un hi) (un hj) J3
   have:=h'.ctx (2*i+1);rw[a0g]at this
   have e1:(enter s.mem args b cx).ctx (2*i+1)=s.ctx i:=by
    show cx (2*i+1)=_;simp only[cx];rw[al (by omega),show(2*i+1)/2=i by omega]
   rw[e1]at this;exact iw.clean hcl this ((ami ((hF.ctx i).wf)).mono nh) rfl
  have fin:a'.defers=[]∧∃v,(results fn a'.tmps).run P w'= .ok v w'∧∃v' G' E' m' r,avp v= .returned v'∧R m' r∧jf B0 w0 nt G0 (s.j6 m') G' E' a w'∧iw G' E' (s.j6 m') r v':=
   ⟨h'.defers,v,k1,v,G',E',m',r,rfl,hR,O4,iw.clean hcl k2 hr rfl⟩
  rcases he with rfl|rfl
  ·exact fin
  exact fin
 cases hf
theorem Uo(hm:P.follows .mixedOrders=true){f:Nat}{an:Ann}{rc:dn}{rs:List J0}{n':Nat}(hf:ff P f an=some (rc,rs,n')){s:PS}{args:List V}{R:Mem→V→Prop}(hn:args.length≤n')(b:Nat)
  (h:∀c,kq P rc (fun e s'=>(e= .normal∨e= .ret)∧∃m' r,R m' r∧pa s' rs=some r∧Leaves s.mem s' m' r) (enter s.mem args b c)):Df P f s args R:=aap hm hf hn b fun c _=>h c
theorem lu(hm:P.follows .mixedOrders=true){f:Nat}{an:Ann}{rc:dn}{rs:List J0}{n':Nat}(hf:ff P f an=some (rc,rs,n')){m m':Mem}{args:List V}{r:V}(hn:args.length≤n')(b:Nat)
  (h:∀c,kq P rc (fun e s=>(e= .normal∨e= .ret)∧pa s rs=some r∧Clean s.mem m') (enter m args b c))(nh:∀i,m.av i≤m'.av i)
  (Ua:∀i b,m'.dc i=some b→m.dc i=some b∨Ms m' b)(aBz:∀i es,m'.mp i=some es→m.mp i=some es∨∀e∈es,Oa m' e.2)(hr:Hh m' r):qm P f m args m' r:=by
 have k:∀s:PS,s.mem=m→Df P f s args (fun m2 r2=>m2=m'∧r2=r):=by
  rintro s rfl;exact Uo hm hf hn b fun c=>Fz (fun e s' ⟨h1,h2,h3⟩=>⟨h1,m',r,⟨rfl,rfl⟩,h2,⟨h3,nh,Ua,aBz,hr⟩⟩) (h c)
 refine⟨(k ((start []).j6 m) rfl).1,fun s B0 w0 nt G0 G E a w vs hs hF hl hrel=>((k s hs).2 B0 w0 nt G0 G E a w vs hF hl hrel).mono ?_⟩;rintro e w' ⟨v,G',E',m2,r2,h1,⟨rfl,rfl⟩,h2,h3⟩;exact⟨v,G',E',h1,h2,h3⟩
theorem qm.toR{f:Nat}{s:PS}{args:List V}{m':Mem}{r:V}(h:qm P f s.mem args m' r):Df P f s args (fun m2 r2=>m2=m'∧r2=r):=
 ⟨h.1,fun B0 w0 nt G0 G E a w vs hF hl hrel=>(h.2 s B0 w0 nt G0 G E a w vs rfl hF hl hrel).mono fun _ _ ⟨v,G',E',h1,h2,h3⟩=>⟨v,G',E',m',r,h1,⟨rfl,rfl⟩,h2,h3⟩⟩
theorem a7x.toE{f:Nat}{s:PS}{ds:List D}{R:D→Prop}(h:a7x P f ds R):Df P f s (ds.map .d) (fun m2 v=>m2=s.mem∧∃x,v= .d x∧R x):=by
 refine⟨h.1,fun B0 w0 nt G0 G E a w vs hF hl hrel=>(h.2 G w vs hF.gok (by simpa using hl) fun i x v hx hv=>hrel i (.d x) v (by simp[hx]) hv).mono ?_⟩;rintro e w' ⟨v,G',r,h1,h2,h3,h4,h5,h6,h7⟩;exact⟨v,G',E,s.mem,.d r,h1,⟨rfl,r,rfl,h2⟩,hF.a7q (h6.M8 fun _=>trivial) h3 h5 h4.1 h4.2,h7⟩
theorem as6(hm:P.follows .mixedOrders=true){f:Nat}{an:Ann}{rc:dn}{rs:List J0}{nt:Nat}(hf:ff P f an=some (rc,rs,nt)){args:List D}{R:D→Prop}(hn:args.length≤nt)
  (h:kq P rc (fun e s=>(e= .normal∨e= .ret)∧∃r,Yc s rs=some r∧R r) (start args)):a7x P f args R:=by
 unfold ff at hf;split at hf
 ·cases hf
 rename_i fn hfn;split at hf
 ·cases hf
 rename_i U8;split at hf
 ·cases hf
 rename_i c hb;split at hf
 ·rename_i rc' rs' h1 h2;simp only[ak,cd]at hf;obtain⟨rfl,rfl,rfl⟩:=hf;simp only[Ex]at h;refine⟨by unfold zf;rw[hfn];simp[U8,hb],fun G w vs hG hl hr=>?_⟩;refine calls_of_wp hfn hb (wp_mono (St hm c h1 (a9q hG hl hr hn) (a3t h)) fun e a' w' hg=>?_);obtain⟨s',G',E',⟨⟨he,r,ajn,hR⟩,a0g⟩,h'⟩:=hg;obtain⟨v,G2,k1,k2,k3,k4,k5⟩:=Q5 h' h2 ajn
  have fin:a'.defers=[]∧∃v,(results fn a'.tmps).run P w'= .ok v w'∧∃v' G' r,avp v= .returned v'∧R r∧G.le G'∧G.same G' w.heap.size∧GOk G' w'∧Bel True w.heap.size w w'∧i6 G' r v':=
   ⟨h'.defers,v,k1,v,G2,r,rfl,hR,k2,k3,k4,h'.below.M8 (fun _=>by rw[a0g];intro i v e;exact(aL1 e).2.symm),k5⟩
  rcases he with rfl|rfl
  ·exact fin
  exact fin
 cases hf
end
end Go.PI
namespace Go.PI
def Xy(P:Program)(b:dn)(Q:Exit→PS→Prop):Exit→PS→Prop
 | .normal,s=>kq P b Q s
 |e,s=>Q e s
def a15(id:Nat)(Q:Exit→PS→Prop):Exit→PS→Prop
 | .exit i,s=>if i=id then Q .normal s else Q (.exit i) s
 |e,s=>Q e s
def ri(d:Nat)(o:jy):RI:=⟨some d,o,none,[]⟩
def rm(d x:Nat):RI:=⟨some d,.ji (.t x),none,[]⟩
def rn(o:jy):RI:=⟨none,o,none,[]⟩
def rg(d t:Nat)(b:Bool)(o:jy):RI:=⟨some d,o,some (t,b),[]⟩
def rq(l:List RI)(c:dn):dn:= .seq (.region l false []) c
def rl(d n:Nat)(a:Bool)(x:Nat):RI:=⟨some d,.load n a (.t x),none,[]⟩
def rk(d x:Nat):RI:=⟨some d,.Yn (.t x),none,[]⟩
def rf(d o x:Nat):RI:=⟨some d,.D4 o (.t x),none,[]⟩
def rx(d x i:Nat):RI:=⟨some d,.ext (.t x) i,none,[]⟩
def ci(n:Int):nk:= .c (.int ab n)
def wi(d n a b:Nat):RI:=⟨some d,.xm n (.t a) (.t b),none,[]⟩
def wc(d:Nat)(n:Int):RI:=⟨some d,.ji (.c (.int ab n)),none,[]⟩
def wd(d:Nat)(o:BinOp)(a:Nat)(n:Int):RI:=⟨some d,.bin o (.t a) (.c (.int ab n)),none,[]⟩
def wb(d:Nat)(o:BinOp)(a b:Nat):RI:=⟨some d,.bin o (.t a) (.t b),none,[]⟩
def ws(n a b:Nat):RI:=⟨none,.store n (.t a) (.t b),none,[]⟩
def wn(d a:Nat):RI:=⟨some d,.len .gz (.t a),none,[]⟩
def wa(d n k a:Nat)(i:Int):RI:=⟨some d,.xe n k (.t a) (.c (.int ab i)),none,[]⟩
def wf(d:Nat)(b:Bool):RI:=⟨some d,.ji (.c (.bool b)),none,[]⟩
def wo(d:Nat):RI:=⟨some d,.ji (.c .ck),none,[]⟩
def wp(d a b:Nat):RI:=⟨some d,.pick (.t a) (.t b) (.c (.bool false)),none,[]⟩
def wq(d a b:Nat):RI:=⟨some d,.pick (.t a) (.c (.bool true)) (.t b),none,[]⟩
def wx(d n a:Nat):RI:=⟨some d,.box n (.t a),none,[]⟩
def wm(d t:Nat)(b:Bool)(a:Nat):RI:=⟨some d,.ji (.t a),some (t,b),[]⟩
def wl(d t:Nat)(b:Bool)(n:Nat)(c:Bool)(a:Nat):RI:=⟨some d,.load n c (.t a),some (t,b),[]⟩
def wt(a:Nat)(x y:dn):dn:= .cond (.t a) x y
theorem aHx{d n a b:Nat}:wi d n a b=⟨some d,.xm n (.t a) (.t b),none,[]⟩:=fc rfl (gp _)
theorem aI0{d:Nat}{n:Int}:wc d n=⟨some d,.ji (.c (.int ab n)),none,[]⟩:=fc rfl (gp _)
theorem aHz{d:Nat}{o:BinOp}{a:Nat}{n:Int}:wd d o a n=⟨some d,.bin o (.t a) (.c (.int ab n)),none,[]⟩:=fc rfl (gp _)
theorem aI1{d:Nat}{o:BinOp}{a b:Nat}:wb d o a b=⟨some d,.bin o (.t a) (.t b),none,[]⟩:=fc rfl (gp _)
theorem aHq{n a b:Nat}:ws n a b=⟨none,.store n (.t a) (.t b),none,[]⟩:=fc rfl (gp _)
theorem aHu{d a:Nat}:wn d a=⟨some d,.len .gz (.t a),none,[]⟩:=fc rfl (gp _)
theorem aI2{d n k a:Nat}{i:Int}:wa d n k a i=⟨some d,.xe n k (.t a) (.c (.int ab i)),none,[]⟩:=fc rfl (gp _)
theorem aHy{d:Nat}{b:Bool}:wf d b=⟨some d,.ji (.c (.bool b)),none,[]⟩:=fc rfl (gp _)
theorem aHt{d:Nat}:wo d=⟨some d,.ji (.c .ck),none,[]⟩:=fc rfl (gp _)
theorem aHs{d a b:Nat}:wp d a b=⟨some d,.pick (.t a) (.t b) (.c (.bool false)),none,[]⟩:=fc rfl (gp _)
theorem aHr{d a b:Nat}:wq d a b=⟨some d,.pick (.t a) (.c (.bool true)) (.t b),none,[]⟩:=fc rfl (gp _)
theorem aHo{d n a:Nat}:wx d n a=⟨some d,.box n (.t a),none,[]⟩:=fc rfl (gp _)
theorem aHv{d t:Nat}{b:Bool}{a:Nat}:wm d t b a=⟨some d,.ji (.t a),some (t,b),[]⟩:=fc rfl (gp _)
theorem aHw{d t:Nat}{b:Bool}{n:Nat}{c:Bool}{a:Nat}:wl d t b n c a=⟨some d,.load n c (.t a),some (t,b),[]⟩:=fc rfl (gp _)
theorem aHp{a:Nat}{x y:dn}:wt a x y= .cond (.t a) x y:=fc rfl (gp _)
theorem aI7{d n:Nat}{a:Bool}{x:Nat}:rl d n a x=⟨some d,.load n a (.t x),none,[]⟩:=fc rfl (gp _)
theorem aI8{d x:Nat}:rk d x=⟨some d,.Yn (.t x),none,[]⟩:=fc rfl (gp _)
theorem aIb{d o x:Nat}:rf d o x=⟨some d,.D4 o (.t x),none,[]⟩:=fc rfl (gp _)
theorem aI3{d x i:Nat}:rx d x i=⟨some d,.ext (.t x) i,none,[]⟩:=fc rfl (gp _)
theorem aIc{n:Int}:ci n= .c (.int ab n):=fc rfl (gp _)
theorem aI9{d:Nat}{o:jy}:ri d o=⟨some d,o,none,[]⟩:=fc rfl (gp _)
theorem aI6{d x:Nat}:rm d x=⟨some d,.ji (.t x),none,[]⟩:=fc rfl (gp _)
theorem aI5{o:jy}:rn o=⟨none,o,none,[]⟩:=fc rfl (gp _)
theorem aIa{d t:Nat}{b:Bool}{o:jy}:rg d t b o=⟨some d,o,some (t,b),[]⟩:=fc rfl (gp _)
theorem aI4{l:List RI}{c:dn}:rq l c= .seq (.region l false []) c:=fc rfl (gp _)
def mb(rs:List J0)(r:D):Exit→PS→Prop:=fun e s=>(e= .normal∨e= .ret)∧Yc s rs=some r
def cif(v:V)(A B:Prop):Prop:=
 match v with
 | .d (.bool x)=>if x then A else B
 |_=>False
def goV(P:Program)(r:List RI)(K:PS→Prop)(d:Option Nat)(s:PS)(x:Option V):Prop:=
 match x with
 |some v=>lk P r (s.put d v) K
 |none=>False
def goE(P:Program)(r:List RI)(K:PS→Prop)(d:Option Nat)(s:PS)(x:Option a7y):Prop:=
 match x with
 |some (ids,e)=>lk P r (e.app d (s.uu ids)) K
 |none=>False
def Ac(P:Program)(r:List RI)(K:PS→Prop)(s:PS):Prop:=lk P r s K
section
variable{P:Program}{Q:Exit→PS→Prop}{K:PS→Prop}{s:PS}{r:List RI}{d:Option Nat}{af:List Nat}
theorem ae2{a b:dn}:kq P (.seq a b) Q s=kq P a (Xy P b Q) s:=by
 rw[a3s]
 congr 1
 funext e s'
 cases e<;>rfl
theorem avr{id:Nat}{c:dn}:kq P (.block id c) Q s=kq P c (a15 id Q) s:=by
 rw[Zv]
 congr 1
 funext e s'
 cases e<;>rfl
theorem aqj{c:nk}{a b:dn}:kq P (.cond c a b) Q s=cif (c.ev s) (kq P a Q s) (kq P b Q s):=fc rfl (gp _)
theorem M9{b:dn}:Xy P b Q .normal s=kq P b Q s:=fc rfl (gp _)
theorem an6{b:dn}{i:Nat}:Xy P b Q (.exit i) s=Q (.exit i) s:=fc rfl (gp _)
theorem ae9{b:dn}:Xy P b Q .ret s=Q .ret s:=fc rfl (gp _)
theorem adl{id:Nat}:a15 id Q .normal s=Q .normal s:=fc rfl (gp _)
theorem a7p{id i:Nat}:a15 id Q (.exit i) s=if i=id then Q .normal s else Q (.exit i) s:=fc rfl (gp _)
theorem aq5{id:Nat}:a15 id Q .ret s=Q .ret s:=fc rfl (gp _)
theorem ak5{rs:List J0}{x:D}:mb rs x .normal s=(Yc s rs=some x):=by simp[mb]
theorem ad3{rs:List J0}{x:D}:mb rs x .ret s=(Yc s rs=some x):=by simp[mb]
theorem ahc{x:Bool}{A B:Prop}:cif (.d (.bool x)) A B=if x then A else B:=fc rfl (gp _)
theorem Z5{v:V}:goV P r K d s (some v)=lk P r (s.put d v) K:=fc rfl (gp _)
theorem F1{ids:List Nat}{e:mc}:goE P r K d s (some (ids,e))=lk P r (e.app d (s.uu ids)) K:=fc rfl (gp _)
theorem arx:Ac P r K s=lk P r s K:=fc rfl (gp _)
theorem asc{x:nk}:lk P (⟨d,.ji x,none,af⟩::r) s K=lk P r (s.put d (x.ev s)) K:=fc rfl (gp _)
theorem asf{n:Nat}{g:Bool}{x:nk}:lk P (⟨d,.load n g x,none,af⟩::r) s K=goV P r K d s (C4 s n g (x.ev s)):=by
 show(match(C4 s n g (x.ev s)).map mc.tj with|some (ids,e)=>_|none=>_)=_
 cases C4 s n g (x.ev s)<;>rfl
theorem ash{n:Nat}{x i:nk}:lk P (⟨d,.xm n x i,none,af⟩::r) s K=goV P r K d s (match i.ev s with| .d (.int _ k)=>Ke s n k (x.ev s)|_=>none):=by
 show(match(match i.ev s with| .d (.int _ k)=>(Ke s n k (x.ev s)).map mc.tj|_=>none)with|some (ids,e)=>_|none=>_)=_
 cases hi:i.ev s with
 |d z=>cases z with
  |int k n'=>simp only;cases Ke s n n' (x.ev s)<;>rfl
  |_=>rfl
 |_=>rfl
theorem asg{k:TK}{x:nk}:lk P (⟨d,.len k x,none,af⟩::r) s K=goV P r K d s ((P0 s k (x.ev s)).map fun n=> .d (.int ab n)):=by
 show(match(P0 s k (x.ev s)).map (fun n=>mc.tj (.d (.int ab n)))with|some (ids,e)=>_|none=>_)=_
 cases P0 s k (x.ev s)<;>rfl
def aFa(op:BinOp):V→V→Option V
 | .d a,.d b=>(a9i op a b).map .d
 |_,_=>none
theorem adm{op:BinOp}{a b:D}:aFa op (.d a) (.d b)=(a9i op a b).map .d:=fc rfl (gp _)
theorem afl{op:BinOp}{x y:nk}:lk P (⟨d,.bin op x y,none,af⟩::r) s K=goV P r K d s (aFa op (x.ev s) (y.ev s)):=by
 show(match(match x.ev s,y.ev s with| .d a,.d b=>(a9i op a b).map fun r=>mc.tj (.d r)|_,_=>none)with|some (ids,e)=>_|none=>_)=_
 cases hx:x.ev s with
 |d a=>
  cases hy:y.ev s with
  |d b=>simp only[adm];cases a9i op a b<;>rfl
  |_=>rfl
 |_=>rfl
theorem aj0{c:nk}{a:nk}{b:nk}:lk P (⟨d,(.pick c a b),none,af⟩::r) s K=goE P r K d s ((jy.pick c a b).p9 (s.base+d.getD 0) s):=fc rfl (gp _)
theorem als{z:List D}:lk P (⟨d,(.alloc z),none,af⟩::r) s K=goE P r K d s ((jy.alloc z).p9 (s.base+d.getD 0) s):=fc rfl (gp _)
theorem aDr{n:Nat}{x:nk}:lk P (⟨d,(.box n x),none,af⟩::r) s K=goE P r K d s ((jy.box n x).p9 (s.base+d.getD 0) s):=fc rfl (gp _)
theorem alr{n:Nat}{a:nk}{x:nk}:lk P (⟨d,(.store n a x),none,af⟩::r) s K=goE P r K d s ((jy.store n a x).p9 (s.base+d.getD 0) s):=fc rfl (gp _)
theorem ax9{x:nk}:lk P (⟨d,(.Yn x),none,af⟩::r) s K=goE P r K d s ((jy.Yn x).p9 (s.base+d.getD 0) s):=fc rfl (gp _)
theorem aDn{o:Nat}{x:nk}:lk P (⟨d,(.D4 o x),none,af⟩::r) s K=goE P r K d s ((jy.D4 o x).p9 (s.base+d.getD 0) s):=fc rfl (gp _)
theorem aBa{l:Nat}{n:Nat}{x:nk}{i:nk}:lk P (⟨d,(.xe l n x i),none,af⟩::r) s K=goE P r K d s ((jy.xe l n x i).p9 (s.base+d.getD 0) s):=fc rfl (gp _)
theorem aB9{x:nk}{i:nk}:lk P (⟨d,(.a0d x i),none,af⟩::r) s K=goE P r K d s ((jy.a0d x i).p9 (s.base+d.getD 0) s):=fc rfl (gp _)
theorem aBc{o:Nat}{n:Nat}{g:Bool}{x:nk}:lk P (⟨d,(.a0t o n g x),none,af⟩::r) s K=goE P r K d s ((jy.a0t o n g x).p9 (s.base+d.getD 0) s):=fc rfl (gp _)
theorem aDp{ks:List LK}{n:Bool}{x:nk}{y:nk}:lk P (⟨d,(.eqs ks n x y),none,af⟩::r) s K=goE P r K d s ((jy.eqs ks n x y).p9 (s.base+d.getD 0) s):=fc rfl (gp _)
theorem axc{k:TK}{n:Bool}{x:nk}:lk P (⟨d,(.K2 k n x),none,af⟩::r) s K=goE P r K d s ((jy.K2 k n x).p9 (s.base+d.getD 0) s):=fc rfl (gp _)
theorem aDs{n:Bool}{x:nk}{y:nk}:lk P (⟨d,(.beq n x y),none,af⟩::r) s K=goE P r K d s ((jy.beq n x y).p9 (s.base+d.getD 0) s):=fc rfl (gp _)
theorem aGi{op:UnOp}{x:nk}:lk P (⟨d,(.un op x),none,af⟩::r) s K=goE P r K d s ((jy.un op x).p9 (s.base+d.getD 0) s):=fc rfl (gp _)
theorem aBe{k:IntKind}{x:nk}:lk P (⟨d,(.conv k x),none,af⟩::r) s K=goE P r K d s ((jy.conv k x).p9 (s.base+d.getD 0) s):=fc rfl (gp _)
theorem axe{x:nk}:lk P (⟨d,(.a29 x),none,af⟩::r) s K=goE P r K d s ((jy.a29 x).p9 (s.base+d.getD 0) s):=fc rfl (gp _)
theorem axj{z:List D}{ps:List (Nat×Nat×nk)}:lk P (⟨d,(.build z ps),none,af⟩::r) s K=goE P r K d s ((jy.build z ps).p9 (s.base+d.getD 0) s):=fc rfl (gp _)
theorem aBg{im:Bool}{n:Nat}{sz:Nat}{z:List D}{ps:List (Nat×Nat×nk)}:lk P (⟨d,(.yy im n sz z ps),none,af⟩::r) s K=goE P r K d s ((jy.yy im n sz z ps).p9 (s.base+d.getD 0) s):=fc rfl (gp _)
theorem Gb{sz:Nat}{b:Nat}{x:nk}{y:nk}:lk P (⟨d,(.app sz b x y),none,af⟩::r) s K=goE P r K d s ((jy.app sz b x y).p9 (s.base+d.getD 0) s):=fc rfl (gp _)
theorem ax8{n:Nat}{x:nk}{lo:Option nk}{hi:Option nk}:lk P (⟨d,(.slice n x lo hi),none,af⟩::r) s K=goE P r K d s ((jy.slice n x lo hi).p9 (s.base+d.getD 0) s):=fc rfl (gp _)
theorem axa:lk P (⟨d,.Hq,none,af⟩::r) s K=goE P r K d s (jy.Hq.p9 (s.base+d.getD 0) s):=fc rfl (gp _)
theorem ase{kk:KK}{z:D}{x:nk}{i:nk}{ok:Bool}:lk P (⟨d,(.lookup kk z x i ok),none,af⟩::r) s K=goE P r K d s ((jy.lookup kk z x i ok).p9 (s.base+d.getD 0) s):=fc rfl (gp _)
theorem aB6{kk:KK}{x:nk}{k:nk}{v:nk}:lk P (⟨d,(.X0 kk x k v),none,af⟩::r) s K=goE P r K d s ((jy.X0 kk x k v).p9 (s.base+d.getD 0) s):=fc rfl (gp _)
theorem axb{f:Nat}{j2:List nk}:lk P (⟨d,(.Mh f j2),none,af⟩::r) s K=goE P r K d s ((jy.Mh f j2).p9 (s.base+d.getD 0) s):=fc rfl (gp _)
theorem aDo{x:nk}{i:Nat}:lk P (⟨d,(.ext x i),none,af⟩::r) s K=goE P r K d s ((jy.ext x i).p9 (s.base+d.getD 0) s):=fc rfl (gp _)
theorem asd{mx:Bool}{x:nk}{y:nk}:lk P (⟨d,(.Ep mx x y),none,af⟩::r) s K=goE P r K d s ((jy.Ep mx x y).p9 (s.base+d.getD 0) s):=fc rfl (gp _)
theorem asm{n:Nat}:lk P (⟨d,(.A9 n),none,af⟩::r) s K=goE P r K d s ((jy.A9 n).p9 (s.base+d.getD 0) s):=fc rfl (gp _)
theorem aB7{g:Nat}{n:Nat}{x:nk}:lk P (⟨d,(.init g n x),none,af⟩::r) s K=goE P r K d s ((jy.init g n x).p9 (s.base+d.getD 0) s):=fc rfl (gp _)
theorem asl{f:Nat}{args:List nk}:lk P (⟨d,.call f args,none,af⟩::r) s K=Ey P f (args.map (·.ev s)) [] false d s (Ac P r K):=fc rfl (gp _)
theorem aku{f:Nat}{args:List V}{j2 ds:List D}{own:Bool}{x:D}(h1:Hk s args=some ds)(h2:iz P f (ds++j2) x)(h3:x.flat=true∨(own=false∧args.all V.isD=true))(h4:lk P r (s.put d (.d x)) K):Ey P f args j2 own d s (Ac P r K):=
 ⟨ds,x,h1,h2.toC,h3,h4⟩
theorem Eu{f:Nat}{x:D}(h2:iz P f [] x)(h4:lk P r (s.put d (.d x)) K):Ey P f [] [] false d s (Ac P r K):=⟨[],x,rfl,h2.toC,.inr ⟨rfl,rfl⟩,h4⟩
theorem ft{f:Nat}{a x:D}(h2:iz P f [a] x)(h4:lk P r (s.put d (.d x)) K):Ey P f [.d a] [] false d s (Ac P r K):=⟨[a],x,rfl,h2.toC,.inr ⟨rfl,rfl⟩,h4⟩
theorem j5{f:Nat}{a b x:D}(h2:iz P f [a,b] x)(h4:lk P r (s.put d (.d x)) K):Ey P f [.d a,.d b] [] false d s (Ac P r K):=⟨[a,b],x,rfl,h2.toC,.inr ⟨rfl,rfl⟩,h4⟩
theorem Gx{f:Nat}{a b c x:D}(h2:iz P f [a,b,c] x)(h4:lk P r (s.put d (.d x)) K):Ey P f [.d a,.d b,.d c] [] false d s (Ac P r K):=⟨[a,b,c],x,rfl,h2.toC,.inr ⟨rfl,rfl⟩,h4⟩
theorem a05{op:jy}{t:Nat}{b:Bool}(h:s.tmp t= .d (.bool b)):lk P (⟨d,op,some (t,b),af⟩::r) s K=lk P (⟨d,op,none,af⟩::r) s K:=by
 have e:wanted (⟨d,op,some (t,b),af⟩:RI) s=some true:=by unfold wanted;simp[h]
 rw[Bl,e,Bl];rfl
theorem aoo{op:jy}{t:Nat}{b:Bool}(h:s.tmp t= .d (.bool !b)):lk P (⟨d,op,some (t,b),af⟩::r) s K=lk P r (s.put d (.d (.Ar []))) K:=by
 have e:wanted (⟨d,op,some (t,b),af⟩:RI) s=some false:=by unfold wanted;simp only[h];cases b<;>rfl
 rw[Bl,e]
theorem aon{op:jy}{t:Nat}{b:Bool}(h:s.tmp t= .d (.Ar [])):lk P (⟨d,op,some (t,b),af⟩::r) s K=lk P r (s.put d (.d (.Ar []))) K:=by
 have e:wanted (⟨d,op,some (t,b),af⟩:RI) s=some false:=by unfold wanted;simp only[h]
 rw[Bl,e]
theorem ae3{c:nk}{a b:dn}(h:c.ev s= .d (.bool true)):kq P (.cond c a b) Q s=kq P a Q s:=by
 rw[aqj,h,ahc,bd rfl]
theorem ae4{c:nk}{a b:dn}(h:c.ev s= .d (.bool false)):kq P (.cond c a b) Q s=kq P b Q s:=by
 rw[aqj,h,ahc,al (by decide)]
theorem aAl{b:Nat}:sh b []=[]:=rfl
theorem avz{b i:Nat}{l:List Nat}:sh b (i::l)=(b+i)::sh b l:=rfl
theorem al2:ql []=[]:=rfl
theorem ahh{o:RI}{l:List RI}:ql (o::l)=o.ql++ql l:=rfl
theorem Tx{ops:List RI}:kq P (.region ops false []) Q s=lk P ops s (Q .normal):=fc rfl (gp _)
theorem arv{ops:List RI}:kq P (.region ops true []) Q s=lk P ops (s.uu (sh s.base (ql ops))) (Q .normal):=fc rfl (gp _)
theorem asb{n:Nat}{x j k:nk}:lk P (⟨d,(.slice3 n x j k),none,af⟩::r) s K=goE P r K d s ((jy.slice3 n x j k).p9 (s.base+d.getD 0) s):=fc rfl (gp _)
theorem aB8{l n:Nat}{g:Bool}{x i:nk}:lk P (⟨d,(.a2t l n g x i),none,af⟩::r) s K=goE P r K d s ((jy.a2t l n g x i).p9 (s.base+d.getD 0) s):=fc rfl (gp _)
def agz(P:Program)(f:Nat)(args:List V)(d:Option Nat)(s:PS)(K:PS→Prop):Prop:=∃m' x,qm P f s.mem args m' x∧K ((s.j6 m').put d x)
def azx(P:Program)(f:Nat)(args:List V)(d:Option Nat)(s:PS)(K:PS→Prop):Prop:=∃x,aqe P f s args x∧K (s.put d (.d x))
theorem axi{f:Nat}{args:List nk}:lk P (⟨d,.zg f args,none,af⟩::r) s K=agz P f (args.map (·.ev s)) d s (Ac P r K):=fc rfl (gp _)
theorem axh{f:Nat}{args:List nk}:lk P (⟨d,.Wj f args,none,af⟩::r) s K=azx P f (args.map (·.ev s)) d s (Ac P r K):=fc rfl (gp _)
theorem lr{f:Nat}{args:List V}{m':Mem}{x:V}(h1:qm P f s.mem args m' x)(h2:lk P r ((s.j6 m').put d x) K):agz P f args d s (Ac P r K):=⟨m',x,h1,h2⟩
theorem a1z{f:Nat}{args:List V}{x:D}(h1:aqe P f s args x)(h2:lk P r (s.put d (.d x)) K):azx P f args d s (Ac P r K):=⟨x,h1,h2⟩
def ama(P:Program)(c:Option D)(own:Bool)(args:List V)(d:Option Nat)(s:PS)(K:PS→Prop):Prop:=
 match c with
 |some (.oq g j2)=>Ey P g args j2 own d s K
 |_=>False
theorem apv{g:Nat}{j2:List D}{own:Bool}{args:List V}:ama P (some (.oq g j2)) own args d s K=Ey P g args j2 own d s K:=fc rfl (gp _)
theorem axf{f:nk}{args:List nk}:lk P (⟨d,.xy f args,none,af⟩::r) s K=ama P (snap s (f.ev s)) (!(f.ev s).isD) (args.map (·.ev s)) d s (Ac P r K):=by
 show(match snap s (f.ev s)with|some (.oq g j2)=>Ey P g (args.map fun x:nk=>x.ev s) j2 (!(f.ev s).isD) d s (Ac P r K)|_=>False)=_
 unfold ama;split<;>rfl
theorem a7m{f:Nat}{j2:List D}{a x:D}(h2:iz P f (a::j2) x)(h4:lk P r (s.put d (.d x)) K):Ey P f [.d a] j2 false d s (Ac P r K):=⟨[a],x,rfl,h2.toC,.inr ⟨rfl,rfl⟩,h4⟩
theorem P3{f:Nat}{j2:List D}{a b x:D}(h2:iz P f (a::b::j2) x)(h4:lk P r (s.put d (.d x)) K):Ey P f [.d a,.d b] j2 false d s (Ac P r K):=⟨[a,b],x,rfl,h2.toC,.inr ⟨rfl,rfl⟩,h4⟩
def abz(P:Program)(f:Nat)(args:List V)(d:Option Nat)(s:PS)(K:PS→Prop):Prop:=∃R,Df P f s args R∧∀m' x,R m' x→K ((s.j6 m').put d x)
theorem axg{f:Nat}{args:List nk}:lk P (⟨d,.qz f args,none,af⟩::r) s K=abz P f (args.map (·.ev s)) d s (Ac P r K):=fc rfl (gp _)
theorem ko{f:Nat}{args:List V}{R:Mem→V→Prop}(h1:Df P f s args R)(h2:∀m' x,R m' x→lk P r ((s.j6 m').put d x) K):abz P f args d s (Ac P r K):=⟨R,h1,h2⟩
def akh(P:Program)(v:V)(args:List V)(d:Option Nat)(s:PS)(K:PS→Prop):Prop:=
 match v with
 | .d (.oq g j2)=>abz P g (args++j2.map .d) d s K
 |_=>False
theorem a7e{g:Nat}{j2:List D}{args:List V}:akh P (.d (.oq g j2)) args d s K=abz P g (args++j2.map .d) d s K:=fc rfl (gp _)
theorem afk{f:nk}{args:List nk}:lk P (⟨d,.P4 f args,none,af⟩::r) s K=akh P (f.ev s) (args.map (·.ev s)) d s (Ac P r K):=by
 show(match f.ev s with| .d (.oq g j2)=>∃R,Df P g s ((args.map fun x:nk=>x.ev s)++j2.map V.d) R∧∀m' x,R m' x→Ac P r K ((s.j6 m').put d x)|_=>False)=_
 unfold akh;split<;>rfl
theorem asi{n sz:Nat}{z:List D}{ps:List (Nat×Nat×nk)}:lk P (⟨d,(.a0x n sz z ps),none,af⟩::r) s K=goE P r K d s ((jy.a0x n sz z ps).p9 (s.base+d.getD 0) s):=fc rfl (gp _)
theorem asa{n:Nat}{x j:nk}:lk P (⟨d,(.Oe n x j),none,af⟩::r) s K=goE P r K d s ((jy.Oe n x j).p9 (s.base+d.getD 0) s):=fc rfl (gp _)
theorem aBi{sz b:Nat}{z:List D}{x y:nk}:lk P (⟨d,(.a3o sz b z x y),none,af⟩::r) s K=goE P r K d s ((jy.a3o sz b z x y).p9 (s.base+d.getD 0) s):=fc rfl (gp _)
theorem aBf{x:nk}:lk P (⟨d,(.ade x),none,af⟩::r) s K=goE P r K d s ((jy.ade x).p9 (s.base+d.getD 0) s):=fc rfl (gp _)
theorem aBh{l n:Nat}{x:nk}:lk P (⟨d,(.adn l n x),none,af⟩::r) s K=goE P r K d s ((jy.adn l n x).p9 (s.base+d.getD 0) s):=fc rfl (gp _)
theorem aBd{n:Nat}{x j k:nk}:lk P (⟨d,(.Hx n x j k),none,af⟩::r) s K=goE P r K d s ((jy.Hx n x j k).p9 (s.base+d.getD 0) s):=fc rfl (gp _)
theorem aB4{n:Nat}{x:nk}{lo hi mx:Option nk}:lk P (⟨d,(.Nx n x lo hi mx),none,af⟩::r) s K=goE P r K d s ((jy.Nx n x lo hi mx).p9 (s.base+d.getD 0) s):=fc rfl (gp _)
theorem aB5{x:nk}:lk P (⟨d,(.trim x),none,af⟩::r) s K=goE P r K d s ((jy.trim x).p9 (s.base+d.getD 0) s):=fc rfl (gp _)
theorem aDq{z:List D}{x:nk}:lk P (⟨d,(.clr z x),none,af⟩::r) s K=goE P r K d s ((jy.clr z x).p9 (s.base+d.getD 0) s):=fc rfl (gp _)
def azw(P:Program)(kk:KK)(sz b:Nat)(x k y:V)(ts:List Nat)(d:Option Nat)(s:PS)(K:PS→Prop):Prop:=∃id s',am6 s id kk sz b x k y ts s'∧K (s'.put d .no)
theorem aBb{kk:KK}{sz b:Nat}{x k y:nk}{ts:List Nat}:lk P (⟨d,(.a0r kk sz b x k y ts),none,af⟩::r) s K=azw P kk sz b (x.ev s) (k.ev s) (y.ev s) ts d s (Ac P r K):=fc rfl (gp _)
theorem ahr{a b:dn}:kq P (.both a b) Q s=(kq P a Q s∧kq P b Q s):=fc rfl (gp _)
theorem Tu(ids:List Nat)(h:Q .normal (s.xc ids)):kq P .freeze Q s:=⟨ids,h⟩
theorem a5a{n:Nat}{v:V}:s.put (some n) v={s with tmp:=l7 s.tmp n v}:=fc rfl (gp _)
theorem as3{v:V}:s.put none v=s:=fc rfl (gp _)
theorem agr{n:Nat}:(nk.t n).ev s=s.tmp n:=fc rfl (gp _)
theorem aEy{x:D}:(nk.c x).ev s= .d x:=fc rfl (gp _)
end
section
variable{P:Program}{Q:Exit→PS→Prop}{K:PS→Prop}{s:PS}{r:List RI}{d:Option Nat}{af:List Nat}
def apg(n k:Nat)(I:Nat→PS→Prop)(Q:Exit→PS→Prop):Exit→PS→Prop
 | .normal,s=>k<n∧I (k+1) s
 |e,s=>Q e s
theorem a6n{n k:Nat}{I:Nat→PS→Prop}:apg n k I Q .normal s=(k<n∧I (k+1) s):=fc rfl (gp _)
theorem aty{n k i:Nat}{I:Nat→PS→Prop}:apg n k I Q (.exit i) s=Q (.exit i) s:=fc rfl (gp _)
theorem ayp{n k:Nat}{I:Nat→PS→Prop}:apg n k I Q .ret s=Q .ret s:=fc rfl (gp _)
theorem fp{c:dn}(n:Nat)(I:Nat→PS→Prop)(h0:I 0 s)(h:∀k s',k≤n→I k s'→kq P c (apg n k I Q) s'):kq P (.loop c) Q s:=by
 refine ars (fun s'=>∃k,k≤n∧I k s') (fun s'=>leastOf fun j=>∃k,k≤n∧n-k=j∧I k s') ⟨0,aCz _,h0⟩ ?_;rintro s' ⟨k0,hk0,hI0⟩;obtain⟨⟨k,hk,hj,hI⟩,_⟩:=leastOf_spec (p:=fun j=>∃k,k≤n∧n-k=j∧I k s') ⟨n-k0,k0,hk0,rfl,hI0⟩;refine Fz (fun e s'' hQ=>?_) (h k s' hk hI)
 cases e with
 |normal=>
  obtain⟨hlt,hI'⟩:=hQ;refine⟨⟨k+1,hlt,hI'⟩,?_⟩;have:=(leastOf_spec (p:=fun j=>∃k,k≤n∧n-k=j∧I k s'') ⟨n-(k+1),k+1,hlt,rfl,hI'⟩).2 _ ⟨k+1,hlt,rfl,hI'⟩;omega
 |_=>exact hQ
def x9(s:PS)(id sz:Nat)(dm:List (List D))(v:V):Prop:=
 (dm=[]∧v= .d .ck)∨(dm≠[]∧v= .ref id (s.av id) dm.length∧s.dc id=some (.arr sz dm))
theorem x9.nil{id sz:Nat}:x9 s id sz [] (.d .ck):= .inl ⟨rfl,rfl⟩
theorem x9.mono{s s':PS}{id sz:Nat}{dm:List (List D)}{v:V}(h:x9 s id sz dm v)(hv:s'.av id=s.av id)(hb:s'.dc id=s.dc id):x9 s' id sz dm v:=by
 rcases h with ⟨h1,h2⟩|⟨h1,h2,h3⟩
 ·exact .inl ⟨h1,h2⟩
 exact .inr ⟨h1,by rw[hv];exact h2,by rw[hb];exact h3⟩
structure Grown(s s':PS)(d id sz:Nat)(dm:List (List D)):Prop where
 tmp:s'.tmp=l7 s.tmp d (.ref id (s'.av id) dm.length)
 dc:s'.dc=l7 s.dc id (some (.arr sz dm))
 av:∀j,j≠id→s'.av j=s.av j
 mp:s'.mp=s.mp
 base:s'.base=s.base
theorem Grown.acc{s s':PS}{d id sz:Nat}{dm:List (List D)}(h:Grown s s' d id sz dm)(hne:dm≠[]):x9 s' id sz dm (s'.tmp d):=
 .inr ⟨hne,by rw[h.tmp,cu],by rw[h.dc,cu]⟩
theorem uh{d sz b:Nat}{x y:nk}{dm ys:List (List D)}{osz:Option Nat}(hx:x9 s (s.base+d) sz dm (x.ev s))(hy:qh s (y.ev s)=some (ys,osz))(C9:osz.getD sz=sz)
  (Bm:(ys.all fun e=>e.all D.one)=true)(hb:(dm.length+ys.length)*b≤2^47)(hne:ys≠[])(h:∀s',Grown s s' d (s.base+d) sz (dm++ys)→lk P r s' K):
  lk P (⟨some d,.app sz b x y,none,af⟩::r) s K:=by
 rw[Gb];have hl:0<ys.length:=a2j.2 hne;rcases hx with ⟨rfl,hx⟩|⟨ath,hx,hblk⟩
 ·simp only[jy.p9,hx,hy,C9,jc];rw[bd trivial,al (by omega),bd (by simpa using hb),F1];refine h _ ⟨?_,?_,?_,rfl,rfl⟩
  ·simp[mc.app,PS.put,PS.uu,cu]
  ·simp[mc.app,PS.put,PS.uu]
  intro j hj;simp[mc.app,PS.put,PS.uu,gj _ _ _ _ hj]
 have he:s.dm (s.base+d) (s.av (s.base+d))=some (sz,dm):=by
  unfold PS.dm;rw[bd rfl,hblk]
 simp only[jy.p9,hx,hy,C9,jc,he];rw[bd trivial,bd ⟨Bm,trivial,trivial,hb⟩,F1];refine h _ ⟨?_,?_,?_,rfl,rfl⟩
 ·simp[mc.app,PS.put,PS.uu]
 ·simp[mc.app,PS.put,PS.uu]
 intro j hj;simp[mc.app,PS.put,PS.uu]
def ass(M:PS→Prop)(Q:Exit→PS→Prop):Exit→PS→Prop
 | .normal,s=>M s
 |e,s=>Q e s
theorem aj5{M:PS→Prop}:ass M Q .normal s=M s:=fc rfl (gp _)
theorem asr{M:PS→Prop}{i:Nat}:ass M Q (.exit i) s=Q (.exit i) s:=fc rfl (gp _)
theorem axq{M:PS→Prop}:ass M Q .ret s=Q .ret s:=fc rfl (gp _)
theorem af3{c b:dn}(M:PS→Prop)(h1:kq P c (ass M Q) s)(h2:∀s',M s'→kq P b Q s'):kq P c (Xy P b Q) s:=
 Fz (fun e s' h=>by cases e<;>first|exact h2 s' h|exact h) h1
theorem Yb{l:List RI}(M:PS→Prop)(h1:lk P l s M)(h2:∀s',M s'→K s'):lk P l s K:=a9z h2 h1
theorem we{c b:dn}{i:Nat}(M:PS→Prop)(h1:kq P c (a15 i (ass M Q)) s)(h2:∀s',M s'→kq P b Q s'):kq P c (a15 i (Xy P b Q)) s:=
 Fz (fun e s' h=>by
  cases e with
  |exit j=>
   rw[a7p]at h⊢;split
   ·rename_i hj;rw[bd hj]at h;exact h2 s' h
   rename_i hj;rw[al hj]at h;exact h
  |normal=>exact h2 s' h
  |_=>exact h) h1
def Ix(s:PS)(ids:List Nat)(j:Nat):Option B:=match s.dc j with
 |some (.loc cs)=>some (.loc (cs.map (C.xc s ids)))
 |some (.qi sz dm)=>some (Yl (.qi sz (dm.map fun e=>e.map (C.xc s ids))))
 |b=>b
def aaj(s:PS)(ids:List Nat)(j:Nat):Option (List (D×C)):=(s.mp j).map fun es=>es.map fun e=>(e.1,C.xc s ids e.2)
theorem am7(i:Nat):s.xc [i]={s with tmp:=fun t=>(s.tmp t).xc s [i],dc:=l7 (Ix s [i]) i none,mp:=l7 (aaj s [i]) i none}:=rfl
theorem Z6{ids:List Nat}(h:ids≠[]):s.xc ids=PS.uu ids {s with tmp:=fun t=>(s.tmp t).xc s ids,dc:=Ix s ids,mp:=aaj s ids}:=by
 cases ids with
 |nil=>exact absurd rfl h
 |cons i r=>rfl
theorem Kc{ids:List Nat}(h:ids≠[])(t:Nat):(s.xc ids).tmp t=(s.tmp t).xc s ids:=by rw[Z6 h,a3w]
theorem Lz{ids:List Nat}(h:ids≠[]){i:Nat}(hi:i∉ids):(s.xc ids).dc i=Ix s ids i:=by rw[Z6 h,(a02 _ _ _).1,al hi]
theorem acy{ids:List Nat}(h:ids≠[]){i:Nat}(hi:i∉ids):(s.xc ids).mp i=aaj s ids i:=by rw[Z6 h,(a02 _ _ _).2,al hi]
theorem a3v(ids:List Nat):∀(s:PS),(s.uu ids).av=s.av:=by
 induction ids with
 |nil=>intro s;rfl
 |cons i r ih=>intro s;exact ih _
theorem a48{ids:List Nat}(h:ids≠[]):(s.xc ids).av=s.av:=by rw[Z6 h,a3v]
theorem ao5{ops:List RI}{fz:List Nat}:kq P (.region ops true fz) Q s=lk P ops ((s.xc (sh s.base fz)).uu (sh s.base (ql ops))) (Q .normal):=fc rfl (gp _)
theorem iz.M8{f:Nat}{args:List D}{r r':D}(h:iz P f args r)(hw:∀G v,i6 G r v→i6 G r' v):iz P f args r':=by
 refine⟨h.1,fun G w vs hG hl hr=>(h.2 G w vs hG hl hr).mono ?_⟩;rintro e w' ⟨v,G',he,k1,k2,k3,k4,k5⟩;exact⟨v,G',he,k1,k2,k3,k4,hw _ _ k5⟩
theorem iz.split{f sz:Nat}{as:List D}{r:D}(h1:iz P f (.ck::as) r)(h2:iz P f (.Of::as) r):iz P f (.gz sz []::as) r:=by
 refine⟨h1.1,fun G w vs hG hl hr=>?_⟩
 have hl':vs.size=as.length+1:=by simpa using hl
 have h0:=hr 0 (.gz sz []) vs[0] rfl (bh (by omega))
 have rest:∀y:D,i6 G y vs[0]→∀(i:Nat) (x:D) (v:Value),(y::as)[i]? =some x→vs[i]? =some v→i6 G x v:=by
  intro y hy i x v hx hv
  cases i with
  |zero=>
   simp only[dv,ak]at hx;rw[bh (by omega)]at hv
   injection hv with hv
   subst hx hv;exact hy
  |succ i=>exact hr (i+1) x v hx hv
 generalize hv0:vs[0]=v0 at h0 rest
 cases h0 with
 |Vq=>exact h1.2 G w vs hG (by simpa using hl) (rest _ .ck)
 |gz=>exact h2.2 G w vs hG (by simpa using hl) (rest _ .Of)
 |Y2=>exact h2.2 G w vs hG (by simpa using hl) (rest _ .Of)
theorem Lh{sz:Nat}:∀G v,i6 G .ck v→i6 G (.gz sz []) v:=by
 intro G v h;cases h;exact .Vq
end
attribute [go_sem] aHx aI0 aHz aI1 aHq aHu aI2 aHy aHt aHs aHr aHo aHv aHw aHp aI7 aI8 aIb aI3 aIc aAa List.getD_cons_succ aI9 aI6 aI5 aIa aI4 dr gn aey Tx arv ae2 ae3 ae4 avr aru abr M9 an6 ae9 adl a7p aq5 ad3 ak5 Tz a05 aoo aon asc aj0 asg afl ash asf aDr als aBa aB9 aB8 axj alr ax9 aDn aBc aDp axc aDs aGi aBe axe aBg ax8 asb asi asa aB4 aB5 aDq aBi aBf aBh aBd aBb axa ase aB6 axb aDo asd asm aB7 asl axi axh axf apv axg afk a7e Z5 F1 a5a as3 agr aEy aj ahh al2 RI.ql aAl avz PS.uu arx a73 Vr Re Za PS.Jb B.De mkt V.ent PS.elc aFr M7 dv i7 jy.p9 V.cells aLy Gz mc.app PS.put mc.tj Rs PS.cs PS.dm Option.getD aLg Option.bind C4 za P0 Ke aLq aLs mkv mkd Lo C.toV V.toC adm a9i a1r ala Yc ain a1j Ye aD4 Int.le_refl Int.toNat_zero amp gd Af and_self or_true true_or true_and and_true K0 Mo patch List.append yv Ap sr W4 aJr C.one D.one aK3 Hj u9 ay cj du adz M5 List.drop_succ_cons aJw Pn Qs fw Bool.true_eq_false ne_eq not_false_eq_true not_true_eq_false decide_true decide_false amm Option.toList_none start gt_iff_lt ge_iff_le Hk snap V.isD D.flat D.scalar ak D.bool.injEq D.int.injEq V.live Bc Ow cz bn isNil a6n aty ayp aj5 asr axq Nat.lt_irrefl Int.lt_irrefl eq_self fu Oq Wh chunks avf aIu
def Qi:dn:=
 rq [wx 3 2 0,wx 4 2 1,wx 5 2 2,wc 6 0] (rq [wa 7 2 1 4 0,rl 8 1 false 7,wa 9 2 1 3 0,
 rl 10 1 false 9,wb 11 .sub 8 10,wa 12 2 1 5 1,rl 13 1 false 12,wa 14 2 1 3 1,rl 15 1 false 14,
 wb 16 .sub 13 15,wb 17 .mul 11 16,wa 18 2 1 4 1,rl 19 1 false 18,wa 20 2 1 3 1,rl 21 1 false 20,
 wb 22 .sub 19 21,wa 23 2 1 5 0,rl 24 1 false 23,wa 25 2 1 3 0,rl 26 1 false 25,wb 27 .sub 24 26,
 wb 28 .mul 22 27,wb 29 .sub 17 28,rm 6 29] br)
def Jm:dn:=
 rq [wc 2 0] (ar (dd 0 (rq [rm 4 0,wd 5 .lss 4 0,rm 3 5] (wt 3 (rq [wc 2 (-1)] br) (rq [rm 7 0,
 wd 8 .gtr 7 0,rm 6 8] (wt 6 (rq [wc 2 1] br) bz))))) (rq [wc 2 0] br))
def Qf:dn:=
 rq [wx 2 2 0,wx 3 2 1,ri 4 (.alloc [.int ab 0,.int ab 0])] (rq [wa 5 2 1 2 0,rl 6 1 false 5,
 wa 7 2 1 3 0,rl 8 1 false 7,wb 9 .sub 6 8,wa 10 2 1 2 1,rl 11 1 false 10,wa 12 2 1 3 1,
 rl 13 1 false 12,wb 14 .sub 11 13,ri 15 (.build [.int ab 0,.int ab 0] [(0,1,.t 9),(1,1,.t 14)]),ws 2 4 15] br)
def F6:dn:=
 rq [wx 1 2 0,wf 2 false] (rq [wa 3 2 1 1 0,rl 4 1 false 3,wd 5 .geq 4 (-500),rm 6 5,
 rg 7 6 true (.xe 2 1 (.t 1) (ci 0)),wl 8 6 true 1 false 7,rg 9 6 true (.bin .leq (.t 8) (ci 500)),wp 10 6 9,rm 11 10,
 rg 12 11 true (.xe 2 1 (.t 1) (ci 1)),wl 13 11 true 1 false 12,rg 14 11 true (.bin .geq (.t 13) (ci (-500))),
 wp 15 11 14,rm 16 15,rg 17 16 true (.xe 2 1 (.t 1) (ci 1)),wl 18 16 true 1 false 17,
 rg 19 16 true (.bin .leq (.t 18) (ci 500)),wp 20 16 19,rm 2 20] br)
def Wu(o7:Nat):dn:=
 rq [wx 2 4 0,wx 3 2 1,wf 4 false] (ar (rq [rf 5 0 2,rl 6 2 true 5,rf 7 2 2,rl 8 2 true 7,rl 9 2 true 3,
 ri 10 (.call o7 [.t 6,.t 8,.t 9]),wd 11 .neq 10 0] (wt 11 (rq [wf 4 false] br) bz)) (rq [rf 12 0 2,
 wa 13 2 1 12 0,rl 14 1 false 13,rf 15 2 2,wa 16 2 1 15 0,rl 17 1 false 16,ri 18 (.Ep false (.t 14) (.t 17)),
 wa 19 2 1 3 0,rl 20 1 false 19,wb 21 .leq 18 20,rm 22 21,rg 23 22 true (.xe 2 1 (.t 3) (ci 0)),wl 24 22 true 1 false 23,
 rg 25 22 true (.D4 0 (.t 2)),rg 26 22 true (.xe 2 1 (.t 25) (ci 0)),wl 27 22 true 1 false 26,rg 28 22 true (.D4 2 (.t 2)),
 rg 29 22 true (.xe 2 1 (.t 28) (ci 0)),wl 30 22 true 1 false 29,rg 31 22 true (.Ep true (.t 27) (.t 30)),rg 32 22 true (.bin .leq (.t 24) (.t 31)),
 wp 33 22 32,rm 34 33,rg 35 34 true (.D4 0 (.t 2)),rg 36 34 true (.xe 2 1 (.t 35) (ci 1)),wl 37 34 true 1 false 36,
 rg 38 34 true (.D4 2 (.t 2)),rg 39 34 true (.xe 2 1 (.t 38) (ci 1)),wl 40 34 true 1 false 39,rg 41 34 true (.Ep false (.t 37) (.t 40)),
 rg 42 34 true (.xe 2 1 (.t 3) (ci 1)),wl 43 34 true 1 false 42,rg 44 34 true (.bin .leq (.t 41) (.t 43)),wp 45 34 44,
 rm 46 45,rg 47 46 true (.xe 2 1 (.t 3) (ci 1)),wl 48 46 true 1 false 47,rg 49 46 true (.D4 0 (.t 2)),rg 50 46 true (.xe 2 1 (.t 49) (ci 1)),
 wl 51 46 true 1 false 50,rg 52 46 true (.D4 2 (.t 2)),rg 53 46 true (.xe 2 1 (.t 52) (ci 1)),wl 54 46 true 1 false 53,
 rg 55 46 true (.Ep true (.t 51) (.t 54)),rg 56 46 true (.bin .leq (.t 48) (.t 55)),wp 57 46 56,rm 4 57] br))
def La(o7 B7:Nat):dn:=
 rq [wx 2 4 0,wx 3 4 1,wf 4 false] (ar (cb [rf 5 0 2,rl 6 2 true 5,rf 7 2 2,rl 8 2 true 7,rf 9 0 3,rl 10 2 true 9,
 ri 11 (.call o7 [.t 6,.t 8,.t 10]),ri 12 (.call B7 [.t 11]),rf 13 0 2,rl 14 2 true 13,rf 15 2 2,rl 16 2 true 15,rf 17 2 3,rl 18 2 true 17,
 ri 19 (.call o7 [.t 14,.t 16,.t 18]),ri 20 (.call B7 [.t 19]),wb 21 .mul 12 20,wd 22 .lss 21 0,rm 23 22,
 rg 24 23 true (.D4 0 (.t 3)),wl 25 23 true 2 true 24,rg 26 23 true (.D4 2 (.t 3)),wl 27 23 true 2 true 26,rg 28 23 true (.D4 0 (.t 2)),
 wl 29 23 true 2 true 28,rg 30 23 true (.call o7 [.t 25,.t 27,.t 29]),rg 31 23 true (.call B7 [.t 30]),
 rg 32 23 true (.D4 0 (.t 3)),wl 33 23 true 2 true 32,rg 34 23 true (.D4 2 (.t 3)),wl 35 23 true 2 true 34,rg 36 23 true (.D4 2 (.t 2)),
 wl 37 23 true 2 true 36,rg 38 23 true (.call o7 [.t 33,.t 35,.t 37]),rg 39 23 true (.call B7 [.t 38]),
 rg 40 23 true (.bin .mul (.t 31) (.t 39)),rg 41 23 true (.bin .lss (.t 40) (ci 0)),wp 42 23 41,rm 4 42] true []) br)
def Jn:dn:=
 rq [wx 2 2 0,wx 3 2 1,wc 4 0] (rq [wa 7 2 1 2 0,rl 8 1 false 7,wa 9 2 1 3 1,rl 10 1 false 9,
 wb 11 .mul 8 10,wa 12 2 1 2 1,rl 13 1 false 12,wa 14 2 1 3 0,rl 15 1 false 14,wb 16 .mul 13 15,
 wb 17 .sub 11 16,rm 5 17] (rq [wa 18 2 1 2 0,rl 19 1 false 18,wa 20 2 1 3 0,rl 21 1 false 20,
 wb 22 .mul 19 21,wa 23 2 1 2 1,rl 24 1 false 23,wa 25 2 1 3 1,rl 26 1 false 25,wb 27 .mul 24 26,
 wb 28 .add 22 27,rm 6 28] (ar (dd 0 (rq [rm 30 5,wd 31 .lss 30 0,
 rm 29 31] (wt 29 (rq [wc 4 0] br) (rq [rm 33 5,wd 34 .gtr 33 0,
 rm 32 34] (wt 32 (rq [wc 4 2] br) (rq [rm 36 6,wd 37 .lss 36 0,
 rm 35 37] (wt 35 (rq [wc 4 1] br) bz))))))) (rq [wc 4 3] br))))
def Oj(yf:Nat):dn:=
 rq [wx 3 2 0,wx 4 2 1,wx 5 2 2,wf 6 false] (ar (cb [rl 9 2 true 3,rl 10 2 true 4,
 ri 11 (.call yf [.t 9,.t 10]),rl 12 2 true 3,rl 13 2 true 5,ri 14 (.call yf [.t 12,.t 13]),rm 7 11,
 rm 8 14] true []) (ar (rq [rm 15 7,rm 16 8,wb 17 .neq 15 16] (wt 17 (rq [rm 18 7,rm 19 8,wb 20 .lss 18 19,
 rm 6 20] br) bz)) (rq [wa 21 2 1 4 0,rl 22 1 false 21,wa 23 2 1 5 1,rl 24 1 false 23,wb 25 .mul 22 24,
 wa 26 2 1 4 1,rl 27 1 false 26,wa 28 2 1 5 0,rl 29 1 false 28,wb 30 .mul 27 29,wb 31 .sub 25 30,
 wd 32 .lss 31 0,rm 6 32] br)))
def Qh:dn:=
 rq [wo 2] (rq [wo 3] (ar (rq [wc 4 0] (dd 0 (ix (ar (rq [rm 6 4,rm 7 0,wn 8 7,
 wb 9 .lss 6 8] (wt 9 bz (iq 0))) (ar (dd 1 (rq [wc 5 0] (dd 2 (ix (ar (rq [rm 12 5,rm 13 0,rm 14 4,
 wi 15 1 13 14,rl 16 1 false 15,wn 17 16,
 wb 18 .lss 12 17] (wt 18 bz (iq 2))) (ar (dd 3 (cb [rm 21 3,rm 22 0,rm 23 4,wi 24 1 22 23,rl 25 1 false 24,
 rm 26 5,wi 27 2 25 26,rl 28 2 true 27,rm 29 0,rm 30 4,wi 31 1 29 30,rl 32 1 false 31,rm 33 5,wd 34 .add 33 1,rm 35 0,
 rm 36 4,wi 37 1 35 36,rl 38 1 false 37,wn 39 38,wb 40 .rem 34 39,wi 41 2 32 40,rl 42 2 true 41,
 ri 43 (.build [.int ab 0,.int ab 0,.int ab 0,.int ab 0] [(0,2,.t 28),(2,2,.t 42)]),
 ri 44 (.yy false 1 4 [.int ab 0,.int ab 0,.int ab 0,.int ab 0] [(0,4,.t 43)]),ri 45 (.app 4 32 (.t 21) (.t 44)),rm 3 45] true [])) (cb [rm 19 5,
 wd 20 .add 19 1,rm 5 20] false []))))))) (cb [rm 10 4,wd 11 .add 10 1,rm 4 11] false [])))))) (rq [rm 46 3,rm 2 46] br)))
def Sa(o7:Nat):dn:=
 rq [wc 4 0] (rq [rm 13 0,rm 14 1,wi 15 4 13 14,rl 16 4 true 15,ri 5 (.alloc [.int ab 0,.int ab 0,.int ab 0,.int ab 0]),
 ws 4 5 16] (ar (rq [rf 17 0 5,wa 18 2 1 17 0,rl 19 1 false 18,rf 20 2 5,wa 21 2 1 20 0,rl 22 1 false 21,
 wb 23 .eql 19 22] (wt 23 (rq [wo 6] (ar (rq [wc 7 0] (dd 0 (ix (ar (rq [rm 24 7,rm 25 0,
 wn 26 25,wb 27 .lss 24 26] (wt 27 bz (iq 0))) (ar (dd 1 (cb [rm 30 6,rm 31 0,rm 32 7,
 wi 33 4 31 32,rf 34 0 33,wa 35 2 1 34 1,rl 36 1 false 35,ri 37 (.un .neg (.t 36)),rm 38 0,rm 39 7,wi 40 4 38 39,
 rf 41 0 40,wa 42 2 1 41 0,rl 43 1 false 42,ri 44 (.build [.int ab 0,.int ab 0] [(0,1,.t 37),(1,1,.t 43)]),rm 45 0,rm 46 7,
 wi 47 4 45 46,rf 48 2 47,wa 49 2 1 48 1,rl 50 1 false 49,ri 51 (.un .neg (.t 50)),rm 52 0,rm 53 7,wi 54 4 52 53,
 rf 55 2 54,wa 56 2 1 55 0,rl 57 1 false 56,ri 58 (.build [.int ab 0,.int ab 0] [(0,1,.t 51),(1,1,.t 57)]),
 ri 59 (.build [.int ab 0,.int ab 0,.int ab 0,.int ab 0] [(0,2,.t 44),(2,2,.t 58)]),
 ri 60 (.yy false 1 4 [.int ab 0,.int ab 0,.int ab 0,.int ab 0] [(0,4,.t 59)]),ri 61 (.app 4 32 (.t 30) (.t 60)),rm 6 61] true [])) (cb [rm 28 7,
 wd 29 .add 28 1,rm 7 29] false [])))))) (cb [rm 62 6,rm 63 6,rm 64 1,wi 65 4 63 64,rl 66 4 true 65,rm 0 62,
 ws 4 5 66] true [61]))) bz)) (rq [rf 67 0 5,wa 68 2 1 67 0,rl 69 1 false 68,rf 70 2 5,wa 71 2 1 70 0,
 rl 72 1 false 71,wb 73 .add 69 72,rf 74 0 5,wa 75 2 1 74 1,rl 76 1 false 75,rf 77 2 5,wa 78 2 1 77 1,
 rl 79 1 false 78,wb 80 .add 76 79,ri 81 (.build [.int ab 0,.int ab 0] [(0,1,.t 73),(1,1,.t 80)]),ri 8 (.alloc [.int ab 0,.int ab 0]),
 ws 2 8 81] (rq [wc 9 0] (ar (rq [wc 10 0] (dd 2 (ix (ar (rq [rm 82 10,rm 83 0,wn 84 83,
 wb 85 .lss 82 84] (wt 85 bz (iq 2))) (ar (dd 3 (ar (cb [rm 88 0,rm 89 10,wi 90 4 88 89,rf 91 0 90,
 wa 92 2 1 91 0,rl 93 1 false 92,ri 94 (.bin .mul (ci 2) (.t 93)),rm 95 0,rm 96 10,wi 97 4 95 96,rf 98 0 97,
 wa 99 2 1 98 1,rl 100 1 false 99,ri 101 (.bin .mul (ci 2) (.t 100)),ri 102 (.build [.int ab 0,.int ab 0] [(0,1,.t 94),(1,1,.t 101)]),
 rm 103 0,rm 104 10,wi 105 4 103 104,rf 106 2 105,wa 107 2 1 106 0,rl 108 1 false 107,ri 109 (.bin .mul (ci 2) (.t 108)),rm 110 0,
 rm 111 10,wi 112 4 110 111,rf 113 2 112,wa 114 2 1 113 1,rl 115 1 false 114,ri 116 (.bin .mul (ci 2) (.t 115)),
 ri 117 (.build [.int ab 0,.int ab 0] [(0,1,.t 109),(1,1,.t 116)]),ri 11 (.A9 2),ri 12 (.A9 2),rn (.init 11 2 (.t 102)),
 rn (.init 12 2 (.t 117))] true []) (ar (rq [rm 118 10,rm 119 1,
 wb 120 .eql 118 119] (wt 120 (iq 3) bz)) (dd 4 (rq [wa 122 2 1 11 0,rl 123 1 false 122,
 wa 124 2 1 8 0,rl 125 1 false 124,wb 126 .leq 123 125,rm 127 126,rg 128 127 true (.xe 2 1 (.t 8) (ci 0)),
 wl 129 127 true 1 false 128,rg 130 127 true (.xe 2 1 (.t 12) (ci 0)),wl 131 127 true 1 false 130,
 rg 132 127 true (.bin .lss (.t 129) (.t 131)),wp 133 127 132,rm 134 133,wl 135 134 true 2 true 11,
 wl 136 134 true 2 true 12,wl 137 134 true 2 true 8,rg 138 134 true (.call o7 [.t 135,.t 136,.t 137]),
 rg 139 134 true (.bin .lss (.t 138) (ci 0)),wp 140 134 139,rm 121 140] (wt 121 (cb [rm 141 9,
 wd 142 .sub 141 1,rm 9 142] false []) (rq [wa 144 2 1 12 0,rl 145 1 false 144,wa 146 2 1 8 0,rl 147 1 false 146,
 wb 148 .leq 145 147,rm 149 148,rg 150 149 true (.xe 2 1 (.t 8) (ci 0)),wl 151 149 true 1 false 150,
 rg 152 149 true (.xe 2 1 (.t 11) (ci 0)),wl 153 149 true 1 false 152,rg 154 149 true (.bin .lss (.t 151) (.t 153)),
 wp 155 149 154,rm 156 155,wl 157 156 true 2 true 11,wl 158 156 true 2 true 12,
 wl 159 156 true 2 true 8,rg 160 156 true (.call o7 [.t 157,.t 158,.t 159]),rg 161 156 true (.bin .gtr (.t 160) (ci 0)),
 wp 162 156 161,rm 143 162] (wt 143 (cb [rm 163 9,wd 164 .add 163 1,
 rm 9 164] false []) bz)))))))) (cb [rm 86 10,wd 87 .add 86 1,rm 10 87] false [])))))) (ar (rq [rf 165 0 5,wa 166 2 1 165 0,
 rl 167 1 false 166,rf 168 2 5,wa 169 2 1 168 0,rl 170 1 false 169,wb 171 .gtr 167 170] (wt 171 (cb [rm 172 9,
 wd 173 .add 172 1,rm 9 173] false []) bz)) (rq [rm 174 9,rm 4 174] br)))))))
def Qe(x6 E0:Nat):dn:=
 rq [wf 4 false] (ar (rq [wc 5 0] (dd 0 (ix (ar (rq [rm 13 5,rm 14 0,wn 15 14,
 wb 16 .lss 13 15] (wt 16 bz (iq 0))) (ar (dd 1 (rq [rm 19 0,rm 20 5,wi 21 1 19 20,rl 22 1 false 21,
 wn 23 22,rm 6 23] (rq [wc 7 0] (dd 2 (ix (ar (rq [rm 24 7,rm 25 6,
 wb 26 .lss 24 25] (wt 26 bz (iq 2))) (ar (dd 3 (ar (cb [rm 29 0,rm 30 5,wi 31 1 29 30,rl 32 1 false 31,
 rm 33 7,wd 34 .add 33 1,rm 35 6,wb 36 .rem 34 35,wi 37 2 32 36,rl 38 2 true 37,rm 39 0,rm 40 5,
 wi 41 1 39 40,rl 42 1 false 41,rm 43 7,wd 44 .add 43 2,rm 45 6,wb 46 .rem 44 45,wi 47 2 42 46,
 rl 48 2 true 47,ri 8 (.A9 2),ri 9 (.A9 2),rn (.init 8 2 (.t 38)),rn (.init 9 2 (.t 48))] true []) (ar (cb [rm 49 0,rm 50 5,wi 51 1 49 50,
 rl 52 1 false 51,rm 53 7,wi 54 2 52 53,rl 55 2 true 54,rl 56 2 true 8,ri 57 (.call x6 [.t 55,.t 56]),ri 10 (.A9 2),
 rn (.init 10 2 (.t 57))] true []) (rq [wc 11 0] (dd 4 (ix (ar (rq [rm 58 11,rm 59 1,wn 60 59,
 wb 61 .lss 58 60] (wt 61 bz (iq 4))) (ar (dd 5 (rq [ri 64 (.build [.int ab 0,.int ab 0] []),
 ri 12 (.alloc [.int ab 0,.int ab 0]),ws 2 12 64] (ar (rq [rl 65 2 true 8] (dd 6 (rq [rm 67 1,rm 68 11,wi 69 4 67 68,
 rf 70 0 69,rl 71 2 true 70,ri 72 (.eqs [.int,.int] false (.t 65) (.t 71)),rm 66 72] (wt 66 (cb [rm 73 1,rm 74 11,wi 75 4 73 74,rf 76 2 75,
 rl 77 2 true 76,rl 78 2 true 8,ri 79 (.call x6 [.t 77,.t 78]),ws 2 12 79] true []) (rq [rm 81 1,rm 82 11,
 wi 83 4 81 82,rf 84 2 83,rl 85 2 true 84,ri 86 (.eqs [.int,.int] false (.t 65) (.t 85)),rm 80 86] (wt 80 (cb [rm 87 1,rm 88 11,
 wi 89 4 87 88,rf 90 0 89,rl 91 2 true 90,rl 92 2 true 8,ri 93 (.call x6 [.t 91,.t 92]),
 ws 2 12 93] true []) (iq 5))))))) (ar (cb [rl 94 2 true 12,rl 95 2 true 10,ri 96 (.eqs [.int,.int] true (.t 94) (.t 95)),rm 97 96,
 wl 98 97 true 2 true 12,wl 99 97 true 2 true 9,wl 100 97 true 2 true 8,rg 101 97 true (.call x6 [.t 99,.t 100]),
 rg 102 97 true (.eqs [.int,.int] true (.t 98) (.t 101)),wp 103 97 102,rm 104 103,wl 105 104 true 2 true 10,
 wl 106 104 true 2 true 12,wl 107 104 true 2 true 9,wl 108 104 true 2 true 8,
 rg 109 104 true (.call x6 [.t 107,.t 108]),rg 110 104 true (.call E0 [.t 105,.t 106,.t 109]),
 wp 111 104 110] true []) (wt 111 (rq [wf 4 false] br) bz))))) (cb [rm 62 11,
 wd 63 .add 62 1,rm 11 63] false []))))))))) (cb [rm 27 7,wd 28 .add 27 1,rm 7 28] false [])))))))) (cb [rm 17 5,
 wd 18 .add 17 1,rm 5 18] false [])))))) (rq [wf 4 true] br))
def Qg(Fb D7 Ll Bo Gu Fa:Nat):dn:=
 rq [wf 2 false] (rq [wc 3 0] (ar (rq [wc 4 0] (dd 0 (ix (ar (rq [rm 10 4,rm 11 0,wn 12 11,
 wb 13 .lss 10 12] (wt 13 bz (iq 0))) (ar (dd 1 (rq [rm 16 3,rm 17 0,rm 18 4,wi 19 1 17 18,rl 20 1 false 19,
 wn 21 20,wb 22 .add 16 21,rm 3 22] (ar (rq [rm 23 0,rm 24 4,wi 25 1 23 24,rl 26 1 false 25,
 wn 27 26,wd 28 .lss 27 3,rm 29 28,wm 30 29 false 3,rg 31 29 false (.bin .gtr (.t 30) (ci 60)),
 wq 32 29 31] (wt 32 (rq [wf 2 false] br) bz)) (rq [wc 5 0] (dd 2 (ix (ar (rq [rm 33 5,
 rm 34 0,rm 35 4,wi 36 1 34 35,rl 37 1 false 36,wn 38 37,
 wb 39 .lss 33 38] (wt 39 bz (iq 2))) (ar (dd 3 (rq [rm 42 0,rm 43 4,wi 44 1 42 43,rl 45 1 false 44,rm 46 5,
 wi 47 2 45 46,rl 48 2 true 47,ri 49 (.call Fb [.t 48]),
 ri 50 (.un .not (.t 49))] (wt 50 (rq [wf 2 false] br) bz))) (cb [rm 40 5,wd 41 .add 40 1,
 rm 5 41] false []))))))))) (cb [rm 14 4,wd 15 .add 14 1,rm 4 15] false [])))))) (rq [rm 51 0,ri 52 (.call D7 [.t 51]),
 rm 6 52] (ar (rq [wc 7 0] (dd 4 (ix (ar (rq [rm 53 7,rm 54 6,wn 55 54,
 wb 56 .lss 53 55] (wt 56 bz (iq 4))) (ar (dd 5 (ar (ar (cb [rm 59 6,rm 60 7,wi 61 4 59 60,rf 62 0 61,
 rl 63 2 true 62,rm 64 6,rm 65 7,wi 66 4 64 65,rf 67 2 66,rl 68 2 true 67,
 ri 69 (.eqs [.int,.int] false (.t 63) (.t 68))] true []) (wt 69 (rq [wf 2 false] br) bz)) (rq [wc 8 0] (dd 6 (ix (ar (rq [rm 70 8,
 rm 71 6,wn 72 71,wb 73 .lss 70 72] (wt 73 bz (iq 6))) (ar (dd 7 (ar (ar (cb [rm 76 6,rm 77 8,
 wi 78 4 76 77,rf 79 0 78,rl 80 2 true 79,rm 81 6,rm 82 7,wi 83 4 81 82,rf 84 0 83,rl 85 2 true 84,
 ri 86 (.eqs [.int,.int] true (.t 80) (.t 85)),rm 87 86,wm 88 87 true 6,wm 89 87 true 8,rg 90 87 true (.xm 4 (.t 88) (.t 89)),
 rg 91 87 true (.D4 0 (.t 90)),wl 92 87 true 2 true 91,wm 93 87 true 6,wm 94 87 true 7,rg 95 87 true (.xm 4 (.t 93) (.t 94)),
 rg 96 87 true (.D4 2 (.t 95)),wl 97 87 true 2 true 96,rg 98 87 true (.eqs [.int,.int] true (.t 92) (.t 97)),
 wp 99 87 98,rm 100 99,wm 101 100 true 6,wm 102 100 true 7,rg 103 100 true (.xm 4 (.t 101) (.t 102)),
 wl 104 100 true 4 true 103,wm 105 100 true 6,wm 106 100 true 8,rg 107 100 true (.xm 4 (.t 105) (.t 106)),
 rg 108 100 true (.D4 0 (.t 107)),wl 109 100 true 2 true 108,rg 110 100 true (.call Ll [.t 104,.t 109]),
 wp 111 100 110,rm 112 111,wm 113 112 false 6,wm 114 112 false 7,rg 115 112 false (.xm 4 (.t 113) (.t 114)),
 wl 116 112 false 4 true 115,wm 117 112 false 6,wm 118 112 false 8,rg 119 112 false (.xm 4 (.t 117) (.t 118)),
 wl 120 112 false 4 true 119,rg 121 112 false (.call Bo [.t 116,.t 120]),
 wq 122 112 121] true []) (wt 122 (rq [wf 2 false] br) bz)) (ar (cb [rm 123 7,rm 124 8,
 wb 125 .neq 123 124,rm 126 125,wm 127 126 true 6,wm 128 126 true 7,rg 129 126 true (.xm 4 (.t 127) (.t 128)),
 wl 130 126 true 4 true 129,wm 131 126 true 6,wm 132 126 true 8,rg 133 126 true (.xm 4 (.t 131) (.t 132)),
 wl 134 126 true 4 true 133,rg 135 126 true (.eqs [.int,.int,.int,.int] false (.t 130) (.t 134)),wm 136 126 true 135,
 wm 137 136 false 6,wm 138 136 false 7,rg 139 136 false (.xm 4 (.t 137) (.t 138)),rg 140 136 false (.D4 0 (.t 139)),
 wl 141 136 false 2 true 140,wm 142 136 false 6,wm 143 136 false 8,rg 144 136 false (.xm 4 (.t 142) (.t 143)),
 rg 145 136 false (.D4 2 (.t 144)),wl 146 136 false 2 true 145,rg 147 136 false (.eqs [.int,.int] false (.t 141) (.t 146)),wm 148 136 false 147,
 wm 149 148 true 6,wm 150 148 true 7,rg 151 148 true (.xm 4 (.t 149) (.t 150)),rg 152 148 true (.D4 2 (.t 151)),
 wl 153 148 true 2 true 152,wm 154 148 true 6,wm 155 148 true 8,rg 156 148 true (.xm 4 (.t 154) (.t 155)),
 rg 157 148 true (.D4 0 (.t 156)),wl 158 148 true 2 true 157,rg 159 148 true (.eqs [.int,.int] false (.t 153) (.t 158)),
 rg 160 136 false (.pick (.t 148) (.t 159) (.c (.bool false))),rg 161 126 true (.pick (.t 136) (.c (.bool true)) (.t 160)),
 wp 162 126 161] true []) (wt 162 (rq [wf 2 false] br) bz)))) (cb [rm 74 8,
 wd 75 .add 74 1,rm 8 75] false [])))))))) (cb [rm 57 7,wd 58 .add 57 1,
 rm 7 58] false [])))))) (ar (rq [wc 9 0] (dd 8 (ix (ar (rq [rm 163 9,rm 164 6,wn 165 164,
 wb 166 .lss 163 165] (wt 166 bz (iq 8))) (ar (dd 9 (rq [rm 169 6,rm 170 9,ri 171 (.call Gu [.t 169,.t 170]),
 wd 172 .neq 171 1] (wt 172 (rq [wf 2 false] br) bz))) (cb [rm 167 9,wd 168 .add 167 1,
 rm 9 168] false [])))))) (rq [rm 173 0,rm 174 6,ri 175 (.call Fa [.t 173,.t 174]),rm 2 175] br))))))
def Jk:dn:=
 rq [wf 2 false] (rq [rm 3 0,wd 4 .geq 3 (-1000000),rm 5 4,wm 6 5 true 0,rg 7 5 true (.bin .leq (.t 6) (ci 1000000)),
 wp 8 5 7,rm 2 8] br)
def Jl:dn:=
 rq [wf 2 false] (ar (rq [rm 5 0,ri 6 (.len .str (.t 5)),wd 7 .lss 6 1,rm 8 7,wm 9 8 false 0,
 rg 10 8 false (.len .str (.t 9)),rg 11 8 false (.bin .gtr (.t 10) (ci 20)),
 wq 12 8 11] (wt 12 (rq [wf 2 false] br) bz)) (ar (rq [wc 3 0] (dd 0 (ix (ar (rq [rm 13 3,
 rm 14 0,ri 15 (.len .str (.t 14)),wb 16 .lss 13 15] (wt 16 bz (iq 0))) (ar (dd 1 (rq [rm 19 0,rm 20 3,
 ri 21 (.a0d (.t 19) (.t 20)),ri 22 (.bin .geq (.t 21) (.c (.int .u8 97))),rm 23 22,wm 24 23 true 0,wm 25 23 true 3,
 rg 26 23 true (.a0d (.t 24) (.t 25)),rg 27 23 true (.bin .leq (.t 26) (.c (.int .u8 122))),wp 28 23 27,rm 4 28] (rq [rm 29 4,
 ri 30 (.un .not (.t 29)),rm 31 30,wm 32 31 true 3,rg 33 31 true (.bin .eql (.t 32) (ci 0)),wm 34 31 true 33,wm 35 34 false 0,
 wm 36 34 false 3,rg 37 34 false (.a0d (.t 35) (.t 36)),rg 38 34 false (.bin .lss (.t 37) (.c (.int .u8 48))),
 rg 39 31 true (.pick (.t 34) (.c (.bool true)) (.t 38)),wm 40 31 true 39,wm 41 40 false 0,wm 42 40 false 3,
 rg 43 40 false (.a0d (.t 41) (.t 42)),rg 44 40 false (.bin .gtr (.t 43) (.c (.int .u8 57))),rg 45 31 true (.pick (.t 40) (.c (.bool true)) (.t 44)),
 wp 46 31 45] (wt 46 (rq [wf 2 false] br) bz)))) (cb [rm 17 3,
 wd 18 .add 17 1,rm 3 18] false [])))))) (rq [wf 2 true] br)))
def Dk(tg tz:Nat):dn:=
 rq [wf 2 false] (ar (rq [rm 4 0,wn 5 4,
 wd 6 .gtr 5 20] (wt 6 (rq [wf 2 false] br) bz)) (ar (rq [wc 3 0] (dd 0 (ix (ar (rq [rm 7 3,
 rm 8 0,wn 9 8,wb 10 .lss 7 9] (wt 10 bz (iq 0))) (ar (dd 1 (ar (cb [rm 13 0,rm 14 3,
 wi 15 2 13 14,rf 16 0 15,rl 17 1 false 16,ri 18 (.call tg [.t 17]),ri 19 (.un .not (.t 18)),rm 20 19,wm 21 20 false 0,
 wm 22 20 false 3,rg 23 20 false (.xm 2 (.t 21) (.t 22)),rg 24 20 false (.D4 1 (.t 23)),wl 25 20 false 1 false 24,
 rg 26 20 false (.call tz [.t 25]),rg 27 20 false (.un .not (.t 26)),wq 28 20 27,rm 29 28,wm 30 29 false 3,
 rg 31 29 false (.bin .gtr (.t 30) (ci 0)),wm 32 29 false 31,wm 33 32 true 0,wm 34 32 true 3,rg 35 32 true (.bin .sub (.t 34) (ci 1)),
 rg 36 32 true (.xm 2 (.t 33) (.t 35)),rg 37 32 true (.D4 0 (.t 36)),wl 38 32 true 1 false 37,wm 39 32 true 0,wm 40 32 true 3,
 rg 41 32 true (.xm 2 (.t 39) (.t 40)),rg 42 32 true (.D4 0 (.t 41)),wl 43 32 true 1 false 42,rg 44 32 true (.bin .geq (.t 38) (.t 43)),
 rg 45 29 false (.pick (.t 32) (.t 44) (.c (.bool false))),
 wq 46 29 45] true []) (wt 46 (rq [wf 2 false] br) bz))) (cb [rm 11 3,
 wd 12 .add 11 1,rm 3 12] false [])))))) (rq [wf 2 true] br)))
def Ii(tz tg:Nat):dn:=
 rq [wx 1 3 0,wf 2 false] (rq [rf 3 1 1,rl 4 1 false 3,ri 5 (.call tz [.t 4]),rm 6 5,rg 7 6 true (.D4 2 (.t 1)),
 wl 8 6 true 1 false 7,rg 9 6 true (.call tz [.t 8]),wp 10 6 9,rm 11 10,rg 12 11 true (.D4 0 (.t 1)),
 wl 13 11 true 1 false 12,rg 14 11 true (.call tg [.t 13]),wm 15 11 true 14,rg 16 15 false (.D4 0 (.t 1)),
 wl 17 15 false 1 false 16,rg 18 15 false (.bin .eql (.t 17) (.c (.str ⟨#[]⟩))),wm 19 15 false 18,rg 20 19 true (.D4 1 (.t 1)),
 wl 21 19 true 1 false 20,rg 22 19 true (.bin .eql (.t 21) (ci 0)),rg 23 15 false (.pick (.t 19) (.t 22) (.c (.bool false))),
 rg 24 11 true (.pick (.t 15) (.c (.bool true)) (.t 23)),wp 25 11 24,rm 2 25] br)
def Qc:dn:=
 rq [wo 0] (rq [ri 1 (.yy false 14 1 [.str ⟨#[]⟩] [(0,1,.c (.str ⟨#[98,111,120]⟩)),(1,1,.c (.str ⟨#[112,114,105,115,109]⟩)),(2,1,.c (.str ⟨#[115,108,97,110,116]⟩)),(3,1,.c (.str ⟨#[112,121,114,97,109,105,100]⟩)),(4,1,.c (.str ⟨#[117,110,105,111,110]⟩)),(5,1,.c (.str ⟨#[105,110,116,101,114,115,101,99,116]⟩)),(6,1,.c (.str ⟨#[115,117,98,116,114,97,99,116]⟩)),(7,1,.c (.str ⟨#[99,108,105,112]⟩)),(8,1,.c (.str ⟨#[115,104,105,102,116]⟩)),(9,1,.c (.str ⟨#[115,121,109,109,101,116,114,121]⟩)),(10,1,.c (.str ⟨#[115,99,97,108,101]⟩)),(11,1,.c (.str ⟨#[115,117,109]⟩)),(12,1,.c (.str ⟨#[99,111,114,101]⟩)),(13,1,.c (.str ⟨#[114,101,112,101,97,116]⟩))]),
 rm 0 1] br)
def Gn(D6:Nat):dn:=
 rq [ri 2 (.ji (.c (.str ⟨#[]⟩)))] (ar (rq [rm 3 0,wd 4 .lss 3 0,rm 5 4,wm 6 5 false 0,rg 7 5 false (.call D6 []),
 rg 8 5 false (.len .gz (.t 7)),rg 9 5 false (.bin .geq (.t 6) (.t 8)),
 wq 10 5 9] (wt 10 (rq [ri 2 (.ji (.c (.str ⟨#[]⟩)))] br) bz)) (rq [ri 11 (.call D6 []),rm 12 0,
 wi 13 1 11 12,rl 14 1 false 13,rm 2 14] br))
def Oi:dn:=
 rq [wc 2 0] (rq [ri 3 (.yy false 14 1 [.int ab 0] [(0,1,ci 6),(1,1,ci 2),(2,1,ci 4),(3,1,ci 4),(4,1,ci 0),(5,1,ci 0),(6,1,ci 0),(7,1,ci 4),(8,1,ci 3),(9,1,ci 1),(10,1,ci 2),(11,1,ci 6),(12,1,ci 6),(13,1,ci 4)]),
 rm 4 0,wi 5 1 3 4,rl 6 1 false 5,rm 2 6] br)
def Oh:dn:=
 rq [wc 2 0] (rq [ri 3 (.yy false 14 1 [.int ab 0] [(0,1,ci 0),(1,1,ci 0),(2,1,ci 0),(3,1,ci 0),(4,1,ci 2),(5,1,ci 2),(6,1,ci 2),(7,1,ci 1),(8,1,ci 1),(9,1,ci 1),(10,1,ci 1),(11,1,ci 1),(12,1,ci 1),(13,1,ci 1)]),
 rm 4 0,wi 5 1 3 4,rl 6 1 false 5,rm 2 6] br)
def Qd(Bn Dz zn Fc:Nat):dn:=
 rq [wx 1 3 0,wf 2 false] (ar (ar (cb [rf 4 0 1,rl 5 1 false 4,ri 6 (.call Bn [.t 5]),
 ri 7 (.bin .eql (.t 6) (.c (.str ⟨#[]⟩))),rm 8 7,rg 9 8 false (.D4 1 (.t 1)),wl 10 8 false 1 false 9,rg 11 8 false (.len .gz (.t 10)),
 rg 12 8 false (.D4 0 (.t 1)),wl 13 8 false 1 false 12,rg 14 8 false (.call Dz [.t 13]),rg 15 8 false (.bin .neq (.t 11) (.t 14)),
 wq 16 8 15] true []) (wt 16 (rq [wf 2 false] br) bz)) (ar (rq [wc 3 0] (dd 0 (ix (ar (rq [rm 17 3,
 rf 18 1 1,rl 19 1 false 18,wn 20 19,wb 21 .lss 17 20] (wt 21 bz (iq 0))) (ar (dd 1 (rq [rf 24 1 1,
 rl 25 1 false 24,rm 26 3,wi 27 3 25 26,rl 28 3 true 27,ri 29 (.call zn [.t 28]),
 ri 30 (.un .not (.t 29))] (wt 30 (rq [wf 2 false] br) bz))) (cb [rm 22 3,wd 23 .add 22 1,
 rm 3 23] false [])))))) (ar (rq [rf 31 0 1,rl 32 1 false 31,wd 33 .eql 32 1,rm 34 33,rg 35 34 false (.D4 0 (.t 1)),
 wl 36 34 false 1 false 35,rg 37 34 false (.bin .eql (.t 36) (ci 2)),wq 38 34 37,rm 39 38,rg 40 39 false (.D4 0 (.t 1)),
 wl 41 39 false 1 false 40,rg 42 39 false (.bin .eql (.t 41) (ci 3)),wq 43 39 42] (wt 43 (rq [rf 44 2 1,
 rl 45 1 false 44,ri 46 (.call Fc [.t 45]),rm 2 46] br) bz)) (rq [rf 47 2 1,rl 48 1 false 47,wn 49 48,
 wd 50 .eql 49 0,rm 2 50] br))))
def N1(xz pv:Nat):dn:=
 rq [wx 2 3 0,wo 4,wc 5 0] (ar (dd 0 (rq [rl 13 3 true 2,ri 14 (.call xz [.t 13]),ri 15 (.un .not (.t 14)),
 rm 12 15] (wt 12 (rq [wo 4,wc 5 220] br) (rq [rm 17 1,ri 18 (.call pv [.t 17]),ri 19 (.un .not (.t 18)),
 rm 16 19] (wt 16 (rq [wo 4,
 wc 5 1] br) bz))))) (rq [wo 6] (ar (rq [wc 7 0] (dd 1 (ix (ar (rq [rm 20 7,rf 21 1 2,rl 22 1 false 21,
 wn 23 22,wb 24 .lss 20 23] (wt 24 bz (iq 1))) (ar (dd 2 (rq [rf 27 1 2,rl 28 1 false 27,rm 29 7,
 wi 30 3 28 29,rl 31 3 true 30,ri 8 (.alloc [.str ⟨#[]⟩,.int ab 0,.int ab 0]),ws 3 8 31] (ar (cb [rf 32 2 8,
 rl 33 1 false 32,rf 34 0 8,rl 35 1 false 34,ri 36 (.bin .eql (.t 35) (.c (.str ⟨#[]⟩))),rm 9 33,
 rm 10 36] true []) (ar (rq [wc 11 0] (dd 3 (ix (ar (rq [rm 37 11,rm 38 1,wn 39 38,
 wb 40 .lss 37 39] (wt 40 bz (iq 3))) (ar (dd 4 (ar (cb [rm 43 1,rm 44 11,wi 45 2 43 44,rf 46 0 45,
 rl 47 1 false 46,rf 48 0 8,rl 49 1 false 48,wb 50 .eql 47 49] true []) (wt 50 (cb [rf 51 1 8,rl 52 1 false 51,rm 53 1,rm 54 11,
 wi 55 2 53 54,rf 56 1 55,rl 57 1 false 56,wb 58 .mul 52 57,rf 59 2 8,rl 60 1 false 59,wb 61 .add 58 60,rm 9 61,
 wf 10 true] true []) bz))) (cb [rm 41 11,wd 42 .add 41 1,rm 11 42] false [])))))) (ar (rq [rm 62 10,
 ri 63 (.un .not (.t 62))] (wt 63 (rq [wo 4,wc 5 4] br) bz)) (cb [rm 64 6,rm 65 9,
 ri 66 (.yy false 1 1 [.int ab 0] [(0,1,.t 65)]),ri 67 (.app 1 8 (.t 64) (.t 66)),rm 6 67] false [])))))) (cb [rm 25 7,wd 26 .add 25 1,
 rm 7 26] false [])))))) (rq [rm 68 6,rm 4 68,wc 5 0] br))))
def Qb:dn:=
 rq [wx 2 2 0,wc 4 0] (ar (rq [wc 5 0] (dd 0 (ix (ar (rq [rm 6 5,rf 7 1 2,rl 8 1 false 7,wn 9 8,
 wb 10 .lss 6 9] (wt 10 bz (iq 0))) (ar (dd 1 (rq [rf 13 1 2,rl 14 1 false 13,rm 15 5,wi 16 5 14 15,rf 17 0 16,
 rl 18 1 false 17,rm 19 1,wb 20 .eql 18 19] (wt 20 (rq [rm 21 5,rm 4 21] br) bz))) (cb [rm 11 5,wd 12 .add 11 1,
 rm 5 12] false [])))))) (rq [wc 4 (-1)] br))
def U0:dn:=
 rq [wf 4 false] (ar (rq [wc 5 0] (dd 0 (ix (ar (rq [rm 6 5,rm 7 0,wn 8 7,
 wb 9 .lss 6 8] (wt 9 bz (iq 0))) (ar (dd 1 (rq [rm 12 0,rm 13 5,wi 14 1 12 13,rl 15 1 false 14,rm 16 1,
 wb 17 .eql 15 16] (wt 17 (rq [wf 4 true] br) bz))) (cb [rm 10 5,wd 11 .add 10 1,
 rm 5 11] false [])))))) (rq [wf 4 false] br))
def Q8(Bi:Nat):dn:=
 rq [wx 2 5 0,wf 4 false] (ar (rq [wc 5 0] (dd 0 (ix (ar (rq [rm 6 5,rf 7 4 2,rl 8 1 false 7,
 wn 9 8,wb 10 .lss 6 9] (wt 10 bz (iq 0))) (ar (dd 1 (rq [rm 13 1,rf 14 4 2,rl 15 1 false 14,rm 16 5,
 wi 17 1 15 16,rl 18 1 false 17,ri 19 (.call Bi [.t 13,.t 18]),
 ri 20 (.un .not (.t 19))] (wt 20 (rq [wf 4 false] br) bz))) (cb [rm 11 5,wd 12 .add 11 1,
 rm 5 12] false [])))))) (rq [wf 4 true] br))
def Qa(Bi F7:Nat):dn:=
 rq [wx 1 2 0,
 wo 2] (rq [wo 3] (dd 0 (ix (dd 1 (rq [ri 4 (.ji (.c (.str ⟨#[]⟩)))] (ar (rq [wc 5 0] (dd 2 (ix (ar (rq [rm 7 5,
 rf 8 1 1,rl 9 1 false 8,wn 10 9,wb 11 .lss 7 10] (wt 11 bz (iq 2))) (ar (dd 3 (rq [rf 14 1 1,rl 15 1 false 14,
 rm 16 5,wi 17 5 15 16,rl 18 5 true 17,ri 6 (.alloc [.str ⟨#[]⟩,.int ab 0,.ck,.ck,.ck]),ws 5 6 18] (rq [rm 19 3,rf 20 0 6,
 rl 21 1 false 20,ri 22 (.call Bi [.t 19,.t 21]),ri 23 (.un .not (.t 22)),rm 24 23,wl 25 24 true 5 true 6,wm 26 24 true 3,
 rg 27 24 true (.call F7 [.t 25,.t 26]),wp 28 24 27,rm 29 28,wm 30 29 true 4,
 rg 31 29 true (.bin .eql (.t 30) (.c (.str ⟨#[]⟩))),wm 32 29 true 31,rg 33 32 false (.D4 0 (.t 6)),wl 34 32 false 1 false 33,
 wm 35 32 false 4,rg 36 32 false (.bin .lss (.t 34) (.t 35)),rg 37 29 true (.pick (.t 32) (.c (.bool true)) (.t 36)),
 wp 38 29 37] (wt 38 (cb [rf 39 0 6,rl 40 1 false 39,rm 4 40] false []) bz)))) (cb [rm 12 5,
 wd 13 .add 12 1,rm 5 13] false [])))))) (ar (rq [rm 41 4,ri 42 (.bin .eql (.t 41) (.c (.str ⟨#[]⟩)))] (wt 42 (rq [rm 43 3,
 rm 2 43] br) bz)) (cb [rm 44 3,rm 45 4,ri 46 (.yy false 1 1 [.str ⟨#[]⟩] [(0,1,.t 45)]),ri 47 (.app 1 16 (.t 44) (.t 46)),rm 3 47] false []))))))))
def Q9(pv tg xz Dy F9 Am D5:Nat):dn:=
 rq [wx 1 2 0,wf 2 false] (ar (rq [rf 8 0 1,rl 9 1 false 8,ri 10 (.call pv [.t 9]),ri 11 (.un .not (.t 10)),rm 12 11,
 rg 13 12 false (.D4 1 (.t 1)),wl 14 12 false 1 false 13,rg 15 12 false (.len .gz (.t 14)),rg 16 12 false (.bin .gtr (.t 15) (ci 20)),
 wq 17 12 16] (wt 17 (rq [wf 2 false] br) bz)) (ar (rq [wc 3 0] (dd 0 (ix (ar (rq [rm 18 3,
 rf 19 1 1,rl 20 1 false 19,wn 21 20,wb 22 .lss 18 21] (wt 22 bz (iq 0))) (ar (dd 1 (rq [rf 25 1 1,
 rl 26 1 false 25,rm 27 3,wi 28 5 26 27,rl 29 5 true 28,ri 4 (.alloc [.str ⟨#[]⟩,.int ab 0,.ck,.ck,.ck]),
 ws 5 4 29] (ar (ar (cb [rf 30 0 4,rl 31 1 false 30,ri 32 (.call tg [.t 31]),ri 33 (.un .not (.t 32)),rm 34 33,
 wm 35 34 false 3,rg 36 34 false (.bin .gtr (.t 35) (ci 0)),wm 37 34 false 36,rg 38 37 true (.D4 1 (.t 1)),wl 39 37 true 1 false 38,
 wm 40 37 true 3,rg 41 37 true (.bin .sub (.t 40) (ci 1)),rg 42 37 true (.xm 5 (.t 39) (.t 41)),rg 43 37 true (.D4 0 (.t 42)),
 wl 44 37 true 1 false 43,rg 45 37 true (.D4 0 (.t 4)),wl 46 37 true 1 false 45,rg 47 37 true (.bin .geq (.t 44) (.t 46)),
 rg 48 34 false (.pick (.t 37) (.t 47) (.c (.bool false))),wq 49 34 48,rm 50 49,rg 51 50 false (.D4 1 (.t 4)),
 wl 52 50 false 3 true 51,rg 53 50 false (.call xz [.t 52]),rg 54 50 false (.un .not (.t 53)),wq 55 50 54,
 rm 56 55,rg 57 56 false (.D4 4 (.t 4)),wl 58 56 false 1 false 57,rg 59 56 false (.len .gz (.t 58)),rg 60 56 false (.D4 1 (.t 4)),
 rg 61 56 false (.D4 0 (.t 60)),wl 62 56 false 1 false 61,rg 63 56 false (.call Dy [.t 62]),rg 64 56 false (.bin .neq (.t 59) (.t 63)),
 wq 65 56 64] true []) (wt 65 (rq [wf 2 false] br) bz)) (ar (rq [wc 5 0] (dd 2 (ix (ar (rq [rm 66 5,
 rf 67 4 4,rl 68 1 false 67,wn 69 68,wb 70 .lss 66 69] (wt 70 bz (iq 2))) (ar (dd 3 (ar (cb [rl 73 2 true 1,
 rf 74 4 4,rl 75 1 false 74,rm 76 5,wi 77 1 75 76,rl 78 1 false 77,ri 79 (.call F9 [.t 73,.t 78]),
 wd 80 .lss 79 0] true []) (wt 80 (rq [wf 2 false] br) bz))) (cb [rm 71 5,wd 72 .add 71 1,
 rm 5 72] false [])))))) (rq [rf 82 1 4,rl 83 3 true 82,rf 84 0 1,rl 85 1 false 84,ri 86 (.call Am [.t 83,.t 85]),rm 81 86,rx 87 81 0,rx 88 81 1,rm 6 87,
 rm 7 88] (rq [rm 89 7,wd 90 .neq 89 0] (wt 90 (rq [wf 2 false] br) bz))))))) (cb [rm 23 3,
 wd 24 .add 23 1,rm 3 24] false [])))))) (ar (cb [rl 91 2 true 1,ri 92 (.call D5 [.t 91]),wn 93 92,rf 94 1 1,
 rl 95 1 false 94,wn 96 95,wb 97 .eql 93 96,rm 2 97] true []) br)))
def Qo:dn:=
 rq [wx 1 1 0,wo 2] (rq [wo 3] (ar (rq [wc 4 0] (dd 0 (ix (ar (rq [rm 7 4,rf 8 0 1,rl 9 1 false 8,
 wn 10 9,
 wb 11 .lss 7 10] (wt 11 bz (iq 0))) (ar (dd 1 (rq [wo 5] (ar (rq [wc 6 0] (dd 2 (ix (ar (rq [rm 14 6,
 rf 15 0 1,rl 16 1 false 15,rm 17 4,wi 18 1 16 17,rl 19 1 false 18,wn 20 19,
 wb 21 .lss 14 20] (wt 21 bz (iq 2))) (ar (dd 3 (cb [rm 24 5,rf 25 0 1,rl 26 1 false 25,rm 27 4,
 wi 28 1 26 27,rl 29 1 false 28,rm 30 6,wi 31 2 29 30,rl 32 2 true 31,
 ri 33 (.yy false 1 2 [.int ab 0,.int ab 0] [(0,2,.t 32)]),ri 34 (.app 2 16 (.t 24) (.t 33)),rm 5 34] false [])) (cb [rm 22 6,
 wd 23 .add 22 1,rm 6 23] false [])))))) (cb [rm 35 3,rm 36 5,ri 37 (.yy false 1 1 [.ck] [(0,1,.t 36)]),ri 38 (.app 1 24 (.t 35) (.t 37)),
 rm 3 38] false [])))) (cb [rm 12 4,wd 13 .add 12 1,rm 4 13] false [])))))) (rq [rm 39 3,rm 2 39] br)))
def Qp:dn:=
 rq [wx 1 1 0,wf 2 false] (rq [rf 5 0 1,rl 6 1 false 5,wn 7 6,
 rm 3 7] (ar (rq [wc 4 0] (dd 0 (ix (ar (rq [rm 8 4,rf 9 0 1,rl 10 1 false 9,wn 11 10,
 wb 12 .lss 8 11] (wt 12 bz (iq 0))) (ar (dd 1 (cb [rm 15 3,rf 16 0 1,rl 17 1 false 16,rm 18 4,wi 19 1 17 18,
 rl 20 1 false 19,wn 21 20,wb 22 .add 15 21,rm 3 22] false [])) (cb [rm 13 4,wd 14 .add 13 1,
 rm 4 14] false [])))))) (rq [rm 23 3,wd 24 .leq 23 100,rm 2 24] br)))
def Qm(Db:Nat):dn:=
 rq [wx 1 3 0,ri 2 (.alloc [.int ab 0,.ck,.ck])] (ar (cb [rf 7 0 1,rl 8 1 false 7,rf 9 2 1,rl 10 1 true 9,ri 11 (.call Db [.t 10]),
 ri 12 (.build [.int ab 0,.ck,.ck] [(0,1,.t 8),(2,1,.t 11)]),ri 3 (.A9 3),
 rn (.init 3 3 (.t 12))] true []) (ar (rq [wc 4 0] (dd 0 (ix (ar (rq [rm 13 4,rf 14 1 1,rl 15 1 false 14,wn 16 15,
 wb 17 .lss 13 16] (wt 17 bz (iq 0))) (ar (dd 1 (rq [rf 20 1 1,rl 21 1 false 20,rm 22 4,wi 23 3 21 22,
 rl 24 3 true 23,ri 5 (.alloc [.str ⟨#[]⟩,.int ab 0,.int ab 0]),ws 3 5 24] (rq [rf 25 1 3,rl 26 1 false 25,rm 6 26] (cb [rm 27 6,
 rf 28 0 5,rl 29 1 false 28,rf 30 1 5,rl 31 1 false 30,rf 32 2 5,rl 33 1 false 32,
 ri 34 (.build [.str ⟨#[]⟩,.int ab 0,.int ab 0] [(0,1,.t 29),(1,1,.t 31),(2,1,.t 33)]),
 ri 35 (.yy false 1 3 [.str ⟨#[]⟩,.int ab 0,.int ab 0] [(0,3,.t 34)]),ri 36 (.app 3 32 (.t 27) (.t 35)),rf 37 1 3,
 ws 1 37 36] false [])))) (cb [rm 18 4,wd 19 .add 18 1,rm 4 19] false [])))))) (rq [rl 38 3 true 3,
 ws 3 2 38] br)))
def On:dn:=
 rq [wo 2] (rq [wo 3] (ar (rq [wc 4 0] (dd 0 (ix (ar (rq [rm 5 4,rm 6 0,wn 7 6,
 wb 8 .lss 5 7] (wt 8 bz (iq 0))) (ar (dd 1 (cb [rm 11 3,rm 12 0,rm 13 4,wi 14 2 12 13,rf 15 0 14,
 rl 16 1 false 15,rm 17 0,rm 18 4,wi 19 2 17 18,rf 20 1 19,rl 21 1 false 20,ri 22 (.build [.str ⟨#[]⟩,.int ab 0] [(0,1,.t 16),(1,1,.t 21)]),
 ri 23 (.yy false 1 2 [.str ⟨#[]⟩,.int ab 0] [(0,2,.t 22)]),ri 24 (.app 2 24 (.t 11) (.t 23)),rm 3 24] true [])) (cb [rm 9 4,
 wd 10 .add 9 1,rm 4 10] false [])))))) (rq [rm 25 3,rm 2 25] br)))
def O0:dn:=
 rq [wf 4 false] (ar (rq [rm 6 0,wn 7 6,rm 8 1,wn 9 8,
 wb 10 .neq 7 9] (wt 10 (rq [wf 4 false] br) bz)) (ar (rq [wc 5 0] (dd 0 (ix (ar (rq [rm 11 5,
 rm 12 0,wn 13 12,wb 14 .lss 11 13] (wt 14 bz (iq 0))) (ar (dd 1 (ar (cb [rm 17 0,rm 18 5,
 wi 19 1 17 18,rl 20 1 false 19,rm 21 1,rm 22 5,wi 23 1 21 22,rl 24 1 false 23,
 wb 25 .neq 20 24] true []) (wt 25 (rq [wf 4 false] br) bz))) (cb [rm 15 5,wd 16 .add 15 1,
 rm 5 16] false [])))))) (rq [wf 4 true] br)))
def Qn(Fg:Nat):dn:=
 rq [wx 2 3 0,wf 4 false] (ar (rq [wc 5 0] (dd 0 (ix (ar (rq [rm 7 5,rm 8 1,wn 9 8,
 wb 10 .lss 7 9,rm 11 10,wm 12 11 true 5,rg 13 11 true (.bin .lss (.t 12) (ci 40)),
 wp 14 11 13] (wt 14 bz (iq 0))) (ar (dd 1 (rq [rm 17 1,rm 18 5,wi 19 2 17 18,rf 20 0 19,
 rl 21 1 false 20,ri 22 (.len .str (.t 21)),wd 23 .gtr 22 100] (wt 23 (rq [wf 4 false] br) bz))) (cb [rm 15 5,
 wd 16 .add 15 1,rm 5 16] false [])))))) (ar (rq [wc 6 0] (dd 2 (ix (ar (rq [rm 24 6,rf 25 1 2,rl 26 1 false 25,
 wn 27 26,wb 28 .lss 24 27,rm 29 28,wm 30 29 true 6,rg 31 29 true (.bin .lss (.t 30) (ci 40)),
 wp 32 29 31] (wt 32 bz (iq 2))) (ar (dd 3 (rq [rf 35 1 2,rl 36 1 false 35,rm 37 6,
 wi 38 3 36 37,rf 39 0 38,rl 40 1 false 39,ri 41 (.len .str (.t 40)),
 wd 42 .gtr 41 100] (wt 42 (rq [wf 4 false] br) bz))) (cb [rm 33 6,wd 34 .add 33 1,
 rm 6 34] false [])))))) (rq [rm 43 1,wn 44 43,wd 45 .leq 44 40,rm 46 45,rg 47 46 true (.D4 1 (.t 2)),
 wl 48 46 true 1 false 47,rg 49 46 true (.len .gz (.t 48)),rg 50 46 true (.bin .leq (.t 49) (ci 40)),wp 51 46 50,
 rm 52 51,rg 53 52 true (.D4 2 (.t 2)),wl 54 52 true 1 true 53,rg 55 52 true (.call Fg [.t 54]),
 wp 56 52 55,rm 4 56] br)))
def Ql(C0 Gv:Nat):dn:=
 rq [wx 1 2 0,ri 2 (.alloc [.ck,.ck])] (rq [rf 6 0 1,rl 7 1 false 6,ri 8 (.call C0 [.t 7]),ri 9 (.build [.ck,.ck] [(0,1,.t 8)]),
 ri 3 (.alloc [.ck,.ck]),ws 2 3 9] (ar (rq [wc 4 0] (dd 0 (ix (ar (rq [rm 10 4,rf 11 1 1,rl 12 1 false 11,
 wn 13 12,wb 14 .lss 10 13] (wt 14 bz (iq 0))) (ar (dd 1 (rq [rf 17 1 3,rl 18 1 false 17,
 rm 5 18] (cb [rm 19 5,rf 20 1 1,rl 21 1 false 20,rm 22 4,wi 23 5 21 22,rl 24 5 true 23,ri 25 (.call Gv [.t 24]),
 ri 26 (.yy false 1 5 [.str ⟨#[]⟩,.int ab 0,.ck,.ck,.ck] [(0,5,.t 25)]),ri 27 (.app 5 96 (.t 19) (.t 26)),rf 28 1 3,
 ws 1 28 27] false []))) (cb [rm 15 4,wd 16 .add 15 1,rm 4 16] false [])))))) (rq [rl 29 2 true 3,
 ws 2 2 29] br)))
def Sc(Da:Nat):dn:=
 rq [wx 1 5 0,ri 2 (.alloc [.str ⟨#[]⟩,.int ab 0,.ck,.ck,.ck])] (ar (cb [rf 3 0 1,rl 4 1 false 3,rf 5 1 1,rl 6 3 true 5,
 ri 7 (.call Da [.t 6]),rf 8 4 1,rl 9 1 false 8,ri 10 (.build [.str ⟨#[]⟩,.int ab 0,.ck,.ck,.ck] [(0,1,.t 4),(1,3,.t 7),(4,1,.t 9)]),
 ws 5 2 10] true []) br)
def Lt(Ff:Nat):dn:=
 rq [wx 1 2 0,wf 2 false] (ar (rq [rf 6 1 1,rl 7 1 false 6,wn 8 7,
 wd 9 .gtr 8 25] (wt 9 (rq [wf 2 false] br) bz)) (ar (rq [wc 3 0] (dd 0 (ix (ar (rq [rm 10 3,
 rf 11 1 1,rl 12 1 false 11,wn 13 12,wb 14 .lss 10 13] (wt 14 bz (iq 0))) (ar (dd 1 (rq [rf 17 1 1,
 rl 18 1 false 17,rm 19 3,wi 20 5 18 19,rl 21 5 true 20,ri 4 (.alloc [.str ⟨#[]⟩,.int ab 0,.ck,.ck,.ck]),
 ws 5 4 21] (ar (rq [rf 22 1 4,rl 23 3 true 22,rf 24 0 1,rl 25 1 false 24,ri 26 (.call Ff [.t 23,.t 25]),ri 27 (.un .not (.t 26)),
 rm 28 27,rg 29 28 false (.D4 0 (.t 4)),wl 30 28 false 1 false 29,rg 31 28 false (.len .str (.t 30)),rg 32 28 false (.bin .gtr (.t 31) (ci 100)),
 wq 33 28 32,rm 34 33,rg 35 34 false (.D4 4 (.t 4)),wl 36 34 false 1 false 35,rg 37 34 false (.len .gz (.t 36)),
 rg 38 34 false (.bin .gtr (.t 37) (ci 10)),
 wq 39 34 38] (wt 39 (rq [wf 2 false] br) bz)) (rq [wc 5 0] (dd 2 (ix (ar (rq [rm 40 5,
 rf 41 4 4,rl 42 1 false 41,wn 43 42,wb 44 .lss 40 43] (wt 44 bz (iq 2))) (ar (dd 3 (rq [rf 47 4 4,
 rl 48 1 false 47,rm 49 5,wi 50 1 48 49,rl 51 1 false 50,ri 52 (.len .str (.t 51)),
 wd 53 .gtr 52 100] (wt 53 (rq [wf 2 false] br) bz))) (cb [rm 45 5,wd 46 .add 45 1,
 rm 5 46] false []))))))))) (cb [rm 15 3,wd 16 .add 15 1,rm 3 16] false [])))))) (rq [wf 2 true] br)))
def Sb:dn:=
 rq [ri 0 (.alloc [.ck,.ck])] (rq [ri 2 (.build [.str ⟨#[]⟩,.int ab 0,.int ab 0] []),ri 3 (.build [.str ⟨#[]⟩,.int ab 0,.int ab 0] []),
 ri 4 (.build [.str ⟨#[]⟩,.int ab 0,.int ab 0] []),ri 5 (.build [.str ⟨#[]⟩,.int ab 0,.int ab 0] [(0,1,.c (.str ⟨#[119]⟩)),(1,1,ci 1)]),
 ri 6 (.build [.str ⟨#[]⟩,.int ab 0,.int ab 0] [(2,1,ci 1)]),ri 7 (.build [.str ⟨#[]⟩,.int ab 0,.int ab 0] [(2,1,ci 1)]),
 ri 8 (.yy false 6 3 [.str ⟨#[]⟩,.int ab 0,.int ab 0] [(0,3,.t 2),(3,3,.t 3),(6,3,.t 4),(9,3,.t 5),(12,3,.t 6),(15,3,.t 7)]),
 rm 1 8] (rq [ri 9 (.build [.str ⟨#[]⟩,.int ab 0] [(0,1,.c (.str ⟨#[119]⟩)),(1,1,ci 2)]),ri 10 (.yy false 1 2 [.str ⟨#[]⟩,.int ab 0] [(0,2,.t 9)]),
 rm 11 1,ri 12 (.build [.int ab 0,.ck,.ck] [(0,1,ci 0),(1,1,.t 11)]),
 ri 13 (.build [.str ⟨#[]⟩,.int ab 0,.ck,.ck,.ck] [(0,1,.c (.str ⟨#[97]⟩)),(1,3,.t 12)]),ri 14 (.build [.str ⟨#[]⟩,.int ab 0,.int ab 0] []),
 ri 15 (.build [.str ⟨#[]⟩,.int ab 0,.int ab 0] []),ri 16 (.build [.str ⟨#[]⟩,.int ab 0,.int ab 0] []),
 ri 17 (.build [.str ⟨#[]⟩,.int ab 0,.int ab 0] [(2,1,ci 1)]),ri 18 (.build [.str ⟨#[]⟩,.int ab 0,.int ab 0] [(2,1,ci 1)]),
 ri 19 (.build [.str ⟨#[]⟩,.int ab 0,.int ab 0] [(2,1,ci 2)]),
 ri 20 (.yy false 6 3 [.str ⟨#[]⟩,.int ab 0,.int ab 0] [(0,3,.t 14),(3,3,.t 15),(6,3,.t 16),(9,3,.t 17),(12,3,.t 18),(15,3,.t 19)]),
 ri 21 (.build [.int ab 0,.ck,.ck] [(0,1,ci 0),(1,1,.t 20)]),
 ri 22 (.build [.str ⟨#[]⟩,.int ab 0,.ck,.ck,.ck] [(0,1,.c (.str ⟨#[98]⟩)),(1,3,.t 21)]),ri 23 (.build [.int ab 0,.ck,.ck] [(0,1,ci 4)]),
 ri 24 (.yy false 2 1 [.str ⟨#[]⟩] [(0,1,.c (.str ⟨#[98]⟩)),(1,1,.c (.str ⟨#[97]⟩))]),
 ri 25 (.build [.str ⟨#[]⟩,.int ab 0,.ck,.ck,.ck] [(0,1,.c (.str ⟨#[99]⟩)),(1,3,.t 23),(4,1,.t 24)]),
 ri 26 (.yy false 3 5 [.str ⟨#[]⟩,.int ab 0,.ck,.ck,.ck] [(0,5,.t 13),(5,5,.t 22),(10,5,.t 25)]),
 ri 27 (.build [.ck,.ck] [(0,1,.t 10),(1,1,.t 26)]),ws 2 0 27] br))
def Gp:dn:=
 rq [wf 2 false] (rq [rm 3 0,wd 4 .geq 3 (-1000000),rm 5 4,wm 6 5 true 0,rg 7 5 true (.bin .leq (.t 6) (ci 1000000)),
 wp 8 5 7,rm 2 8] br)
def Du:dn:=
 rq [wf 2 false] (ar (rq [rm 5 0,ri 6 (.len .str (.t 5)),wd 7 .lss 6 1,rm 8 7,wm 9 8 false 0,
 rg 10 8 false (.len .str (.t 9)),rg 11 8 false (.bin .gtr (.t 10) (ci 20)),
 wq 12 8 11] (wt 12 (rq [wf 2 false] br) bz)) (ar (rq [rm 13 0,ri 14 (.len .str (.t 13)),
 wc 15 0] (dd 0 (ix (rq [wb 16 .lss 15 14] (ar (wt 16 bz (iq 0)) (ar (dd 1 (rq [rm 17 15,rm 3 17] (rq [rm 18 0,
 rm 19 3,ri 20 (.a0d (.t 18) (.t 19)),rm 4 20] (rq [rm 21 4,ri 22 (.bin .lss (.t 21) (.c (.int .u8 97))),rm 23 22,wm 24 23 false 4,
 rg 25 23 false (.bin .gtr (.t 24) (.c (.int .u8 122))),wq 26 23 25,rm 27 26,wm 28 27 true 3,
 rg 29 27 true (.bin .eql (.t 28) (ci 0)),wm 30 27 true 29,wm 31 30 false 4,rg 32 30 false (.bin .lss (.t 31) (.c (.int .u8 48))),
 rg 33 27 true (.pick (.t 30) (.c (.bool true)) (.t 32)),wm 34 27 true 33,wm 35 34 false 4,rg 36 34 false (.bin .gtr (.t 35) (.c (.int .u8 57))),
 rg 37 27 true (.pick (.t 34) (.c (.bool true)) (.t 36)),
 wp 38 27 37] (wt 38 (rq [wf 2 false] br) bz))))) (cb [wd 39 .add 15 1,
 rm 15 39] false []))))))) (rq [wf 2 true] br)))
def C8(jx rj:Nat):dn:=
 rq [wc 2 0] (ar (rq [rm 5 0,wn 6 5,
 wd 7 .gtr 6 20] (wt 7 (rq [wc 2 1] br) bz)) (ar (rq [rm 8 0,wn 9 8,
 wc 10 0] (dd 0 (ix (rq [wb 11 .lss 10 9] (ar (wt 11 bz (iq 0)) (ar (dd 1 (rq [rm 12 10,
 wi 13 2 8 10,rl 14 2 true 13,ri 4 (.alloc [.str ⟨#[]⟩,.int ab 0]),rm 3 12,ws 2 4 14] (ar (cb [rf 15 0 4,
 rl 16 1 false 15,ri 17 (.call jx [.t 16]),ri 18 (.un .not (.t 17)),rm 19 18,rg 20 19 false (.D4 1 (.t 4)),wl 21 19 false 1 false 20,
 rg 22 19 false (.call rj [.t 21]),rg 23 19 false (.un .not (.t 22)),wq 24 19 23,rm 25 24,wm 26 25 false 3,
 rg 27 25 false (.bin .gtr (.t 26) (ci 0)),wm 28 25 false 27,wm 29 28 true 0,wm 30 28 true 3,rg 31 28 true (.bin .sub (.t 30) (ci 1)),
 rg 32 28 true (.xm 2 (.t 29) (.t 31)),rg 33 28 true (.D4 0 (.t 32)),wl 34 28 true 1 false 33,rg 35 28 true (.D4 0 (.t 4)),
 wl 36 28 true 1 false 35,rg 37 28 true (.bin .geq (.t 34) (.t 36)),rg 38 25 false (.pick (.t 28) (.t 37) (.c (.bool false))),
 wq 39 25 38] true []) (wt 39 (rq [wc 2 1] br) bz)))) (cb [wd 40 .add 10 1,
 rm 10 40] false []))))))) (rq [wc 2 0] br)))
def Nc(Ch o8:Nat):dn:=
 rq [wx 2 3 0,wc 4 0] (ar (rq [rl 6 3 true 2,ri 7 (.call Ch [.t 6]),rm 5 7] (rq [rm 8 5,
 wd 9 .neq 8 0] (wt 9 (rq [rm 10 5,rm 4 10] br) bz))) (rq [rm 11 1,ri 12 (.call o8 [.t 11]),rm 4 12] br))
def Ju(Cg Ae:Nat):dn:=
 rq [wx 2 3 0,wo 4,wc 5 0] (ar (rq [rl 7 3 true 2,rm 8 1,ri 9 (.call Cg [.t 7,.t 8]),rm 6 9] (rq [rm 10 6,
 wd 11 .neq 10 0] (wt 11 (rq [rm 12 6,wo 4,rm 5 12] br) bz))) (rq [rl 13 3 true 2,rm 14 1,
 ri 15 (.call Ae [.t 13,.t 14]),rx 16 15 0,rx 17 15 1,rm 4 16,rm 5 17] br))
def Jt:dn:=
 rq [wx 2 3 0,wo 4,wc 5 0] (rq [ri 14 (.Hq),rm 6 14] (ar (rq [rm 15 1,wn 16 15,
 wc 17 0] (dd 0 (ix (rq [wb 18 .lss 17 16] (ar (wt 18 bz (iq 0)) (ar (dd 1 (rq [wi 19 2 15 17,
 rl 20 2 true 19,ri 8 (.alloc [.str ⟨#[]⟩,.int ab 0]),ws 2 8 20] (cb [rm 21 6,rf 22 0 8,rl 23 1 false 22,rf 24 1 8,rl 25 1 false 24,
 rn (.X0 (.one .str) (.t 21) (.t 23) (.t 25))] false []))) (cb [wd 26 .add 17 1,
 rm 17 26] false []))))))) (rq [wo 9] (ar (rq [rf 27 1 2,rl 28 1 false 27,wn 29 28,
 wc 30 0] (dd 2 (ix (rq [wb 31 .lss 30 29] (ar (wt 31 bz (iq 2)) (ar (dd 3 (rq [wi 32 3 28 30,
 rl 33 3 true 32,ri 11 (.alloc [.str ⟨#[]⟩,.int ab 0,.int ab 0]),ws 3 11 33] (rq [rm 35 6,rf 36 0 11,rl 37 1 false 36,
 ri 38 (.lookup (.one .str) (.int ab 0) (.t 35) (.t 37) true),rm 34 38,rx 39 34 0,rx 40 34 1,rm 12 39,rm 13 40] (ar (rq [rf 41 0 11,rl 42 1 false 41,
 ri 43 (.bin .neq (.t 42) (.c (.str ⟨#[]⟩))),rm 44 43,wm 45 44 true 13,rg 46 44 true (.un .not (.t 45)),
 wp 47 44 46] (wt 47 (rq [wo 4,wc 5 4] br) bz)) (ar (rq [rf 48 0 11,rl 49 1 false 48,
 ri 50 (.bin .eql (.t 49) (.c (.str ⟨#[]⟩)))] (wt 50 (cb [wc 12 0] false []) bz)) (cb [rm 51 9,rf 52 1 11,rl 53 1 false 52,rm 54 12,
 wb 55 .mul 53 54,rf 56 2 11,rl 57 1 false 56,wb 58 .add 55 57,ri 59 (.yy false 1 1 [.int ab 0] [(0,1,.t 58)]),
 ri 60 (.app 1 8 (.t 51) (.t 59)),rm 9 60] false [])))))) (cb [wd 61 .add 30 1,rm 30 61] false []))))))) (rq [rm 62 9,rm 4 62,
 wc 5 0] br)))))
def Cm(lv:Nat):dn:=
 rq [wf 2 false] (rq [rm 3 0,wd 4 .geq 3 0,rm 5 4,wm 6 5 true 0,rg 7 5 true (.call lv []),
 rg 8 5 true (.ji (ci 14)),rg 9 5 true (.bin .lss (.t 6) (.t 8)),wp 10 5 9,rm 2 10] br)
def Nf(Cx Cw Cv Cu Ct Cs Cr Gg Cq Cp C3 C2 C1 Ea:Nat):dn:=
 rq [ri 0 (.alloc [.str ⟨#[]⟩,.int ab 0,.int ab 0,.xd,.str ⟨#[]⟩,.int ab 0,.int ab 0,.xd,.str ⟨#[]⟩,.int ab 0,.int ab 0,.xd,.str ⟨#[]⟩,.int ab 0,.int ab 0,.xd,.str ⟨#[]⟩,.int ab 0,.int ab 0,.xd,.str ⟨#[]⟩,.int ab 0,.int ab 0,.xd,.str ⟨#[]⟩,.int ab 0,.int ab 0,.xd,.str ⟨#[]⟩,.int ab 0,.int ab 0,.xd,.str ⟨#[]⟩,.int ab 0,.int ab 0,.xd,.str ⟨#[]⟩,.int ab 0,.int ab 0,.xd,.str ⟨#[]⟩,.int ab 0,.int ab 0,.xd,.str ⟨#[]⟩,.int ab 0,.int ab 0,.xd,.str ⟨#[]⟩,.int ab 0,.int ab 0,.xd,.str ⟨#[]⟩,.int ab 0,.int ab 0,.xd])] (rq [ri 1 (.build [.str ⟨#[]⟩,.int ab 0,.int ab 0,.xd] [(0,1,.c (.str ⟨#[98,111,120]⟩)),(1,1,ci 0),(2,1,ci 6),(3,1,.c (.oq Cx []))]),
 ri 2 (.build [.str ⟨#[]⟩,.int ab 0,.int ab 0,.xd] [(0,1,.c (.str ⟨#[112,114,105,115,109]⟩)),(1,1,ci 0),(2,1,ci 2),(3,1,.c (.oq Cw []))]),
 ri 3 (.build [.str ⟨#[]⟩,.int ab 0,.int ab 0,.xd] [(0,1,.c (.str ⟨#[115,108,97,110,116]⟩)),(1,1,ci 0),(2,1,ci 4),(3,1,.c (.oq Cv []))]),
 ri 4 (.build [.str ⟨#[]⟩,.int ab 0,.int ab 0,.xd] [(0,1,.c (.str ⟨#[112,121,114,97,109,105,100]⟩)),(1,1,ci 0),(2,1,ci 4),(3,1,.c (.oq Cu []))]),
 ri 5 (.build [.str ⟨#[]⟩,.int ab 0,.int ab 0,.xd] [(0,1,.c (.str ⟨#[117,110,105,111,110]⟩)),(1,1,ci 2),(2,1,ci 0),(3,1,.c (.oq Ct []))]),
 ri 6 (.build [.str ⟨#[]⟩,.int ab 0,.int ab 0,.xd] [(0,1,.c (.str ⟨#[105,110,116,101,114,115,101,99,116]⟩)),(1,1,ci 2),(2,1,ci 0),(3,1,.c (.oq Cs []))]),
 ri 7 (.build [.str ⟨#[]⟩,.int ab 0,.int ab 0,.xd] [(0,1,.c (.str ⟨#[115,117,98,116,114,97,99,116]⟩)),(1,1,ci 2),(2,1,ci 0),(3,1,.c (.oq Cr []))]),
 ri 8 (.build [.str ⟨#[]⟩,.int ab 0,.int ab 0,.xd] [(0,1,.c (.str ⟨#[99,108,105,112]⟩)),(1,1,ci 1),(2,1,ci 4),(3,1,.c (.oq Gg []))]),
 ri 9 (.build [.str ⟨#[]⟩,.int ab 0,.int ab 0,.xd] [(0,1,.c (.str ⟨#[115,104,105,102,116]⟩)),(1,1,ci 1),(2,1,ci 3),(3,1,.c (.oq Cq []))]),
 ri 10 (.build [.str ⟨#[]⟩,.int ab 0,.int ab 0,.xd] [(0,1,.c (.str ⟨#[115,121,109,109,101,116,114,121]⟩)),(1,1,ci 1),(2,1,ci 1),(3,1,.c (.oq Cp []))]),
 ri 11 (.build [.str ⟨#[]⟩,.int ab 0,.int ab 0,.xd] [(0,1,.c (.str ⟨#[115,99,97,108,101]⟩)),(1,1,ci 1),(2,1,ci 2),(3,1,.c (.oq C3 []))]),
 ri 12 (.build [.str ⟨#[]⟩,.int ab 0,.int ab 0,.xd] [(0,1,.c (.str ⟨#[115,117,109]⟩)),(1,1,ci 1),(2,1,ci 6),(3,1,.c (.oq C2 []))]),
 ri 13 (.build [.str ⟨#[]⟩,.int ab 0,.int ab 0,.xd] [(0,1,.c (.str ⟨#[99,111,114,101]⟩)),(1,1,ci 1),(2,1,ci 6),(3,1,.c (.oq C1 []))]),
 ri 14 (.build [.str ⟨#[]⟩,.int ab 0,.int ab 0,.xd] [(0,1,.c (.str ⟨#[114,101,112,101,97,116]⟩)),(1,1,ci 1),(2,1,ci 4),(3,1,.c (.oq Ea []))]),
 ri 15 (.build [.str ⟨#[]⟩,.int ab 0,.int ab 0,.xd,.str ⟨#[]⟩,.int ab 0,.int ab 0,.xd,.str ⟨#[]⟩,.int ab 0,.int ab 0,.xd,.str ⟨#[]⟩,.int ab 0,.int ab 0,.xd,.str ⟨#[]⟩,.int ab 0,.int ab 0,.xd,.str ⟨#[]⟩,.int ab 0,.int ab 0,.xd,.str ⟨#[]⟩,.int ab 0,.int ab 0,.xd,.str ⟨#[]⟩,.int ab 0,.int ab 0,.xd,.str ⟨#[]⟩,.int ab 0,.int ab 0,.xd,.str ⟨#[]⟩,.int ab 0,.int ab 0,.xd,.str ⟨#[]⟩,.int ab 0,.int ab 0,.xd,.str ⟨#[]⟩,.int ab 0,.int ab 0,.xd,.str ⟨#[]⟩,.int ab 0,.int ab 0,.xd,.str ⟨#[]⟩,.int ab 0,.int ab 0,.xd] [(0,4,.t 1),(4,4,.t 2),(8,4,.t 3),(12,4,.t 4),(16,4,.t 5),(20,4,.t 6),(24,4,.t 7),(28,4,.t 8),(32,4,.t 9),(36,4,.t 10),(40,4,.t 11),(44,4,.t 12),(48,4,.t 13),(52,4,.t 14)]),
 ws 56 0 15] br)
def Lf(lb lv:Nat):dn:=
 rq [wc 2 0,wc 3 0] (ar (rq [rm 4 0,ri 5 (.call lb [.t 4]),ri 6 (.un .not (.t 5))] (wt 6 (rq [wc 2 0,
 wc 3 1] br) bz)) (rq [ri 7 (.call lv []),rm 8 0,ri 9 (.a2t 14 4 true (.t 7) (.t 8)),ri 10 (.a0t 1 1 false (.t 9)),rm 2 10,
 wc 3 0] br))
def Ng(lb lv mq yh Cf:Nat):dn:=
 rq [wx 1 3 0,wc 2 0] (ar (ar (cb [rf 3 0 1,rl 4 1 false 3,ri 5 (.call lb [.t 4]),ri 6 (.un .not (.t 5)),rm 7 6,
 rg 8 7 false (.D4 1 (.t 1)),wl 9 7 false 1 false 8,rg 10 7 false (.len .gz (.t 9)),rg 11 7 false (.call lv []),rg 12 7 false (.D4 0 (.t 1)),
 wl 13 7 false 1 false 12,rg 14 7 false (.a2t 14 4 true (.t 11) (.t 13)),rg 15 7 false (.a0t 2 1 false (.t 14)),rg 16 7 false (.bin .neq (.t 10) (.t 15)),
 wq 17 7 16,rm 18 17,rg 19 18 false (.D4 1 (.t 1)),wl 20 18 false 1 false 19,
 rg 21 18 false (.call mq [.t 20,.c (.oq yh [])]),
 wq 22 18 21] true []) (wt 22 (rq [wc 2 220] br) bz)) (ar (rq [rf 23 0 1,
 rl 24 1 false 23] (dd 0 (ar (rq [wd 31 .eql 24 1,rm 30 31] (wt 30 bz (rq [wd 32 .eql 24 2,
 rm 30 32] (wt 30 bz (cb [wd 33 .eql 24 3,rm 30 33] false []))))) (wt 30 (rq [rf 34 2 1,rl 35 1 true 34,
 ri 36 (.call Cf [.t 35]),wd 37 .neq 36 0] (wt 37 (rq [wc 2 220] br) bz)) (rq [rf 25 2 1,rf 26 0 25,
 rl 27 1 false 26,wn 28 27,
 wd 29 .gtr 28 0] (wt 29 (rq [wc 2 220] br) bz)))))) (rq [wc 2 0] br)))
def Jv(w8:Nat):dn:=
 rq [wx 1 3 0,wf 2 false] (rq [rl 3 3 true 1,ri 4 (.call w8 [.t 3]),ri 5 (.un .not (.t 4)),rm 2 5] br)
def Fo(rj jx:Nat):dn:=
 rq [wx 1 3 0,wf 2 false] (ar (rq [rf 3 1 1,rl 4 1 false 3,ri 5 (.call rj [.t 4]),ri 6 (.un .not (.t 5)),rm 7 6,
 rg 8 7 false (.D4 2 (.t 1)),wl 9 7 false 1 false 8,rg 10 7 false (.call rj [.t 9]),rg 11 7 false (.un .not (.t 10)),
 wq 12 7 11] (wt 12 (rq [wf 2 false] br) bz)) (rq [rf 13 0 1,rl 14 1 false 13,
 ri 15 (.call jx [.t 14]),rm 16 15,rg 17 16 false (.D4 0 (.t 1)),wl 18 16 false 1 false 17,
 rg 19 16 false (.bin .eql (.t 18) (.c (.str ⟨#[]⟩))),wm 20 16 false 19,rg 21 20 true (.D4 1 (.t 1)),wl 22 20 true 1 false 21,
 rg 23 20 true (.bin .eql (.t 22) (ci 0)),rg 24 16 false (.pick (.t 20) (.t 23) (.c (.bool false))),wq 25 16 24,rm 2 25] br))
def Hp(qd:Nat):dn:=
 rq [wf 4 false] (rq [rm 5 0,rm 6 1,ri 7 (.call qd [.t 5,.t 6]),wd 8 .geq 7 0,rm 4 8] br)
def Ji:dn:=
 rq [wc 4 0] (ar (rq [rm 6 0,wn 7 6,
 wc 8 0] (dd 0 (ix (rq [wb 9 .lss 8 7] (ar (wt 9 bz (iq 0)) (ar (dd 1 (rq [rm 10 8,rm 5 10] (rq [rm 11 1,
 rm 12 0,rm 13 5,wi 14 3 12 13,rl 15 3 true 14,ri 16 (.xy (.t 11) [.t 15])] (wt 16 (rq [rm 17 5,
 rm 4 17] br) bz)))) (cb [wd 18 .add 8 1,rm 8 18] false []))))))) (rq [wc 4 (-1)] br))
def My(uv:Nat):dn:=
 rq [wf 4 false] (rq [rm 5 0,rm 6 1,ri 7 (.call uv [.t 5,.t 6]),wd 8 .geq 7 0,rm 4 8] br)
def Pe:dn:=
 rq [wc 4 0] (ar (rq [rm 6 0,wn 7 6,
 wc 8 0] (dd 0 (ix (rq [wb 9 .lss 8 7] (ar (wt 9 bz (iq 0)) (ar (dd 1 (rq [rm 10 8,rm 5 10] (rq [rm 11 1,
 rm 12 0,rm 13 5,wi 14 1 12 13,rl 15 1 false 14,ri 16 (.xy (.t 11) [.t 15])] (wt 16 (rq [rm 17 5,
 rm 4 17] br) bz)))) (cb [wd 18 .add 8 1,rm 8 18] false []))))))) (rq [wc 4 (-1)] br))
def Q7(ze:Nat):dn:=
 rq [wf 4 false] (rq [rm 5 0,rm 6 1,ri 7 (.call ze [.t 5,.t 6]),wd 8 .geq 7 0,rm 4 8] br)
def Fj:dn:=
 rq [wc 4 0] (ar (rq [rm 6 0,wn 7 6,
 wc 8 0] (dd 0 (ix (rq [wb 9 .lss 8 7] (ar (wt 9 bz (iq 0)) (ar (dd 1 (rq [rm 10 8,rm 5 10] (rq [rm 11 1,
 rm 12 0,rm 13 5,wi 14 1 12 13,rl 15 1 false 14,wb 16 .eql 11 15] (wt 16 (rq [rm 17 5,
 rm 4 17] br) bz)))) (cb [wd 18 .add 8 1,rm 8 18] false []))))))) (rq [wc 4 (-1)] br))
def Kn:dn:=
 rq [wc 4 0] (ar (rq [rm 6 0,wn 7 6,
 wc 8 0] (dd 0 (ix (rq [wb 9 .lss 8 7] (ar (wt 9 bz (iq 0)) (ar (dd 1 (rq [rm 10 8,rm 5 10] (rq [rm 11 1,
 rm 12 0,rm 13 5,wi 14 5 12 13,rl 15 5 true 14,ri 16 (.xy (.t 11) [.t 15])] (wt 16 (rq [rm 17 5,
 rm 4 17] br) bz)))) (cb [wd 18 .add 8 1,rm 8 18] false []))))))) (rq [wc 4 (-1)] br))
def N2(o8 jx qg Br v8 kg nr:Nat):dn:=
 rq [wx 1 2 0,wc 2 0] (ar (rq [rf 11 0 1,rl 12 1 false 11,ri 13 (.call o8 [.t 12]),wd 14 .neq 13 0,
 rm 15 14,rg 16 15 false (.D4 1 (.t 1)),wl 17 15 false 1 false 16,rg 18 15 false (.len .gz (.t 17)),rg 19 15 false (.bin .gtr (.t 18) (ci 20)),
 wq 20 15 19] (wt 20 (rq [wc 2 230] br) bz)) (ar (rq [rf 21 1 1,rl 22 1 false 21,
 wn 23 22,
 wc 24 0] (dd 0 (ix (rq [wb 25 .lss 24 23] (ar (wt 25 bz (iq 0)) (ar (dd 1 (rq [rm 26 24,
 wi 27 5 22 24,rl 28 5 true 27,ri 4 (.alloc [.str ⟨#[]⟩,.int ab 0,.ck,.ck,.ck]),rm 3 26,
 ws 5 4 28] (ar (cb [rf 29 0 4,rl 30 1 false 29,ri 31 (.call jx [.t 30]),ri 32 (.un .not (.t 31)),rm 33 32,
 wm 34 33 false 3,rg 35 33 false (.bin .gtr (.t 34) (ci 0)),wm 36 33 false 35,rg 37 36 true (.D4 1 (.t 1)),wl 38 36 true 1 false 37,
 wm 39 36 true 3,rg 40 36 true (.bin .sub (.t 39) (ci 1)),rg 41 36 true (.xm 5 (.t 38) (.t 40)),rg 42 36 true (.D4 0 (.t 41)),
 wl 43 36 true 1 false 42,rg 44 36 true (.D4 0 (.t 4)),wl 45 36 true 1 false 44,rg 46 36 true (.bin .geq (.t 43) (.t 45)),
 rg 47 33 false (.pick (.t 36) (.t 46) (.c (.bool false))),
 wq 48 33 47] true []) (wt 48 (rq [wc 2 230] br) bz)))) (cb [wd 49 .add 24 1,
 rm 24 49] false []))))))) (ar (rq [rf 50 1 1,rl 51 1 false 50,wn 52 51,
 wc 53 0] (dd 2 (ix (rq [wb 54 .lss 53 52] (ar (wt 54 bz (iq 2)) (ar (dd 3 (rq [wi 55 5 51 53,
 rl 56 5 true 55,ri 6 (.alloc [.str ⟨#[]⟩,.int ab 0,.ck,.ck,.ck]),ws 5 6 56] (ar (rq [rf 58 1 6,rl 59 3 true 58,rf 60 0 1,
 rl 61 1 false 60,ri 62 (.call qg [.t 59,.t 61]),rm 57 62,rx 63 57 0,rx 64 57 1,rm 7 63,rm 8 64] (rq [rm 65 8,
 wd 66 .neq 65 0] (wt 66 (rq [wc 2 230] br) bz))) (ar (rq [rf 68 1 6,rf 69 0 68,rl 70 1 false 69,
 ri 71 (.call Br [.t 70]),rm 67 71,rx 72 67 0,rx 73 67 1,rm 9 72,rm 10 73] (rq [rm 74 9,rf 75 4 6,rl 76 1 false 75,wn 77 76,
 wb 78 .neq 74 77] (wt 78 (rq [wc 2 230] br) bz))) (rq [rf 79 4 6,rl 80 1 false 79,ri 81 (.Mh v8 [.t 1]),
 ri 82 (.call kg [.t 80,.t 81])] (wt 82 (rq [wc 2 230] br) bz)))))) (cb [wd 83 .add 53 1,
 rm 53 83] false []))))))) (ar (ar (cb [rl 84 2 true 1,ri 85 (.call nr [.t 84]),wn 86 85,rf 87 1 1,rl 88 1 false 87,
 wn 89 88,wb 90 .neq 86 89] true []) (wt 90 (rq [wc 2 230] br) bz)) (rq [wc 2 0] br)))))
def Jo(pw:Nat):dn:=
 rq [wf 3 false] (rq [rl 4 2 true 1,rm 5 0,ri 6 (.call pw [.t 4,.t 5]),ri 7 (.K2 .ptr false (.t 6)),rm 3 7] br)
def H8:dn:=
 rq [wx 2 2 0,ri 4 (.ji (.c .Wz))] (ar (rq [rf 6 1 2,rl 7 1 false 6,wn 8 7,
 wc 9 0] (dd 0 (ix (rq [wb 10 .lss 9 8] (ar (wt 10 bz (iq 0)) (ar (dd 1 (rq [rm 11 9,rm 5 11] (rq [rf 12 1 2,
 rl 13 1 false 12,rm 14 5,wi 15 5 13 14,rf 16 0 15,rl 17 1 false 16,rm 18 1,wb 19 .eql 17 18] (wt 19 (rq [rf 20 1 2,
 rl 21 1 false 20,rm 22 5,wi 23 5 21 22,rm 4 23] br) bz)))) (cb [wd 24 .add 9 1,
 rm 9 24] false []))))))) (rq [ri 4 (.ji (.c .Wz))] br))
def En(ma qk kg:Nat):dn:=
 rq [wx 2 5 0,wf 3 false] (rq [rl 4 1 false 1,rf 5 0 2,rl 6 1 false 5,ri 7 (.call ma [.t 4,.t 6]),
 ri 8 (.un .not (.t 7)),rm 9 8,rg 10 9 true (.D4 4 (.t 2)),wl 11 9 true 1 false 10,rg 12 9 true (.Mh qk [.t 1]),
 rg 13 9 true (.call kg [.t 11,.t 12]),rg 14 9 true (.un .not (.t 13)),wp 15 9 14,rm 3 15] br)
def D2(ma:Nat):dn:=
 rq [wf 3 false] (rq [rl 4 1 false 1,rm 5 0,ri 6 (.call ma [.t 4,.t 5]),ri 7 (.un .not (.t 6)),rm 3 7] br)
def Jj:dn:=
 rq [wc 4 0] (ar (rq [rm 6 0,wn 7 6,
 wc 8 0] (dd 0 (ix (rq [wb 9 .lss 8 7] (ar (wt 9 bz (iq 0)) (ar (dd 1 (rq [rm 10 8,rm 5 10] (rq [rm 11 1,
 rm 12 0,rm 13 5,wi 14 2 12 13,rl 15 2 true 14,ri 16 (.xy (.t 11) [.t 15])] (wt 16 (rq [rm 17 5,
 rm 4 17] br) bz)))) (cb [wd 18 .add 8 1,rm 8 18] false []))))))) (rq [wc 4 (-1)] br))
def N8(vb ny:Nat):dn:=
 rq [wx 2 2 0,wx 3 1 1,wc 4 0] (rq [rf 5 0 2,rl 6 1 false 5,ri 7 (.Mh vb [.t 3]),
 ri 8 (.call ny [.t 6,.t 7]),rm 4 8] br)
def N7(va ja:Nat):dn:=
 rq [wx 2 2 0,wx 3 1 1,wc 4 0] (rq [rf 5 1 2,rl 6 1 false 5,ri 7 (.Mh va [.t 3]),
 ri 8 (.call ja [.t 6,.t 7]),rm 4 8] br)
def Jr:dn:=
 rq [wx 2 2 0,wf 3 false] (rq [rf 4 0 2,rl 5 1 false 4,rl 6 1 false 1,wb 7 .eql 5 6,rm 3 7] br)
def Jq:dn:=
 rq [wx 2 5 0,wf 3 false] (rq [rf 4 0 2,rl 5 1 false 4,rl 6 1 false 1,wb 7 .eql 5 6,rm 3 7] br)
def N0:dn:=
 rq [wo 2] (ar (rq [rm 3 0,
 ri 4 (.K2 .gz false (.t 3))] (wt 4 (rq [wo 2] br) bz)) (rq [ri 5 (.yy false 0 2 [.str ⟨#[]⟩,.int ab 0] []),rm 6 0,
 ri 7 (.app 2 24 (.t 5) (.t 6)),rm 2 7] br))
def Tf:dn:=
 rq [wo 2] (ar (rq [rm 3 0,
 ri 4 (.K2 .gz false (.t 3))] (wt 4 (rq [wo 2] br) bz)) (rq [ri 5 (.yy false 0 1 [.str ⟨#[]⟩] []),rm 6 0,
 ri 7 (.app 1 16 (.t 5) (.t 6)),rm 2 7] br))
def Mz:dn:=
 rq [wo 2] (ar (rq [rm 3 0,
 ri 4 (.K2 .gz false (.t 3))] (wt 4 (rq [wo 2] br) bz)) (rq [ri 5 (.yy false 0 3 [.str ⟨#[]⟩,.int ab 0,.int ab 0] []),
 rm 6 0,ri 7 (.app 3 32 (.t 5) (.t 6)),rm 2 7] br))
def Nz:dn:=
 rq [wo 2] (ar (rq [rm 3 0,
 ri 4 (.K2 .gz false (.t 3))] (wt 4 (rq [wo 2] br) bz)) (rq [ri 5 (.yy false 0 2 [.int ab 0,.int ab 0] []),rm 6 0,
 ri 7 (.app 2 16 (.t 5) (.t 6)),rm 2 7] br))
def A0:dn:=
 rq [wo 4] (rq [wo 5] (ar (rq [rm 8 0,wn 9 8,
 wc 10 0] (dd 0 (ix (rq [wb 11 .lss 10 9] (ar (wt 11 bz (iq 0)) (ar (dd 1 (rq [wi 12 5 8 10,
 rl 13 5 true 12,ri 7 (.alloc [.str ⟨#[]⟩,.int ab 0,.ck,.ck,.ck]),ws 5 7 13] (cb [rm 14 5,rm 15 1,rl 16 5 true 7,
 ri 17 (.xy (.t 15) [.t 16]),ri 18 (.yy false 1 5 [.str ⟨#[]⟩,.int ab 0,.ck,.ck,.ck] [(0,5,.t 17)]),ri 19 (.app 5 96 (.t 14) (.t 18)),
 rm 5 19] false []))) (cb [wd 20 .add 10 1,rm 10 20] false []))))))) (rq [rm 21 5,rm 4 21] br)))
def A7:dn:=
 rq [wo 4] (rq [wo 5] (ar (rq [rm 8 0,wn 9 8,
 wc 10 0] (dd 0 (ix (rq [wb 11 .lss 10 9] (ar (wt 11 bz (iq 0)) (ar (dd 1 (rq [wi 12 1 8 10,
 rl 13 1 false 12,rm 7 13] (cb [rm 14 5,rm 15 1,rm 16 7,ri 17 (.xy (.t 15) [.t 16]),ri 18 (.yy false 1 1 [.ck] [(0,1,.t 17)]),
 ri 19 (.app 1 24 (.t 14) (.t 18)),rm 5 19] false []))) (cb [wd 20 .add 10 1,rm 10 20] false []))))))) (rq [rm 21 5,rm 4 21] br)))
def Oo(o6 kh jm fy:Nat):dn:=
 rq [wx 1 5 0,ri 2 (.alloc [.str ⟨#[]⟩,.int ab 0,.ck,.ck,.ck])] (rq [rf 3 4 1,rl 4 1 false 3,ri 5 (.call o6 [.t 4]),rf 6 4 1,
 ws 1 6 5] (rq [rf 7 1 1,rf 8 1 7,rl 9 1 false 8,ri 10 (.call kh [.t 9]),rf 11 1 1,rf 12 1 11,
 ws 1 12 10] (rq [rf 13 1 1,rf 14 2 13,rf 15 0 14,rl 16 1 false 15,
 ri 17 (.call jm [.t 16,.c (.oq fy [])]),ri 18 (.build [.ck] [(0,1,.t 17)]),rf 19 1 1,rf 20 2 19,
 ws 1 20 18] (rq [rl 21 5 true 1,ws 5 2 21] br))))
def Le(fk dw iy:Nat):dn:=
 rq [wx 1 2 0,ri 2 (.alloc [.ck,.ck])] (ar (cb [rf 3 0 1,rl 4 1 false 3,ri 5 (.call fk [.t 4]),rf 6 1 1,rl 7 1 false 6,
 ri 8 (.call dw [.t 7,.c (.oq iy [])]),ri 9 (.build [.ck,.ck] [(0,1,.t 5),(1,1,.t 8)]),
 ws 2 2 9] true []) br)
def Lc(xq:Nat):dn:=
 rq [wx 1 2 0,wf 2 false] (rq [rl 3 2 true 1,ri 4 (.call xq [.t 3]),ri 5 (.un .not (.t 4)),rm 2 5] br)
def Ds:dn:=
 rq [wx 1 1 0,wc 2 0] (rq [wc 3 0] (ar (rq [rf 6 0 1,rl 7 1 false 6,wn 8 7,
 wc 9 0] (dd 0 (ix (rq [wb 10 .lss 9 8] (ar (wt 10 bz (iq 0)) (ar (dd 1 (rq [wi 11 1 7 9,
 rl 12 1 false 11,rm 5 12] (cb [rm 13 3,rm 14 5,wn 15 14,wb 16 .add 13 15,
 rm 3 16] false []))) (cb [wd 17 .add 9 1,rm 9 17] false []))))))) (rq [rm 18 3,rm 2 18] br)))
def Bw:dn:=
 rq [wx 1 1 0,wo 2] (rq [wo 3] (ar (rq [rf 8 0 1,rl 9 1 false 8,wn 10 9,
 wc 11 0] (dd 0 (ix (rq [wb 12 .lss 11 10] (ar (wt 12 bz (iq 0)) (ar (dd 1 (rq [wi 13 1 9 11,
 rl 14 1 false 13,rm 5 14] (rq [rm 15 5,wn 16 15,
 wc 17 0] (dd 2 (ix (rq [wb 18 .lss 17 16] (ar (wt 18 bz (iq 2)) (ar (dd 3 (rq [rm 19 17,
 wi 20 2 15 17,rl 21 2 true 20,ri 7 (.alloc [.int ab 0,.int ab 0]),rm 6 19,ws 2 7 21] (cb [rm 22 3,rl 23 2 true 7,
 rm 24 5,rm 25 6,wd 26 .add 25 1,rm 27 5,wn 28 27,wb 29 .rem 26 28,wi 30 2 24 29,rl 31 2 true 30,
 ri 32 (.build [.int ab 0,.int ab 0,.int ab 0,.int ab 0] [(0,2,.t 23),(2,2,.t 31)]),
 ri 33 (.yy false 1 4 [.int ab 0,.int ab 0,.int ab 0,.int ab 0] [(0,4,.t 32)]),ri 34 (.app 4 32 (.t 22) (.t 33)),
 rm 3 34] true []))) (cb [wd 35 .add 17 1,rm 17 35] false []))))))))) (cb [wd 36 .add 11 1,
 rm 11 36] false []))))))) (rq [rm 37 3,rm 2 37] br)))
def Cl:dn:=
 rq [wx 1 2 0,wf 2 false] (rq [wa 3 2 1 1 0,rl 4 1 false 3,wa 5 2 1 1 1,rl 6 1 false 5,
 ri 7 (.Ep true (.t 4) (.t 6)),wd 8 .leq 7 500,rm 9 8,rg 10 9 true (.xe 2 1 (.t 1) (ci 0)),wl 11 9 true 1 false 10,
 rg 12 9 true (.xe 2 1 (.t 1) (ci 1)),wl 13 9 true 1 false 12,rg 14 9 true (.Ep false (.t 11) (.t 13)),rg 15 9 true (.bin .geq (.t 14) (ci (-500))),
 wp 16 9 15,rm 2 16] br)
def G9:dn:=
 rq [wx 2 2 0,wx 3 2 1,ri 4 (.alloc [.int ab 0,.int ab 0])] (rq [wa 5 2 1 2 0,rl 6 1 false 5,
 wa 7 2 1 3 0,rl 8 1 false 7,wb 9 .sub 6 8,wa 10 2 1 2 1,rl 11 1 false 10,wa 12 2 1 3 1,
 rl 13 1 false 12,wb 14 .sub 11 13,ri 15 (.build [.int ab 0,.int ab 0] [(0,1,.t 9),(1,1,.t 14)]),ws 2 4 15] br)
def Ih(jz:Nat):dn:=
 rq [wf 4 false] (rq [rm 5 0,rm 6 1,ri 7 (.call jz [.t 5,.t 6]),wd 8 .geq 7 0,rm 4 8] br)
def Ko:dn:=
 rq [wc 4 0] (ar (rq [rm 6 0,wn 7 6,
 wc 8 0] (dd 0 (ix (rq [wb 9 .lss 8 7] (ar (wt 9 bz (iq 0)) (ar (dd 1 (rq [rm 10 8,rm 5 10] (rq [rm 11 1,
 rm 12 0,rm 13 5,wi 14 2 12 13,rl 15 2 true 14,ri 16 (.xy (.t 11) [.t 15])] (wt 16 (rq [rm 17 5,
 rm 4 17] br) bz)))) (cb [wd 18 .add 8 1,rm 8 18] false []))))))) (rq [wc 4 (-1)] br))
def Lb(vt sl:Nat):dn:=
 rq [wf 2 false] (rq [ri 10 (.Hq),rm 3 10] (ar (rq [rm 11 0,wn 12 11,
 wc 13 0] (dd 0 (ix (rq [wb 14 .lss 13 12] (ar (wt 14 bz (iq 0)) (ar (dd 1 (rq [wi 15 4 11 13,
 rl 16 4 true 15,ri 5 (.alloc [.int ab 0,.int ab 0,.int ab 0,.int ab 0]),ws 4 5 16] (ar (rq [wa 17 2 2 5 0,
 rl 18 2 true 17,wa 19 2 2 5 1,rl 20 2 true 19,ri 21 (.eqs [.int,.int] false (.t 18) (.t 20)),rm 22 21,wm 23 22 false 3,
 wl 24 22 false 4 true 5,rg 25 22 false (.lookup (.row [.int,.int,.int,.int]) (.bool false) (.t 23) (.t 24) false),
 wq 26 22 25,rm 27 26,wm 28 27 false 3,rg 29 27 false (.xe 2 2 (.t 5) (ci 1)),wl 30 27 false 2 true 29,
 rg 31 27 false (.xe 2 2 (.t 5) (ci 0)),wl 32 27 false 2 true 31,
 rg 33 27 false (.build [.int ab 0,.int ab 0,.int ab 0,.int ab 0] [(0,2,.t 30),(2,2,.t 32)]),
 rg 34 27 false (.lookup (.row [.int,.int,.int,.int]) (.bool false) (.t 28) (.t 33) false),
 wq 35 27 34] (wt 35 (rq [wf 2 false] br) bz)) (cb [rm 36 3,rl 37 4 true 5,
 rn (.X0 (.row [.int,.int,.int,.int]) (.t 36) (.t 37) (.c (.bool true)))] false [])))) (cb [wd 38 .add 13 1,
 rm 13 38] false []))))))) (ar (rq [rm 39 0,wn 40 39,
 wc 41 0] (dd 2 (ix (rq [wb 42 .lss 41 40] (ar (wt 42 bz (iq 2)) (ar (dd 3 (rq [rm 43 41,
 wi 44 4 39 41,rl 45 4 true 44,ri 7 (.alloc [.int ab 0,.int ab 0,.int ab 0,.int ab 0]),rm 6 43,
 ws 4 7 45] (rq [rm 46 0,wn 47 46,
 wc 48 0] (dd 4 (ix (rq [wb 49 .lss 48 47] (ar (wt 49 bz (iq 4)) (ar (dd 5 (rq [rm 50 48,
 wi 51 4 46 48,rl 52 4 true 51,ri 9 (.alloc [.int ab 0,.int ab 0,.int ab 0,.int ab 0]),rm 8 50,
 ws 4 9 52] (rq [rl 53 4 true 7,wa 54 2 2 9 0,rl 55 2 true 54,ri 56 (.call vt [.t 53,.t 55]),rm 57 56,
 wm 58 57 false 8,wm 59 57 false 6,rg 60 57 false (.bin .lss (.t 58) (.t 59)),wm 61 57 false 60,wl 62 61 true 4 true 7,
 wl 63 61 true 4 true 9,rg 64 61 true (.call sl [.t 62,.t 63]),rg 65 57 false (.pick (.t 61) (.t 64) (.c (.bool false))),
 wq 66 57 65] (wt 66 (rq [wf 2 false] br) bz)))) (cb [wd 67 .add 48 1,
 rm 48 67] false []))))))))) (cb [wd 68 .add 41 1,rm 41 68] false []))))))) (rq [wf 2 true] br))))
def Fl(fm jl:Nat):dn:=
 rq [wx 2 4 0,wx 3 2 1,wf 4 false] (ar (cb [wa 7 2 2 2 0,rl 8 2 true 7,rl 9 2 true 3,
 ri 10 (.call fm [.t 8,.t 9]),wa 11 2 2 2 1,rl 12 2 true 11,rl 13 2 true 3,ri 14 (.call fm [.t 12,.t 13]),
 ri 5 (.A9 2),ri 6 (.A9 2),rn (.init 5 2 (.t 10)),rn (.init 6 2 (.t 14))] true []) (rq [rl 15 2 true 5,rl 16 2 true 6,
 ri 17 (.call jl [.t 15,.t 16]),wd 18 .eql 17 0,rm 19 18,rg 20 19 true (.xe 2 1 (.t 5) (ci 0)),wl 21 19 true 1 false 20,
 rg 22 19 true (.xe 2 1 (.t 6) (ci 0)),wl 23 19 true 1 false 22,rg 24 19 true (.bin .mul (.t 21) (.t 23)),rg 25 19 true (.xe 2 1 (.t 5) (ci 1)),
 wl 26 19 true 1 false 25,rg 27 19 true (.xe 2 1 (.t 6) (ci 1)),wl 28 19 true 1 false 27,rg 29 19 true (.bin .mul (.t 26) (.t 28)),
 rg 30 19 true (.bin .add (.t 24) (.t 29)),rg 31 19 true (.bin .lss (.t 30) (ci 0)),wp 32 19 31,rm 4 32] br))
def Cb(qn:Nat):dn:=
 rq [wx 2 4 0,wx 3 4 1,wf 4 false] (rq [ri 5 (.ji (.c (.oq qn [])))] (ar (cb [rm 6 5,
 rl 7 4 true 2,wa 8 2 2 3 0,rl 9 2 true 8,ri 10 (.xy (.t 6) [.t 7,.t 9]),rm 11 5,rl 12 4 true 2,wa 13 2 2 3 1,rl 14 2 true 13,
 ri 15 (.xy (.t 11) [.t 12,.t 14]),wb 16 .mul 10 15,wd 17 .lss 16 0,rm 18 17,wm 19 18 true 5,
 wl 20 18 true 4 true 3,rg 21 18 true (.xe 2 2 (.t 2) (ci 0)),wl 22 18 true 2 true 21,rg 23 18 true (.xy (.t 19) [.t 20,.t 22]),
 wm 24 18 true 5,wl 25 18 true 4 true 3,rg 26 18 true (.xe 2 2 (.t 2) (ci 1)),wl 27 18 true 2 true 26,
 rg 28 18 true (.xy (.t 24) [.t 25,.t 27]),rg 29 18 true (.bin .mul (.t 23) (.t 28)),rg 30 18 true (.bin .lss (.t 29) (ci 0)),
 wp 31 18 30,rm 4 31] true []) br))
def B5(fm jl:Nat):dn:=
 rq [wx 2 4 0,wx 3 2 1,wc 4 0] (ar (cb [wa 5 2 2 2 1,rl 6 2 true 5,wa 7 2 2 2 0,
 rl 8 2 true 7,ri 9 (.call fm [.t 6,.t 8]),rl 10 2 true 3,wa 11 2 2 2 0,rl 12 2 true 11,
 ri 13 (.call fm [.t 10,.t 12]),ri 14 (.call jl [.t 9,.t 13]),ri 15 (.Ep false (ci 1) (.t 14)),
 ri 16 (.Ep true (ci (-1)) (.t 15)),rm 4 16] true []) br)
def N4:dn:=
 rq [wx 2 2 0,wx 3 2 1,wc 4 0] (rq [wa 5 2 1 2 0,rl 6 1 false 5,wa 7 2 1 3 1,rl 8 1 false 7,
 wb 9 .mul 6 8,wa 10 2 1 2 1,rl 11 1 false 10,wa 12 2 1 3 0,rl 13 1 false 12,wb 14 .mul 11 13,
 wb 15 .sub 9 14,rm 4 15] br)
def Ol(fm jl:Nat):dn:=
 rq [wx 3 2 0,wx 4 2 1,wx 5 2 2,wc 6 0] (ar (cb [rl 8 2 true 4,rl 9 2 true 3,
 ri 10 (.call fm [.t 8,.t 9]),rl 11 2 true 5,rl 12 2 true 4,ri 13 (.call fm [.t 11,.t 12]),
 ri 14 (.call jl [.t 10,.t 13]),rm 7 14] true []) (rq [rm 15 7,ri 16 (.Ep false (ci 1) (.t 15)),ri 17 (.Ep true (ci (-1)) (.t 16)),
 rm 6 17] br))
def Ld(jl:Nat):dn:=
 rq [wf 2 false] (ar (rq [rm 16 0,wn 17 16,
 wc 18 0] (dd 0 (ix (rq [wb 19 .lss 18 17] (ar (wt 19 bz (iq 0)) (ar (dd 1 (rq [rm 20 18,
 wi 21 4 16 18,rl 22 4 true 21,ri 4 (.alloc [.int ab 0,.int ab 0,.int ab 0,.int ab 0]),rm 3 20,
 ws 4 4 22] (rq [wa 23 2 2 4 0,wa 24 2 1 23 0,rl 25 1 false 24,wa 26 2 2 4 1,
 wa 27 2 1 26 0,rl 28 1 false 27,wb 29 .add 25 28,wa 30 2 2 4 0,wa 31 2 1 30 1,rl 32 1 false 31,
 wa 33 2 2 4 1,wa 34 2 1 33 1,rl 35 1 false 34,wb 36 .add 32 35,
 ri 37 (.build [.int ab 0,.int ab 0] [(0,1,.t 29),(1,1,.t 36)]),ri 5 (.alloc [.int ab 0,.int ab 0]),
 ws 2 5 37] (rq [wc 6 0,wc 7 1] (ar (rq [wa 38 2 2 4 0,wa 39 2 1 38 1,rl 40 1 false 39,
 wa 41 2 2 4 1,wa 42 2 1 41 1,rl 43 1 false 42,wb 44 .eql 40 43] (wt 44 (cb [wc 6 1,
 wc 7 0] false []) bz)) (rq [wc 8 0] (ar (rq [rm 45 0,wn 46 45,
 wc 47 0] (dd 2 (ix (rq [wb 48 .lss 47 46] (ar (wt 48 bz (iq 2)) (ar (dd 3 (rq [rm 49 47,
 wi 50 4 45 47,rl 51 4 true 50,ri 10 (.alloc [.int ab 0,.int ab 0,.int ab 0,.int ab 0]),rm 9 49,
 ws 4 10 51] (ar (cb [rm 52 6,wa 53 2 2 10 0,ri 54 (.xe 2 1 (.t 53) (.t 52)),rl 55 1 false 54,
 ri 56 (.bin .mul (ci 2) (.t 55)),rm 57 6,ri 58 (.xe 2 1 (.t 5) (.t 57)),rl 59 1 false 58,wb 60 .sub 56 59,rm 61 7,wa 62 2 2 10 0,
 ri 63 (.xe 2 1 (.t 62) (.t 61)),rl 64 1 false 63,ri 65 (.bin .mul (ci 2) (.t 64)),rm 66 7,ri 67 (.xe 2 1 (.t 5) (.t 66)),rl 68 1 false 67,
 wb 69 .sub 65 68,ri 70 (.build [.int ab 0,.int ab 0] [(0,1,.t 60),(1,1,.t 69)]),rm 71 6,wa 72 2 2 10 1,
 ri 73 (.xe 2 1 (.t 72) (.t 71)),rl 74 1 false 73,ri 75 (.bin .mul (ci 2) (.t 74)),rm 76 6,ri 77 (.xe 2 1 (.t 5) (.t 76)),rl 78 1 false 77,
 wb 79 .sub 75 78,rm 80 7,wa 81 2 2 10 1,ri 82 (.xe 2 1 (.t 81) (.t 80)),rl 83 1 false 82,ri 84 (.bin .mul (ci 2) (.t 83)),rm 85 7,
 ri 86 (.xe 2 1 (.t 5) (.t 85)),rl 87 1 false 86,wb 88 .sub 84 87,ri 89 (.build [.int ab 0,.int ab 0] [(0,1,.t 79),(1,1,.t 88)]),
 ri 11 (.A9 2),ri 12 (.A9 2),rn (.init 11 2 (.t 70)),rn (.init 12 2 (.t 89))] true []) (ar (rq [rm 90 9,rm 91 3,wb 92 .eql 90 91,rm 93 92,
 rg 94 93 false (.xe 2 1 (.t 11) (ci 1)),wl 95 93 false 1 false 94,rg 96 93 false (.bin .gtr (.t 95) (ci 0)),rg 97 93 false (.xe 2 1 (.t 12) (ci 1)),
 wl 98 93 false 1 false 97,rg 99 93 false (.bin .gtr (.t 98) (ci 0)),rg 100 93 false (.beq false (.t 96) (.t 99)),
 wq 101 93 100] (wt 101 (iq 3) bz)) (rq [wa 102 2 1 12 1,rl 103 1 false 102,
 wa 104 2 1 11 1,rl 105 1 false 104,wb 106 .gtr 103 105,rm 13 106] (rq [rl 107 2 true 11,rl 108 2 true 12,
 ri 109 (.call jl [.t 107,.t 108]),wd 110 .gtr 109 0,rm 111 13,
 ri 112 (.beq false (.t 110) (.t 111))] (wt 112 (rq [rm 113 13] (wt 113 (cb [rm 114 8,wd 115 .add 114 1,
 rm 8 115] false []) (cb [rm 116 8,wd 117 .sub 116 1,rm 8 117] false []))) bz))))))) (cb [wd 118 .add 47 1,
 rm 47 118] false []))))))) (ar (rq [rm 119 6,wd 120 .eql 119 1] (wt 120 (cb [rm 121 8,ri 122 (.un .neg (.t 121)),
 rm 8 122] false []) bz)) (rq [rm 123 8,rm 14 123] (ar (cb [rm 124 7,wa 125 2 2 4 1,ri 126 (.xe 2 1 (.t 125) (.t 124)),rl 127 1 false 126,
 rm 128 7,wa 129 2 2 4 0,ri 130 (.xe 2 1 (.t 129) (.t 128)),rl 131 1 false 130,wb 132 .gtr 127 131,
 rm 15 132] true []) (ar (rq [rm 133 15,rm 134 6,wd 135 .eql 134 0,ri 136 (.beq false (.t 133) (.t 135))] (wt 136 (cb [rm 137 14,
 wd 138 .add 137 1,rm 14 138] false []) bz)) (rq [rm 139 14,
 wd 140 .neq 139 1] (wt 140 (rq [wf 2 false] br) bz))))))))))))) (cb [wd 141 .add 18 1,
 rm 18 141] false []))))))) (rq [wf 2 true] br))
def Dr:dn:=
 rq [wx 1 2 0,wc 2 0] (ar (rq [wa 3 2 1 1 1,rl 4 1 false 3,wd 5 .gtr 4 0,rm 6 5,
 rg 7 6 false (.xe 2 1 (.t 1) (ci 1)),wl 8 6 false 1 false 7,rg 9 6 false (.bin .eql (.t 8) (ci 0)),wm 10 6 false 9,
 rg 11 10 true (.xe 2 1 (.t 1) (ci 0)),wl 12 10 true 1 false 11,rg 13 10 true (.bin .gtr (.t 12) (ci 0)),
 rg 14 6 false (.pick (.t 10) (.t 13) (.c (.bool false))),
 wq 15 6 14] (wt 15 (rq [wc 2 0] br) bz)) (rq [wc 2 1] br))
def N5(Bz jl:Nat):dn:=
 rq [wx 2 2 0,wx 3 2 1,wc 4 0] (ar (ar (cb [rl 7 2 true 2,ri 8 (.call Bz [.t 7]),rl 9 2 true 3,
 ri 10 (.call Bz [.t 9]),rm 5 8,rm 6 10] true []) (rq [rm 11 5,rm 12 6,wb 13 .neq 11 12] (wt 13 (rq [rm 14 5,rm 15 6,
 wb 16 .sub 14 15,rm 4 16] br) bz))) (rq [rl 17 2 true 2,rl 18 2 true 3,ri 19 (.call jl [.t 17,.t 18]),ri 20 (.un .neg (.t 19)),
 rm 4 20] br))
structure Pr(P:Program)where
 mo:P.follows .mixedOrders=true
 o7:Nat
 B7:Nat
 x6:Nat
 Fb:Nat
 Ll:Nat
 Bo:Nat
 yf:Nat
 E0:Nat
 D7:Nat
 Gu:Nat
 Fa:Nat
 Fc:Nat
 tz:Nat
 tg:Nat
 pv:Nat
 zn:Nat
 D6:Nat
 Bn:Nat
 Dz:Nat
 Dy:Nat
 xz:Nat
 Am:Nat
 F9:Nat
 Bi:Nat
 F7:Nat
 D5:Nat
 F8:Nat
 Db:Nat
 Fg:Nat
 Da:Nat
 C0:Nat
 Gw:Nat
 Ff:Nat
 D9:Nat
 Gv:Nat
 Fe:Nat
 Es:Nat
 rj:Nat
 jx:Nat
 o8:Nat
 Cg:Nat
 Ch:Nat
 qg:Nat
 Ae:Nat
 lb:Nat
 lv:Nat
 Cx:Nat
 Cw:Nat
 Cv:Nat
 Cu:Nat
 Ct:Nat
 Cs:Nat
 Cr:Nat
 Gg:Nat
 Cq:Nat
 Cp:Nat
 C3:Nat
 C2:Nat
 C1:Nat
 Ea:Nat
 Br:Nat
 mq:Nat
 yh:Nat
 Cf:Nat
 w8:Nat
 qd:Nat
 kg:Nat
 uv:Nat
 ma:Nat
 ze:Nat
 ja:Nat
 jk:Nat
 v8:Nat
 nr:Nat
 pw:Nat
 ov:Nat
 qk:Nat
 ny:Nat
 j9:Nat
 vb:Nat
 kj:Nat
 va:Nat
 fk:Nat
 o6:Nat
 kh:Nat
 fy:Nat
 dw:Nat
 jm:Nat
 iy:Nat
 lh:Nat
 zo:Nat
 xq:Nat
 tp:Nat
 pg:Nat
 fm:Nat
 my:Nat
 jz:Nat
 Bp:Nat
 vt:Nat
 sl:Nat
 jl:Nat
 qn:Nat
 E9:Nat
 Bq:Nat
 Bz:Nat
 uc:Nat
 a96:ff P o7 {}=some (Qi,[.tmp 6],30)
 acr:ff P B7 {}=some (Jm,[.tmp 2],9)
 a92:ff P x6 {}=some (Qf,[.cell 4 2 true],16)
 a90:ff P Fb {}=some (F6,[.tmp 2],21)
 ajv:ff P Ll {}=some (Wu o7,[.tmp 4],58)
 a0i:ff P Bo {}=some (La o7 B7,[.tmp 4],43)
 Yv:ff P yf {}=some (Jn,[.tmp 4],38)
 a6f:ff P E0 {}=some (Oj yf,[.tmp 6],33)
 a95:ff P D7 {}=some (Qh,[.tmp 2],47)
 acs:ff P Gu {xc:=[(8,[61])]}=some (Sa o7,[.tmp 4],175)
 a8z:ff P Fa {}=some (Qe x6 E0,[.tmp 4],112)
 a94:ff P Fc {}=some (Qg Fb D7 Ll Bo Gu Fa,[.tmp 2],176)
 a6c:ff P tz {}=some (Jk,[.tmp 2],9)
 acq:ff P tg {}=some (Jl,[.tmp 2],47)
 Vv:ff P pv {}=some (Dk tg tz,[.tmp 2],47)
 Xb:ff P zn {}=some (Ii tz tg,[.tmp 2],26)
 a8x:ff P D6 {}=some (Qc,[.tmp 0],2)
 a0h:ff P Bn {}=some (Gn D6,[.tmp 2],15)
 a6e:ff P Dz {}=some (Oi,[.tmp 2],7)
 a6d:ff P Dy {}=some (Oh,[.tmp 2],7)
 a8y:ff P xz {}=some (Qd Bn Dz zn Fc,[.tmp 2],51)
 a34:ff P Am {}=some (N1 xz pv,[.tmp 4,.tmp 5],69)
 a8w:ff P F9 {}=some (Qb,[.tmp 4],22)
 agd:ff P Bi {}=some (U0,[.tmp 4],18)
 a8t:ff P F7 {}=some (Q8 Bi,[.tmp 4],21)
 a8v:ff P D5 {}=some (Qa Bi F7,[.tmp 2],48)
 a8u:ff P F8 {}=some (Q9 pv tg xz Dy F9 Am D5,[.tmp 2],98)
 a9d:ff P Db {}=some (Qo,[.tmp 2],40)
 a9e:ff P Fg {}=some (Qp,[.tmp 2],25)
 a9b:ff P Da {}=some (Qm Db,[.cell 2 3 true],39)
 a6j:ff P C0 {}=some (On,[.tmp 2],26)
 acw:ff P Gw {}=some (O0,[.tmp 4],26)
 a9c:ff P Ff {}=some (Qn Fg,[.tmp 4],57)
 a99:ff P D9 {}=some (Ql C0 Gv,[.cell 2 2 true],30)
 acv:ff P Gv {}=some (Sc Da,[.cell 2 5 true],11)
 a9a:ff P Fe {}=some (Lt Ff,[.tmp 2],54)
 acu:ff P Es {}=some (Sb,[.cell 0 2 true],28)
 a0n:ff P rj {}=some (Gp,[.tmp 2],9)
 a0o:ff P jx {}=some (Du,[.tmp 2],40)
 To:ff P o8 {}=some (C8 jx rj,[.tmp 2],41)
 a3i:ff P Cg {}=some (Nc Ch o8,[.tmp 4],13)
 Z2:ff P qg {}=some (Ju Cg Ae,[.tmp 4,.tmp 5],18)
 Z1:ff P Ae {}=some (Jt,[.tmp 4,.tmp 5],63)
 Uh:ff P lb {}=some (Cm lv,[.tmp 2],11)
 a3j:ff P lv {}=some (Nf Cx Cw Cv Cu Ct Cs Cr Gg Cq Cp C3 C2 C1 Ea,[.cell 0 56 true],16)
 a0p:ff P Br {}=some (Lf lb lv,[.tmp 2,.tmp 3],11)
 a3k:ff P Ch {}=some (Ng lb lv mq yh Cf,[.tmp 2],38)
 Z3:ff P yh {}=some (Jv w8,[.tmp 2],6)
 Tn:ff P w8 {}=some (Fo rj jx,[.tmp 2],26)
 Hu:ff P mq {}=some (Hp qd,[.tmp 4],9)
 K4:ff P qd {}=some (Ji,[.tmp 4],19)
 Nk:ff P kg {}=some (My uv,[.tmp 4],9)
 Pg:ff P uv {}=some (Pe,[.tmp 4],19)
 Qv:ff P ma {}=some (Q7 ze,[.tmp 4],9)
 Ti:ff P ze {}=some (Fj,[.tmp 4],19)
 Kp:ff P ja {}=some (Kn,[.tmp 4],19)
 a36:ff P jk {}=some (N2 o8 jx qg Br v8 kg nr,[.tmp 2],91)
 Yw:ff P v8 {}=some (Jo pw,[.tmp 3],8)
 Vw:ff P pw {}=some (H8,[.tmp 4],25)
 Sk:ff P ov {}=some (En ma qk kg,[.tmp 3],16)
 Qw:ff P qk {}=some (D2 ma,[.tmp 3],8)
 K5:ff P ny {}=some (Jj,[.tmp 4],19)
 a3e:ff P j9 {}=some (N8 vb ny,[.tmp 4],9)
 a3d:ff P kj {}=some (N7 va ja,[.tmp 4],9)
 Yz:ff P vb {}=some (Jr,[.tmp 3],8)
 Yy:ff P va {}=some (Jq,[.tmp 3],8)
 F0:ff P fk {}=some (N0,[.tmp 2],8)
 Kv:ff P o6 {}=some (Tf,[.tmp 2],8)
 Al:ff P kh {}=some (Mz,[.tmp 2],8)
 B6:ff P fy {}=some (Nz,[.tmp 2],8)
 Ml:ff P dw {}=some (A0,[.tmp 4],22)
 Mm:ff P jm {}=some (A7,[.tmp 4],22)
 a6k:ff P iy {}=some (Oo o6 kh jm fy,[.cell 2 5 true],22)
 a0m:ff P lh {}=some (Le fk dw iy,[.cell 2 2 true],10)
 a0k:ff P zo {}=some (Lc xq,[.tmp 2],6)
 Rm:ff P tp {}=some (Ds,[.tmp 2],19)
 Oz:ff P pg {}=some (Bw,[.tmp 2],38)
 Ue:ff P xq {}=some (Cl,[.tmp 2],17)
 Uf:ff P fm {}=some (G9,[.cell 4 2 true],16)
 Iv:ff P my {}=some (Ih jz,[.tmp 4],9)
 Kq:ff P jz {}=some (Ko,[.tmp 4],19)
 a0j:ff P Bp {}=some (Lb vt sl,[.tmp 2],69)
 Tl:ff P vt {}=some (Fl fm jl,[.tmp 4],33)
 Ph:ff P sl {}=some (Cb qn,[.tmp 4],32)
 O6:ff P qn {}=some (B5 fm jl,[.tmp 4],17)
 a3a:ff P jl {}=some (N4,[.tmp 4],16)
 a6g:ff P E9 {}=some (Ol fm jl,[.tmp 6],18)
 a0l:ff P Bq {}=some (Ld jl,[.tmp 2],142)
 a6i:ff P Bz {}=some (Dr,[.tmp 2],16)
 a3b:ff P uc {}=some (N5 Bz jl,[.tmp 4],21)
def G6(ov ja:Nat):dn:=
 rq [wx 1 2 0,wo 2] (rq [ri 3 (.alloc [.ck])] (dd 0 (ix (dd 1 (rq [rf 5 1 1,rl 6 1 false 5,
 ri 7 (.Mh ov [.t 3]),ri 8 (.call ja [.t 6,.t 7]),rm 4 8] (ar (rq [rm 9 4,
 wd 10 .lss 9 0] (wt 10 (rq [rl 11 1 false 3,rm 2 11] br) bz)) (cb [rl 12 1 false 3,rf 13 1 1,rl 14 1 false 13,rm 15 4,
 wi 16 5 14 15,rf 17 0 16,rl 18 1 false 17,ri 19 (.yy true 1 1 [.str ⟨#[]⟩] [(0,1,.t 18)]),ri 20 (.app 1 16 (.t 12) (.t 19)),
 ws 1 3 20] true [])))))))
structure Pr2(P:Program)extends Pr P where
 Ub:ff P nr {imm:=[19]}=some (G6 ov ja,[.tmp 2],21)
def N3:dn:=
 rq [ri 2 (.alloc [.Ir,.Ir])] (rq [ri 6 (.Hq),ri 7 (.Hq),ri 8 (.build [.Ir,.Ir] [(0,1,.t 6),(1,1,.t 7)]),ri 3 (.alloc [.Ir,.Ir]),
 ws 2 3 8] (ar (rq [rm 9 0,wn 10 9,
 wc 11 0] (dd 0 (ix (rq [wb 12 .lss 11 10] (ar (wt 12 bz (iq 0)) (ar (dd 1 (rq [wi 13 4 9 11,
 rl 14 4 true 13,ri 5 (.alloc [.int ab 0,.int ab 0,.int ab 0,.int ab 0]),ws 4 5 14] (rq [rf 15 0 3,rl 16 1 false 15,
 wa 17 2 2 5 0,rl 18 2 true 17,wa 20 2 2 5 1,rl 21 2 true 20,ri 22 (.yy false 1 2 [.int ab 0,.int ab 0] [(0,2,.t 21)]),
 rn (.a0r (.row [.int,.int]) 2 16 (.t 16) (.t 18) (.t 22) [23,19,24,25])] (cb [rf 26 1 3,rl 27 1 false 26,wa 28 2 2 5 1,rl 29 2 true 28,
 wa 31 2 2 5 0,rl 32 2 true 31,ri 33 (.yy false 1 2 [.int ab 0,.int ab 0] [(0,2,.t 32)]),
 rn (.a0r (.row [.int,.int]) 2 16 (.t 27) (.t 29) (.t 33) [34,30,35,36])] false [])))) (cb [wd 37 .add 11 1,
 rm 11 37] false []))))))) (ar (ar (.freeze) (cb [rl 38 2 true 3,ws 2 2 38] false [])) br)))
def G8(E9:Nat):dn:=
 rq [wx 2 2 0,wx 3 2 1,wf 4 false] (ar (cb [rf 5 0 2,rl 6 1 false 5,rl 7 2 true 3,
 ri 8 (.lookup (.row [.int,.int]) .ck (.t 6) (.t 7) false),wn 9 8,wd 10 .neq 9 1,rm 11 10,rg 12 11 false (.D4 1 (.t 2)),
 wl 13 11 false 1 false 12,wl 14 11 false 2 true 3,rg 15 11 false (.lookup (.row [.int,.int]) .ck (.t 13) (.t 14) false),
 rg 16 11 false (.xm 2 (.t 15) (ci 0)),wl 17 11 false 2 true 16,wl 18 11 false 2 true 3,rg 19 11 false (.D4 0 (.t 2)),
 wl 20 11 false 1 false 19,wl 21 11 false 2 true 3,rg 22 11 false (.lookup (.row [.int,.int]) .ck (.t 20) (.t 21) false),
 rg 23 11 false (.xm 2 (.t 22) (ci 0)),wl 24 11 false 2 true 23,rg 25 11 false (.call E9 [.t 17,.t 18,.t 24]),
 rg 26 11 false (.bin .neq (.t 25) (ci 0)),wq 27 11 26,rm 4 27] true []) br)
def Ik(fm sf uc:Nat):dn:=
 rq [wx 3 2 0,wx 4 2 1,wx 5 2 2,ri 6 (.alloc [.int ab 0,.int ab 0])] (rq [rf 15 0 3,rl 16 1 false 15,rl 17 2 true 5,
 ri 18 (.lookup (.row [.int,.int]) .ck (.t 16) (.t 17) false),rm 7 18] (rq [rm 19 7,ri 20 (.xm 2 (.t 19) (ci 0)),rl 21 2 true 20,
 ri 8 (.alloc [.int ab 0,.int ab 0]),ws 2 8 21] (rq [rl 22 2 true 4,rl 23 2 true 5,ri 24 (.call fm [.t 22,.t 23]),
 ri 9 (.alloc [.int ab 0,.int ab 0]),ws 2 9 24] (rq [ri 25 (.Mh sf [.t 5,.t 9]),rm 10 25] (ar (rq [rm 26 7,
 ri 27 (.slice 2 (.t 26) (some (ci 1)) none),wn 28 27,
 wc 29 0] (dd 0 (ix (rq [wb 30 .lss 29 28] (ar (wt 30 bz (iq 0)) (ar (dd 1 (rq [wi 31 2 27 29,
 rl 32 2 true 31,ri 12 (.alloc [.int ab 0,.int ab 0]),ws 2 12 32] (ar (cb [rm 33 10,rl 34 2 true 12,ri 35 (.xy (.t 33) [.t 34]),
 rm 36 10,rl 37 2 true 8,ri 38 (.xy (.t 36) [.t 37]),rm 13 35,rm 14 38] true []) (ar (cb [rm 39 13,rm 40 39,wm 41 40 true 14,
 rg 42 40 true (.un .not (.t 41)),wp 43 40 42,rm 44 43,wm 45 44 false 13,wm 46 44 false 14,
 rg 47 44 false (.beq false (.t 45) (.t 46)),wm 48 44 false 47,wl 49 48 true 2 true 12,wl 50 48 true 2 true 5,
 rg 51 48 true (.call fm [.t 49,.t 50]),wl 52 48 true 2 true 8,wl 53 48 true 2 true 5,
 rg 54 48 true (.call fm [.t 52,.t 53]),rg 55 48 true (.call uc [.t 51,.t 54]),rg 56 48 true (.bin .gtr (.t 55) (ci 0)),
 rg 57 44 false (.pick (.t 48) (.t 56) (.c (.bool false))),wq 58 44 57] true []) (wt 58 (cb [rl 59 2 true 12,
 ws 2 8 59] false []) bz))))) (cb [wd 60 .add 29 1,rm 29 60] false []))))))) (rq [rl 61 2 true 8,
 ws 2 6 61] br))))))
def G7(fm uc:Nat):dn:=
 rq [wx 3 2 0,wf 4 false] (ar (cb [rl 5 2 true 3,rl 6 2 true 1,ri 7 (.call fm [.t 5,.t 6]),rl 8 2 true 2,
 ri 9 (.call uc [.t 7,.t 8]),wd 10 .lss 9 0,rm 4 10] true []) br)
def H9(fy vz me qb j8 ub:Nat):dn:=
 rq [wx 2 2 0,wo 4] (rq [rm 8 1,ri 9 (.zg fy [.t 8]),ri 10 (.Mh vz [.t 2]),
 ri 11 (.zg me [.t 9,.t 10]),rm 1 11] (ar (ar (.freeze) (cb [rm 12 1,rm 5 12] false [])) (ar (rq [rm 13 1,
 wn 14 13,
 wc 15 0] (dd 0 (ix (rq [wb 16 .lss 15 14] (ar (wt 16 bz (iq 0)) (ar (dd 1 (rq [rm 17 15,
 rm 6 17] (ar (cb [rm 18 1,rm 19 6,ri 20 (.slice 2 (.t 18) (some (.t 19)) none),rm 21 1,rm 22 6,ri 23 (.slice 2 (.t 21) none (some (.t 22))),
 ri 24 (.yy true 2 1 [.ck] [(0,1,.t 20),(1,1,.t 23)]),ri 25 (.call qb [.t 24]),rm 7 25] true []) (rq [rm 26 7,rm 27 5,
 ri 28 (.call j8 [.t 26,.t 27,.c (.oq ub [])]),wd 29 .lss 28 0] (wt 29 (cb [rm 30 7,
 rm 5 30] false []) bz))))) (cb [wd 31 .add 15 1,rm 15 31] false []))))))) (rq [rm 32 5,ri 33 (.call fy [.t 32]),
 rm 4 33] br))))
def Fm(xp:Nat):dn:=
 rq [wx 2 2 0,wf 3 false] (rq [rl 4 2 true 1,rl 5 2 true 2,ri 6 (.call xp [.t 4,.t 5]),ri 7 (.un .not (.t 6)),
 rm 3 7] br)
def y0(jz:Nat):dn:=
 rq [wo 4] (rq [rm 8 0,rm 9 1,ri 10 (.call jz [.t 8,.t 9]),rm 5 10] (ar (rq [rm 11 5,
 wd 12 .eql 11 (-1)] (wt 12 (rq [rm 13 0,rm 4 13] br) bz)) (ar (rq [rm 14 5,wd 15 .add 14 1,
 rm 6 15] (dd 0 (ix (ar (rq [rm 16 6,rm 17 0,wn 18 17,
 wb 19 .lss 16 18] (wt 19 bz (iq 0))) (ar (dd 1 (rq [rm 22 0,rm 23 6,wi 24 2 22 23,rl 25 2 true 24,
 ri 7 (.alloc [.int ab 0,.int ab 0]),ws 2 7 25] (rq [rm 26 1,rl 27 2 true 7,ri 28 (.xy (.t 26) [.t 27]),
 ri 29 (.un .not (.t 28))] (wt 29 (rq [rm 30 0,rm 31 5,rl 32 2 true 7,wi 33 2 30 31,ws 2 33 32] (cb [rm 34 5,
 wd 35 .add 34 1,rm 5 35] false [])) bz)))) (cb [rm 20 6,wd 21 .add 20 1,rm 6 21] false [])))))) (rq [rm 36 0,rm 37 5,
 ri 38 (.Nx 2 (.t 36) (some (.t 37)) none none),rn (.clr [.int ab 0,.int ab 0] (.t 38))] (rq [rm 39 0,rm 40 5,ri 41 (.Oe 2 (.t 39) (.t 40)),
 rm 4 41] br)))))
def Bv:dn:=
 rq [wo 4] (ar (rq [rm 5 1,wd 6 .lss 5 0] (wt 6 (cb [ri 7 (.bad),rn (.bad)] false []) bz)) (ar (rq [rm 8 1,rm 9 0,
 ri 10 (.ade (.t 9)),rm 11 0,wn 12 11,wb 13 .sub 10 12,wb 14 .sub 8 13,rm 1 14] (rq [rm 15 1,
 wd 16 .gtr 15 0] (wt 16 (cb [rm 17 0,rm 18 0,ri 19 (.ade (.t 18)),ri 20 (.slice 2 (.t 17) none (some (.t 19))),rm 21 1,
 ri 22 (.a3o 2 16 [.int ab 0,.int ab 0] (.t 20) (.t 21)),rm 23 0,wn 24 23,ri 25 (.Oe 2 (.t 22) (.t 24)),
 rm 0 25] false []) bz))) (rq [rm 26 0,rm 4 26] br)))
def Ai(re:Nat):dn:=
 rq [wo 2] (rq [wc 3 0] (ar (rq [rm 9 0,wn 10 9,
 wc 11 0] (dd 0 (ix (rq [wb 12 .lss 11 10] (ar (wt 12 bz (iq 0)) (ar (dd 1 (rq [wi 13 1 9 11,
 rl 14 1 false 13,rm 5 14] (rq [rm 15 3,rm 16 5,wn 17 16,wb 18 .add 15 17,rm 3 18] (rq [rm 19 3,
 wd 20 .lss 19 0] (wt 20 (cb [ri 21 (.bad),rn (.bad)] false []) bz))))) (cb [wd 22 .add 11 1,
 rm 11 22] false []))))))) (rq [rm 23 3,ri 24 (.zg re [.c .ck,.t 23]),rm 6 24] (ar (rq [rm 25 0,wn 26 25,
 wc 27 0] (dd 2 (ix (rq [wb 28 .lss 27 26] (ar (wt 28 bz (iq 2)) (ar (dd 3 (rq [wi 29 1 25 27,
 rl 30 1 false 29,rm 8 30] (cb [rm 31 6,rm 32 8,ri 33 (.app 2 16 (.t 31) (.t 32)),rm 6 33] false []))) (cb [wd 34 .add 27 1,
 rm 27 34] false []))))))) (rq [rm 35 6,rm 2 35] br)))))
def Ek(yo:Nat):dn:=
 rq [wc 4 0] (ar (rq [rm 9 0,wn 10 9,
 wc 11 0] (dd 0 (ix (rq [wb 12 .lss 11 10] (ar (wt 12 bz (iq 0)) (ar (dd 1 (rq [rm 13 11,
 wi 14 1 9 11,rl 15 1 false 14,rm 5 13,rm 6 15] (ar (rq [rm 16 5,rm 17 1,wn 18 17,
 wb 19 .geq 16 18] (wt 19 (rq [wc 4 1] br) bz)) (rq [rm 20 1,rm 21 5,wi 22 1 20 21,rl 23 1 false 22,
 rm 7 23] (rq [rm 24 6,rm 25 7,ri 26 (.call yo [.t 24,.t 25]),rm 8 26] (rq [rm 27 8,wd 28 .neq 27 0] (wt 28 (rq [rm 29 8,
 rm 4 29] br) bz))))))) (cb [wd 30 .add 11 1,rm 11 30] false []))))))) (ar (rq [rm 31 0,wn 32 31,rm 33 1,
 wn 34 33,wb 35 .lss 32 34] (wt 35 (rq [wc 4 (-1)] br) bz)) (rq [wc 4 0] br)))
def xi:dn:=
 rq [wc 6 0] (ar (rq [rm 11 0,wn 12 11,
 wc 13 0] (dd 0 (ix (rq [wb 14 .lss 13 12] (ar (wt 14 bz (iq 0)) (ar (dd 1 (rq [rm 15 13,
 wi 16 2 11 13,rl 17 2 true 16,ri 8 (.alloc [.int ab 0,.int ab 0]),rm 7 15,ws 2 8 17] (ar (rq [rm 18 7,rm 19 1,
 wn 20 19,wb 21 .geq 18 20] (wt 21 (rq [wc 6 1] br) bz)) (rq [rm 22 1,rm 23 7,
 wi 24 2 22 23,rl 25 2 true 24,ri 9 (.alloc [.int ab 0,.int ab 0]),ws 2 9 25] (rq [rm 26 2,rl 27 2 true 8,rl 28 2 true 9,
 ri 29 (.xy (.t 26) [.t 27,.t 28]),rm 10 29] (rq [rm 30 10,wd 31 .neq 30 0] (wt 31 (rq [rm 32 10,
 rm 6 32] br) bz))))))) (cb [wd 33 .add 13 1,rm 13 33] false []))))))) (ar (rq [rm 34 0,wn 35 34,rm 36 1,
 wn 37 36,wb 38 .lss 35 37] (wt 38 (rq [wc 6 (-1)] br) bz)) (rq [wc 6 0] br)))
def Qj(uj:Nat):dn:=
 rq [wx 2 2 0,wx 3 2 1,wc 4 0] (ar (cb [ri 5 (.adn 2 1 (.t 2)),ri 6 (.adn 2 1 (.t 3)),
 ri 7 (.call uj [.t 5,.t 6]),rm 4 7] true []) br)
def Hd(yi:Nat):dn:=
 rq [wc 4 0] (rq [rm 7 0,ri 8 (.call yi [.t 7]),rm 5 8] (rq [rm 9 1,ri 10 (.call yi [.t 9]),
 rm 6 10] (ar (rq [rm 11 5] (wt 11 (ar (rq [rm 12 6] (wt 12 (rq [wc 4 0] br) bz)) (rq [wc 4 (-1)] br)) bz)) (ar (rq [rm 13 6] (wt 13 (rq [wc 4 1] br) bz)) (ar (rq [rm 14 0,
 rm 15 1,wb 16 .lss 14 15] (wt 16 (rq [wc 4 (-1)] br) bz)) (ar (rq [rm 17 0,rm 18 1,
 wb 19 .gtr 17 18] (wt 19 (rq [wc 4 1] br) bz)) (rq [wc 4 0] br)))))))
def Jw:dn:=
 rq [wf 2 false] (rq [rm 3 0,rm 4 0,wb 5 .neq 3 4,rm 2 5] br)
def Dq(ee mz:Nat):dn:=
 rq [wo 2] (rq [rm 3 0,ri 4 (.zg ee [.t 3,.c (.oq mz [])])] (rq [rm 5 0,rm 2 5] br))
def Ij(j8 ub:Nat):dn:=
 rq [wc 4 0] (rq [rm 5 0,rm 6 1,ri 7 (.call j8 [.t 5,.t 6,.c (.oq ub [])]),rm 4 7] br)
def Ha(ua zp oo mh:Nat):dn:=
 rq [ri 2 (.alloc [.ck])] (rq [rm 10 0,ri 11 (.call ua [.t 10]),ri 3 (.alloc [.Ir,.Ir]),ws 2 3 11] (rq [ri 12 (.Hq),
 rm 4 12] (rq [wo 5] (ar bz (ar (rq [rm 13 0,wn 14 13,
 wc 15 0] (dd 0 (ix (rq [wb 16 .lss 15 14] (ar (wt 16 bz (iq 0)) (ar (dd 1 (rq [wi 17 4 13 15,
 rl 18 4 true 17,ri 7 (.alloc [.int ab 0,.int ab 0,.int ab 0,.int ab 0]),ws 4 7 18] (ar (rq [rm 19 4,rl 20 4 true 7,
 ri 21 (.lookup (.row [.int,.int,.int,.int]) (.bool false) (.t 19) (.t 20) false)] (wt 21 (iq 1) bz)) (rq [wo 8] (ar (rq [rl 22 4 true 7,
 ri 9 (.alloc [.int ab 0,.int ab 0,.int ab 0,.int ab 0]),ws 4 9 22] (dd 2 (ix (ar (rq [rm 23 4,rl 24 4 true 9,
 ri 25 (.lookup (.row [.int,.int,.int,.int]) (.bool false) (.t 23) (.t 24) false),
 ri 26 (.un .not (.t 25))] (wt 26 bz (iq 2))) (ar (dd 3 (rq [rm 36 4,rl 37 4 true 9,
 rn (.X0 (.row [.int,.int,.int,.int]) (.t 36) (.t 37) (.c (.bool true)))] (cb [rm 38 8,wa 39 2 2 9 0,rl 40 2 true 39,
 ri 41 (.yy false 1 2 [.int ab 0,.int ab 0] [(0,2,.t 40)]),ri 42 (.app 2 16 (.t 38) (.t 41)),
 rm 8 42] false []))) (ar (rq [rl 43 4 true 9] (cb [ri 9 (.alloc [.int ab 0,.int ab 0,.int ab 0,.int ab 0]),
 ws 4 9 43] false [])) (cb [wa 27 2 2 9 1,rl 28 2 true 27,rl 29 2 true 3,wa 30 2 2 9 0,rl 31 2 true 30,
 wa 32 2 2 9 1,rl 33 2 true 32,ri 34 (.call zp [.t 29,.t 31,.t 33]),
 ri 35 (.build [.int ab 0,.int ab 0,.int ab 0,.int ab 0] [(0,2,.t 28),(2,2,.t 34)]),
 ws 4 9 35] true []))))))) (ar (.freeze) (cb [rm 44 5,rl 45 2 true 3,rm 46 8,ri 47 (.call oo [.t 45,.t 46]),
 ri 48 (.yy false 1 1 [.ck] [(0,1,.t 47)]),ri 49 (.app 1 24 (.t 44) (.t 48)),rm 5 49] false []))))))) (cb [wd 50 .add 15 1,
 rm 15 50] false []))))))) (rq [rm 51 5,ri 52 (.zg mh [.t 51]),ri 53 (.build [.ck] [(0,1,.t 52)]),ws 1 2 53] br))))))
def xr:dn:=
 rq [wf 4 false] (ar (rq [rm 6 0,wn 7 6,rm 8 1,wn 9 8,
 wb 10 .neq 7 9] (wt 10 (rq [wf 4 false] br) bz)) (ar (rq [rm 11 0,wn 12 11,
 wc 13 0] (dd 0 (ix (rq [wb 14 .lss 13 12] (ar (wt 14 bz (iq 0)) (ar (dd 1 (rq [rm 15 13,
 rm 5 15] (ar (cb [rm 16 0,rm 17 5,wi 18 2 16 17,rl 19 2 true 18,rm 20 1,rm 21 5,wi 22 2 20 21,rl 23 2 true 22,
 ri 24 (.eqs [.int,.int] true (.t 19) (.t 23))] true []) (wt 24 (rq [wf 4 false] br) bz)))) (cb [wd 25 .add 13 1,
 rm 13 25] false []))))))) (rq [wf 4 true] br)))
def mf:dn:=
 rq [wf 6 false] (ar (rq [rm 10 0,wn 11 10,rm 12 1,wn 13 12,
 wb 14 .neq 11 13] (wt 14 (rq [wf 6 false] br) bz)) (ar (rq [rm 15 0,wn 16 15,
 wc 17 0] (dd 0 (ix (rq [wb 18 .lss 17 16] (ar (wt 18 bz (iq 0)) (ar (dd 1 (rq [rm 19 17,
 wi 20 1 15 17,rl 21 1 false 20,rm 7 19,rm 8 21] (rq [rm 22 1,rm 23 7,wi 24 1 22 23,rl 25 1 false 24,rm 9 25] (rq [rm 26 2,rm 27 8,
 rm 28 9,ri 29 (.xy (.t 26) [.t 27,.t 28]),
 ri 30 (.un .not (.t 29))] (wt 30 (rq [wf 6 false] br) bz))))) (cb [wd 31 .add 17 1,
 rm 17 31] false []))))))) (rq [wf 6 true] br)))
def Om(tp my zo pg Bp Bq uz ua oo mh gu j0:Nat):dn:=
 rq [wx 1 1 0,ri 2 (.alloc [.ck]),wc 3 0] (ar (rq [rl 12 1 true 1,ri 13 (.call tp [.t 12]),
 wd 14 .gtr 13 60,rm 15 14,rg 16 15 false (.D4 0 (.t 1)),wl 17 15 false 1 false 16,rg 18 15 false (.len .gz (.t 17)),
 rg 19 15 false (.bin .gtr (.t 18) (ci 60)),wq 20 15 19] (wt 20 (rq [ri 21 (.build [.ck] []),ws 1 2 21,
 wc 3 170] br) bz)) (ar (rq [rf 22 0 1,rl 23 1 false 22,wn 24 23,
 wc 25 0] (dd 0 (ix (rq [wb 26 .lss 25 24] (ar (wt 26 bz (iq 0)) (ar (dd 1 (rq [wi 27 1 23 25,
 rl 28 1 false 27,rm 5 28] (rq [rm 29 5,wn 30 29,wd 31 .lss 30 3,rm 32 31,wm 33 32 false 5,
 rg 34 32 false (.call my [.t 33,.c (.oq zo [])]),
 wq 35 32 34] (wt 35 (rq [ri 36 (.build [.ck] []),ws 1 2 36,
 wc 3 170] br) bz)))) (cb [wd 37 .add 25 1,rm 25 37] false []))))))) (rq [rl 38 1 true 1,
 ri 39 (.call pg [.t 38]),rm 6 39] (ar (rq [rm 40 6,ri 41 (.call Bp [.t 40]),ri 42 (.un .not (.t 41)),rm 43 42,
 wm 44 43 false 6,rg 45 43 false (.call Bq [.t 44]),rg 46 43 false (.un .not (.t 45)),
 wq 47 43 46] (wt 47 (rq [ri 48 (.build [.ck] []),ws 1 2 48,
 wc 3 170] br) bz)) (rq [rm 49 6,ri 50 (.call uz [.t 49]),ri 7 (.alloc [.ck]),ws 1 7 50] (rq [rm 51 6,
 ri 52 (.call ua [.t 51]),ri 8 (.alloc [.Ir,.Ir]),ws 2 8 52] (rq [wo 9] (ar (rq [rf 53 0 1,rl 54 1 false 53,
 wn 55 54,
 wc 56 0] (dd 2 (ix (rq [wb 57 .lss 56 55] (ar (wt 57 bz (iq 2)) (ar (dd 3 (rq [wi 58 1 54 56,
 rl 59 1 false 58,rm 11 59] (cb [rm 60 9,rl 61 2 true 8,rm 62 11,ri 63 (.call oo [.t 61,.t 62]),ri 64 (.yy false 1 1 [.ck] [(0,1,.t 63)]),
 ri 65 (.app 1 24 (.t 60) (.t 64)),rm 9 65] false []))) (cb [wd 66 .add 56 1,
 rm 56 66] false []))))))) (ar (ar (L9 (rq [rm 67 9] (L9 (rq [ri 68 (.zg mh [.t 67])] (rq [rf 69 0 7] (rq [rl 70 1 false 69] (rq [ri 71 (.call gu [.t 68,.t 70,.c (.oq j0 [])])] (rq [ri 72 (.un .not (.t 71))] bz))))) (rq [rf 69 0 7] (L9 (rq [ri 68 (.zg mh [.t 67])] (rq [rl 70 1 false 69] (rq [ri 71 (.call gu [.t 68,.t 70,.c (.oq j0 [])])] (rq [ri 72 (.un .not (.t 71))] bz)))) (rq [rl 70 1 false 69] (rq [ri 68 (.zg mh [.t 67])] (rq [ri 71 (.call gu [.t 68,.t 70,.c (.oq j0 [])])] (rq [ri 72 (.un .not (.t 71))] bz)))))))) (rq [rf 69 0 7] (L9 (rq [rm 67 9] (L9 (rq [ri 68 (.zg mh [.t 67])] (rq [rl 70 1 false 69] (rq [ri 71 (.call gu [.t 68,.t 70,.c (.oq j0 [])])] (rq [ri 72 (.un .not (.t 71))] bz)))) (rq [rl 70 1 false 69] (rq [ri 68 (.zg mh [.t 67])] (rq [ri 71 (.call gu [.t 68,.t 70,.c (.oq j0 [])])] (rq [ri 72 (.un .not (.t 71))] bz)))))) (rq [rl 70 1 false 69] (rq [rm 67 9] (rq [ri 68 (.zg mh [.t 67])] (rq [ri 71 (.call gu [.t 68,.t 70,.c (.oq j0 [])])] (rq [ri 72 (.un .not (.t 71))] bz)))))))) (wt 72 (rq [ri 73 (.build [.ck] []),
 ws 1 2 73,wc 3 170] br) bz)) (rq [rl 74 1 true 7,ws 1 2 74,wc 3 0] br))))))))))
def N6(x7:Nat):dn:=
 rq [wx 1 1 0,wc 2 0] (rq [rl 6 1 true 1,ri 7 (.call x7 [.t 6]),rm 5 7,rx 8 5 0,rx 9 5 1,ri 3 (.alloc [.ck]),
 ws 1 3 8,rm 4 9] (rq [rm 10 4,rm 2 10] br))
structure Pr3(P:Program)extends Pr2 P where
 ua:Nat
 xp:Nat
 zp:Nat
 sf:Nat
 oo:Nat
 vz:Nat
 me:Nat
 qb:Nat
 j8:Nat
 ub:Nat
 re:Nat
 uj:Nat
 yo:Nat
 yi:Nat
 mh:Nat
 ee:Nat
 mz:Nat
 uz:Nat
 j0:Nat
 gu:Nat
 x7:Nat
 a38:ff P ua {dyn:=[8]}=some (N3,[.cell 2 2 true],39)
 Ud:ff P xp {}=some (G8 E9,[.tmp 4],28)
 Xd:ff P zp {}=some (Ik fm sf uc,[.cell 6 2 true],62)
 Uc:ff P sf {}=some (G7 fm uc,[.tmp 4],11)
 Vy:ff P oo {imm:=[24],ce:=[9,11],dyn:=[2]}=some (H9 fy vz me qb j8 ub,[.tmp 4],34)
 Tm:ff P vz {}=some (Fm xp,[.tmp 3],8)
 K6:ff P me {kp:=[38],cv:=[41]}=some (y0 jz,[.tmp 4],42)
 Oy:ff P re {cv:=[25]}=some (Bv,[.tmp 4],27)
 Nl:ff P qb {ce:=[24]}=some (Ai re,[.tmp 2],36)
 Si:ff P uj {}=some (Ek yo,[.tmp 4],36)
 Iw:ff P j8 {}=some (xi,[.tmp 6],39)
 a97:ff P ub {}=some (Qj uj,[.tmp 4],8)
 W1:ff P yo {}=some (Hd yi,[.tmp 4],20)
 Z4:ff P yi {}=some (Jw,[.tmp 2],6)
 Rl:ff P mh {ce:=[4]}=some (Dq ee mz,[.tmp 2],6)
 Xc:ff P mz {}=some (Ij j8 ub,[.tmp 4],8)
 Vz:ff P uz {ce:=[52],dyn:=[16]}=some (Ha ua zp oo mh,[.cell 2 1 true],54)
 O5:ff P j0 {}=some (xr,[.tmp 4],26)
 Az:ff P gu {}=some (mf,[.tmp 6],32)
 a6h:ff P x7 {ce:=[68],od:=[20]}=some (Om tp my zo pg Bp Bq uz ua oo mh gu j0,[.cell 2 1 true,.tmp 3],75)
 a3c:ff P Cf {}=some (N6 x7,[.tmp 2],11)
def N9(o6 kh jm fy:Nat):dn:=
 rq [wx 1 5 0,ri 2 (.alloc [.str ⟨#[]⟩,.int ab 0,.ck,.ck,.ck])] (rq [rf 3 4 1,rl 4 1 false 3,ri 5 (.qz o6 [.t 4]),rf 6 4 1,
 ws 1 6 5] (rq [rf 7 1 1,rf 8 1 7,rl 9 1 false 8,ri 10 (.qz kh [.t 9]),rf 11 1 1,rf 12 1 11,
 ws 1 12 10] (rq [rf 13 1 1,rf 14 2 13,rf 15 0 14,rl 16 1 false 15,
 ri 17 (.call jm [.t 16,.c (.oq fy [])]),ri 18 (.build [.ck] [(0,1,.t 17)]),rf 19 1 1,rf 20 2 19,
 ws 1 20 18] (rq [rl 21 5 true 1,ws 5 2 21] br))))
def zh:dn:=
 rq [wo 4] (rq [wo 5] (ar (rq [rm 8 0,wn 9 8,
 wc 10 0] (dd 0 (ix (rq [wb 11 .lss 10 9] (ar (wt 11 bz (iq 0)) (ar (dd 1 (rq [wi 12 5 8 10,
 rl 13 5 true 12,ri 7 (.alloc [.str ⟨#[]⟩,.int ab 0,.ck,.ck,.ck]),ws 5 7 13] (cb [rm 14 5,rm 15 1,rl 16 5 true 7,
 ri 17 (.P4 (.t 15) [.t 16]),ri 18 (.a0x 1 5 [.str ⟨#[]⟩,.int ab 0,.ck,.ck,.ck] [(0,5,.t 17)]),ri 19 (.app 5 96 (.t 14) (.t 18)),
 rm 5 19] false []))) (cb [wd 20 .add 10 1,rm 10 20] false []))))))) (rq [rm 21 5,rm 4 21] br)))
def Js(fk dw iy:Nat):dn:=
 rq [wx 1 2 0,
 ri 2 (.alloc [.ck,.ck])] (ar (L9 (rq [rf 3 0 1] (L9 (rq [rl 4 1 false 3] (L9 (rq [ri 5 (.qz fk [.t 4])] (rq [rf 6 1 1] (rq [rl 7 1 false 6] (rq [ri 8 (.qz dw [.t 7,.c (.oq iy [])])] (rq [ri 9 (.build [.ck,.ck] [(0,1,.t 5),(1,1,.t 8)])] (rq [ws 2 2 9] bz)))))) (rq [rf 6 1 1] (L9 (rq [ri 5 (.qz fk [.t 4])] (rq [rl 7 1 false 6] (rq [ri 8 (.qz dw [.t 7,.c (.oq iy [])])] (rq [ri 9 (.build [.ck,.ck] [(0,1,.t 5),(1,1,.t 8)])] (rq [ws 2 2 9] bz))))) (rq [rl 7 1 false 6] (rq [ri 5 (.qz fk [.t 4])] (rq [ri 8 (.qz dw [.t 7,.c (.oq iy [])])] (rq [ri 9 (.build [.ck,.ck] [(0,1,.t 5),(1,1,.t 8)])] (rq [ws 2 2 9] bz))))))))) (rq [rf 6 1 1] (L9 (rq [rl 4 1 false 3] (L9 (rq [ri 5 (.qz fk [.t 4])] (rq [rl 7 1 false 6] (rq [ri 8 (.qz dw [.t 7,.c (.oq iy [])])] (rq [ri 9 (.build [.ck,.ck] [(0,1,.t 5),(1,1,.t 8)])] (rq [ws 2 2 9] bz))))) (rq [rl 7 1 false 6] (rq [ri 5 (.qz fk [.t 4])] (rq [ri 8 (.qz dw [.t 7,.c (.oq iy [])])] (rq [ri 9 (.build [.ck,.ck] [(0,1,.t 5),(1,1,.t 8)])] (rq [ws 2 2 9] bz))))))) (rq [rl 7 1 false 6] (rq [rl 4 1 false 3] (rq [ri 5 (.qz fk [.t 4])] (rq [ri 8 (.qz dw [.t 7,.c (.oq iy [])])] (rq [ri 9 (.build [.ck,.ck] [(0,1,.t 5),(1,1,.t 8)])] (rq [ws 2 2 9] bz)))))))))) (rq [rf 6 1 1] (L9 (rq [rf 3 0 1] (L9 (rq [rl 4 1 false 3] (L9 (rq [ri 5 (.qz fk [.t 4])] (rq [rl 7 1 false 6] (rq [ri 8 (.qz dw [.t 7,.c (.oq iy [])])] (rq [ri 9 (.build [.ck,.ck] [(0,1,.t 5),(1,1,.t 8)])] (rq [ws 2 2 9] bz))))) (rq [rl 7 1 false 6] (rq [ri 5 (.qz fk [.t 4])] (rq [ri 8 (.qz dw [.t 7,.c (.oq iy [])])] (rq [ri 9 (.build [.ck,.ck] [(0,1,.t 5),(1,1,.t 8)])] (rq [ws 2 2 9] bz))))))) (rq [rl 7 1 false 6] (rq [rl 4 1 false 3] (rq [ri 5 (.qz fk [.t 4])] (rq [ri 8 (.qz dw [.t 7,.c (.oq iy [])])] (rq [ri 9 (.build [.ck,.ck] [(0,1,.t 5),(1,1,.t 8)])] (rq [ws 2 2 9] bz)))))))) (rq [rl 7 1 false 6] (rq [rf 3 0 1] (rq [rl 4 1 false 3] (rq [ri 5 (.qz fk [.t 4])] (rq [ri 8 (.qz dw [.t 7,.c (.oq iy [])])] (rq [ri 9 (.build [.ck,.ck] [(0,1,.t 5),(1,1,.t 8)])] (rq [ws 2 2 9] bz)))))))))) br)
def Na(s9 s8 s7 s6 s5 nu mu:Nat):dn:=
 rq [ri 0 (.alloc [.xd,.xd,.xd,.xd,.xd,.xd,.xd])] (rq [ri 1 (.build [.xd,.xd,.xd,.xd,.xd,.xd,.xd] [(0,1,.c (.oq s9 [])),(1,1,.c (.oq s8 [])),(2,1,.c (.oq s7 [])),(3,1,.c (.oq s6 [])),(4,1,.c (.oq s5 [])),(5,1,.c (.oq nu [])),(6,1,.c (.oq mu []))]),
 ws 7 0 1] br)
def te(j9:Nat):dn:=
 rq [wx 3 9 1,wc 4 0] (ar (cb [rm 6 0,rk 7 6,rl 8 2 true 7,rf 9 1 3,rl 10 1 false 9,ri 11 (.call j9 [.t 8,.t 10]),
 rm 5 11] true []) (ar (rq [rm 12 5,wd 13 .lss 12 0] (wt 13 (rq [wc 4 4] br) bz)) (ar (cb [rm 14 0,rk 15 14,
 rf 16 0 15,rl 17 1 false 16,rm 18 5,rf 19 3 3,rl 20 1 false 19,wi 21 2 17 18,rf 22 1 21,
 ws 1 22 20] true []) (rq [wc 4 0] br))))
def p8(j9:Nat):dn:=
 rq [wx 3 9 1,wc 4 0] (ar (ar (cb [rm 5 0,rk 6 5,rl 7 2 true 6,rf 8 1 3,rl 9 1 false 8,ri 10 (.call j9 [.t 7,.t 9]),
 wd 11 .geq 10 0] true []) (wt 11 (rq [wc 4 7] br) bz)) (ar (cb [rm 12 0,rm 13 0,rk 14 13,rf 15 0 14,rl 16 1 false 15,
 rf 17 1 3,rl 18 1 false 17,rf 19 3 3,rl 20 1 false 19,ri 21 (.build [.str ⟨#[]⟩,.int ab 0] [(0,1,.t 18),(1,1,.t 20)]),
 ri 22 (.yy true 1 2 [.str ⟨#[]⟩,.int ab 0] [(0,2,.t 21)]),ri 23 (.app 2 24 (.t 16) (.t 22)),rk 24 12,rf 25 0 24,
 ws 1 25 23] true []) (rq [wc 4 0] br)))
def td(j9 nq:Nat):dn:=
 rq [wx 3 9 1,wc 4 0] (ar (cb [rm 6 0,rk 7 6,rl 8 2 true 7,rf 9 1 3,rl 10 1 false 9,ri 11 (.call j9 [.t 8,.t 10]),
 rm 5 11] true []) (ar (rq [rm 12 5,wd 13 .lss 12 0] (wt 13 (rq [wc 4 4] br) bz)) (rq [rm 14 0,rm 15 0,rk 16 15,rf 17 0 16,
 rl 18 1 false 17,rm 19 5,rm 20 5,wd 21 .add 20 1,ri 22 (.zg nq [.t 18,.t 19,.t 21]),rk 23 14,rf 24 0 23,
 ws 1 24 22] (rq [wc 4 0] br))))
def rz(kj iy:Nat):dn:=
 rq [wx 3 9 1,wc 4 0] (ar (ar (cb [rm 6 0,rk 7 6,rl 8 2 true 7,rf 9 4 3,rf 10 0 9,rl 11 1 false 10,
 ri 12 (.call kj [.t 8,.t 11]),rm 5 12] true []) (rq [rm 13 5,wd 14 .geq 13 0] (wt 14 (cb [rm 15 0,rk 16 15,rf 17 1 16,
 rl 18 1 false 17,rm 19 5,rf 20 4 3,rl 21 5 true 20,ri 22 (.call iy [.t 21]),wi 23 5 18 19,
 ws 5 23 22] true []) (cb [rm 24 0,rm 25 0,rk 26 25,rf 27 1 26,rl 28 1 false 27,rf 29 4 3,rl 30 5 true 29,ri 31 (.call iy [.t 30]),
 ri 32 (.yy true 1 5 [.str ⟨#[]⟩,.int ab 0,.ck,.ck,.ck] [(0,5,.t 31)]),ri 33 (.app 5 96 (.t 28) (.t 32)),rk 34 24,rf 35 1 34,
 ws 1 35 33] true [])))) (rq [wc 4 0] br))
def tc(kj oe:Nat):dn:=
 rq [wx 3 9 1,wc 4 0] (ar (cb [rm 6 0,rk 7 6,rl 8 2 true 7,rf 9 1 3,rl 10 1 false 9,ri 11 (.call kj [.t 8,.t 10]),
 rm 5 11] true []) (ar (rq [rm 12 5,wd 13 .lss 12 0] (wt 13 (rq [wc 4 4] br) bz)) (rq [rm 14 0,rm 15 0,rk 16 15,rf 17 1 16,
 rl 18 1 false 17,rm 19 5,rm 20 5,wd 21 .add 20 1,ri 22 (.zg oe [.t 18,.t 19,.t 21]),rk 23 14,rf 24 1 23,
 ws 1 24 22] (rq [wc 4 0] br))))
def tx(kj:Nat):dn:=
 rq [wx 3 9 1,wc 4 0] (ar (cb [rm 10 0,rk 11 10,rl 12 2 true 11,rf 13 1 3,rl 14 1 false 13,ri 15 (.call kj [.t 12,.t 14]),
 rm 5 15] true []) (ar (dd 0 (rq [rm 17 5,wd 18 .lss 17 0,rm 16 18] (wt 16 (rq [wc 4 4] br) (ar (cb [rm 20 0,
 rk 21 20,rl 22 2 true 21,rf 23 2 3,rl 24 1 false 23,ri 25 (.call kj [.t 22,.t 24]),wd 26 .geq 25 0,
 rm 19 26] true []) (wt 19 (rq [wc 4 7] br) bz))))) (ar (cb [rm 27 0,rk 28 27,rf 29 1 28,rl 30 1 false 29,rm 31 5,rf 32 2 3,
 rl 33 1 false 32,wi 34 5 30 31,rf 35 0 34,ws 1 35 33] true []) (ar (rq [rm 36 0,rk 37 36,rf 38 1 37,rl 39 1 false 38,
 wn 40 39,
 wc 41 0] (dd 1 (ix (rq [wb 42 .lss 41 40] (ar (wt 42 bz (iq 1)) (ar (dd 2 (rq [wi 43 5 39 41,
 rl 44 5 true 43,ri 7 (.alloc [.str ⟨#[]⟩,.int ab 0,.ck,.ck,.ck]),ws 5 7 44] (rq [rf 45 4 7,rl 46 1 false 45,wn 47 46,
 wc 48 0] (dd 3 (ix (rq [wb 49 .lss 48 47] (ar (wt 49 bz (iq 3)) (ar (dd 4 (rq [rm 50 48,
 wi 51 1 46 48,rl 52 1 false 51,rm 8 50,rm 9 52] (rq [rm 53 9,rf 54 1 3,rl 55 1 false 54,
 wb 56 .eql 53 55] (wt 56 (cb [rf 57 4 7,rl 58 1 false 57,rm 59 8,rf 60 2 3,rl 61 1 false 60,wi 62 1 58 59,
 ws 1 62 61] false []) bz)))) (cb [wd 63 .add 48 1,rm 48 63] false []))))))))) (cb [wd 64 .add 41 1,
 rm 41 64] false []))))))) (rq [wc 4 0] br)))))
def qy(j9:Nat):dn:=
 rq [wx 3 9 1,wc 4 0] (ar (cb [rm 9 0,rk 10 9,rl 11 2 true 10,rf 12 1 3,rl 13 1 false 12,ri 14 (.call j9 [.t 11,.t 13]),
 rm 5 14] true []) (ar (dd 0 (rq [rm 16 5,wd 17 .lss 16 0,rm 15 17] (wt 15 (rq [wc 4 4] br) (ar (cb [rm 19 0,
 rk 20 19,rl 21 2 true 20,rf 22 2 3,rl 23 1 false 22,ri 24 (.call j9 [.t 21,.t 23]),wd 25 .geq 24 0,
 rm 18 25] true []) (wt 18 (rq [wc 4 7] br) bz))))) (ar (cb [rm 26 0,rk 27 26,rf 28 0 27,rl 29 1 false 28,rm 30 5,rf 31 2 3,
 rl 32 1 false 31,wi 33 2 29 30,rf 34 0 33,ws 1 34 32] true []) (ar (rq [rm 35 0,rk 36 35,rf 37 1 36,rl 38 1 false 37,
 wn 39 38,
 wc 40 0] (dd 1 (ix (rq [wb 41 .lss 40 39] (ar (wt 41 bz (iq 1)) (ar (dd 2 (rq [wi 42 5 38 40,
 rl 43 5 true 42,ri 7 (.alloc [.str ⟨#[]⟩,.int ab 0,.ck,.ck,.ck]),ws 5 7 43] (rq [rf 44 1 7,rf 45 1 44,rl 46 1 false 45,
 wn 47 46,
 wc 48 0] (dd 3 (ix (rq [wb 49 .lss 48 47] (ar (wt 49 bz (iq 3)) (ar (dd 4 (rq [rm 50 48,
 rm 8 50] (ar (cb [rf 51 1 7,rf 52 1 51,rl 53 1 false 52,rm 54 8,wi 55 3 53 54,rf 56 0 55,rl 57 1 false 56,rf 58 1 3,rl 59 1 false 58,
 wb 60 .eql 57 59] true []) (wt 60 (cb [rf 61 1 7,rf 62 1 61,rl 63 1 false 62,rm 64 8,rf 65 2 3,rl 66 1 false 65,
 wi 67 3 63 64,rf 68 0 67,ws 1 68 66] false []) bz)))) (cb [wd 69 .add 48 1,
 rm 48 69] false []))))))))) (cb [wd 70 .add 40 1,rm 40 70] false []))))))) (rq [wc 4 0] br)))))
def Mf:dn:=
 rq [wo 6] (rq [rm 8 0,rm 9 1,rm 10 2,rm 11 0,wn 12 11,
 ri 13 (.Nx 2 (.t 8) (some (.t 9)) (some (.t 10)) (some (.t 12)))] (ar (rq [rm 14 1,rm 15 2,wb 16 .eql 14 15] (wt 16 (rq [rm 17 0,
 rm 6 17] br) bz)) (rq [rm 18 0,wn 19 18,rm 7 19] (ar (cb [rm 20 0,rm 21 1,ri 22 (.Nx 2 (.t 20) none (some (.t 21)) none),rm 23 0,
 rm 24 2,ri 25 (.Nx 2 (.t 23) (some (.t 24)) none none),ri 26 (.app 2 24 (.t 22) (.t 25)),rm 0 26] true []) (rq [rm 27 0,rm 28 0,wn 29 28,rm 30 7,
 ri 31 (.Nx 2 (.t 27) (some (.t 29)) (some (.t 30)) none),rn (.clr [.str ⟨#[]⟩,.int ab 0] (.t 31))] (rq [ri 32 (.trim (.t 0)),rm 6 32] br))))))
def Mx:dn:=
 rq [wo 6] (rq [rm 8 0,rm 9 1,rm 10 2,rm 11 0,wn 12 11,
 ri 13 (.Nx 5 (.t 8) (some (.t 9)) (some (.t 10)) (some (.t 12)))] (ar (rq [rm 14 1,rm 15 2,wb 16 .eql 14 15] (wt 16 (rq [rm 17 0,
 rm 6 17] br) bz)) (rq [rm 18 0,wn 19 18,rm 7 19] (ar (cb [rm 20 0,rm 21 1,ri 22 (.Nx 5 (.t 20) none (some (.t 21)) none),rm 23 0,
 rm 24 2,ri 25 (.Nx 5 (.t 23) (some (.t 24)) none none),ri 26 (.app 5 96 (.t 22) (.t 25)),rm 0 26] true []) (rq [rm 27 0,rm 28 0,wn 29 28,rm 30 7,
 ri 31 (.Nx 5 (.t 27) (some (.t 29)) (some (.t 30)) none),rn (.clr [.str ⟨#[]⟩,.int ab 0,.ck,.ck,.ck] (.t 31))] (rq [ri 32 (.trim (.t 0)),
 rm 6 32] br))))))
def Mw:dn:=
 rq [wo 6] (rq [rm 8 0,rm 9 1,rm 10 2,rm 11 0,wn 12 11,
 ri 13 (.Nx 2 (.t 8) (some (.t 9)) (some (.t 10)) (some (.t 12)))] (ar (rq [rm 14 1,rm 15 2,wb 16 .eql 14 15] (wt 16 (rq [rm 17 0,
 rm 6 17] br) bz)) (rq [rm 18 0,wn 19 18,rm 7 19] (ar (cb [rm 20 0,rm 21 1,ri 22 (.Nx 2 (.t 20) none (some (.t 21)) none),rm 23 0,
 rm 24 2,ri 25 (.Nx 2 (.t 23) (some (.t 24)) none none),ri 26 (.app 2 48 (.t 22) (.t 25)),rm 0 26] true []) (rq [rm 27 0,rm 28 0,wn 29 28,rm 30 7,
 ri 31 (.Nx 2 (.t 27) (some (.t 29)) (some (.t 30)) none),rn (.clr [.ck,.ck] (.t 31))] (rq [ri 32 (.trim (.t 0)),rm 6 32] br))))))
def ug(nf pj j3 ph j4:Nat):dn:=
 rq [wx 1 2 0,ri 2 (.alloc [.ck,.ck])] (rq [ri 3 (.alloc [.xd]),rn (.store 1 (.t 3) (.c (.oq nf [])))] (rq [rf 4 0 1,rl 5 1 false 4,
 ri 6 (.Mh pj [.t 3]),ri 7 (.qz j3 [.t 5,.t 6])] (rq [rf 8 1 1,rl 9 1 false 8,
 ri 10 (.Mh ph [.t 3]),ri 11 (.qz j4 [.t 9,.t 10])] (rq [rl 12 2 true 1,
 ws 2 2 12] br))))
def Bx:dn:=
 rq [wc 4 0] (ar (dd 0 (rq [rm 6 0,rm 7 1,wb 8 .lss 6 7,rm 5 8] (wt 5 (rq [wc 4 (-1)] br) (rq [rm 10 0,rm 11 1,
 wb 12 .gtr 10 11,rm 9 12] (wt 9 (rq [wc 4 1] br) bz))))) (rq [wc 4 0] br))
def Im:dn:=
 rq [wx 3 2 0,wx 4 2 1,wc 5 0] (rq [rl 6 1 false 2,rf 7 0 3,rl 8 1 false 7,rf 9 0 4,rl 10 1 false 9,
 ri 11 (.xy (.t 6) [.t 8,.t 10]),rm 5 11] br)
def Il:dn:=
 rq [wx 3 5 0,wx 4 5 1,wc 5 0] (rq [rl 6 1 false 2,rf 7 0 3,rl 8 1 false 7,rf 9 0 4,rl 10 1 false 9,
 ri 11 (.xy (.t 6) [.t 8,.t 10]),rm 5 11] br)
def nw(mg:Nat):dn:=
 cb [rm 4 0,rm 5 0,wn 6 5,rm 7 1,ri 8 (.qz mg [.t 4,.t 6,.t 7])] false []
def oi(ml:Nat):dn:=
 cb [rm 4 0,rm 5 0,wn 6 5,rm 7 1,ri 8 (.qz ml [.t 4,.t 6,.t 7])] false []
def H7(jh ic:Nat):dn:=
 rq [wc 6 20] (rq [rm 10 6,wc 7 0,rm 8 10] (ar (dd 0 (ix (ar (rq [rm 11 8,rm 12 1,
 wb 13 .leq 11 12] (wt 13 bz (iq 0))) (dd 1 (rq [rm 14 0,rm 15 7,rm 16 8,rm 17 2,
 ri 18 (.qz jh [.t 14,.t 15,.t 16,.t 17])] (rq [rm 19 8,rm 7 19] (cb [rm 20 8,rm 21 6,
 wb 22 .add 20 21,rm 8 22] false []))))))) (rq [rm 23 0,rm 24 7,rm 25 1,rm 26 2,
 ri 27 (.qz jh [.t 23,.t 24,.t 25,.t 26])] (dd 2 (ix (ar (rq [rm 28 6,rm 29 1,
 wb 30 .lss 28 29] (wt 30 bz (iq 2))) (dd 3 (rq [rm 31 6,ri 32 (.bin .mul (ci 2) (.t 31)),wc 7 0,
 rm 8 32] (ar (dd 4 (ix (ar (rq [rm 33 8,rm 34 1,wb 35 .leq 33 34] (wt 35 bz (iq 4))) (dd 5 (rq [rm 36 0,rm 37 7,rm 38 7,
 rm 39 6,wb 40 .add 38 39,rm 41 8,rm 42 2,ri 43 (.qz ic [.t 36,.t 37,.t 40,.t 41,.t 42])] (rq [rm 44 8,
 rm 7 44] (cb [rm 45 8,rm 46 6,ri 47 (.bin .mul (ci 2) (.t 46)),wb 48 .add 45 47,rm 8 48] false []))))))) (ar (rq [rm 49 7,rm 50 6,
 wb 51 .add 49 50,rm 9 51] (rq [rm 52 9,rm 53 1,wb 54 .lss 52 53] (wt 54 (cb [rm 55 0,rm 56 7,rm 57 9,rm 58 1,rm 59 2,
 ri 60 (.qz ic [.t 55,.t 56,.t 57,.t 58,.t 59])] false []) bz))) (cb [rm 61 6,wd 62 .mul 61 2,
 rm 6 62] false [])))))))))))
def Ho(jo il:Nat):dn:=
 rq [wc 6 20] (rq [rm 10 6,wc 7 0,rm 8 10] (ar (dd 0 (ix (ar (rq [rm 11 8,rm 12 1,
 wb 13 .leq 11 12] (wt 13 bz (iq 0))) (dd 1 (rq [rm 14 0,rm 15 7,rm 16 8,rm 17 2,
 ri 18 (.qz jo [.t 14,.t 15,.t 16,.t 17])] (rq [rm 19 8,rm 7 19] (cb [rm 20 8,rm 21 6,
 wb 22 .add 20 21,rm 8 22] false []))))))) (rq [rm 23 0,rm 24 7,rm 25 1,rm 26 2,
 ri 27 (.qz jo [.t 23,.t 24,.t 25,.t 26])] (dd 2 (ix (ar (rq [rm 28 6,rm 29 1,
 wb 30 .lss 28 29] (wt 30 bz (iq 2))) (dd 3 (rq [rm 31 6,ri 32 (.bin .mul (ci 2) (.t 31)),wc 7 0,
 rm 8 32] (ar (dd 4 (ix (ar (rq [rm 33 8,rm 34 1,wb 35 .leq 33 34] (wt 35 bz (iq 4))) (dd 5 (rq [rm 36 0,rm 37 7,rm 38 7,
 rm 39 6,wb 40 .add 38 39,rm 41 8,rm 42 2,ri 43 (.qz il [.t 36,.t 37,.t 40,.t 41,.t 42])] (rq [rm 44 8,
 rm 7 44] (cb [rm 45 8,rm 46 6,ri 47 (.bin .mul (ci 2) (.t 46)),wb 48 .add 45 47,rm 8 48] false []))))))) (ar (rq [rm 49 7,rm 50 6,
 wb 51 .add 49 50,rm 9 51] (rq [rm 52 9,rm 53 1,wb 54 .lss 52 53] (wt 54 (cb [rm 55 0,rm 56 7,rm 57 9,rm 58 1,rm 59 2,
 ri 60 (.qz il [.t 55,.t 56,.t 57,.t 58,.t 59])] false []) bz))) (cb [rm 61 6,wd 62 .mul 61 2,
 rm 6 62] false [])))))))))))
def Ec:dn:=
 rq [rm 10 1,wd 11 .add 10 1,rm 8 11] (dd 0 (ix (ar (rq [rm 12 8,rm 13 2,
 wb 14 .lss 12 13] (wt 14 bz (iq 0))) (ar (dd 1 (rq [rm 17 8,rm 9 17] (dd 2 (ix (ar (ar (cb [rm 18 9,rm 19 1,
 wb 20 .gtr 18 19,rm 21 20,wm 22 21 true 3,wm 23 21 true 0,wm 24 21 true 9,rg 25 21 true (.xm 2 (.t 23) (.t 24)),
 wl 26 21 true 2 true 25,wm 27 21 true 0,wm 28 21 true 9,rg 29 21 true (.bin .sub (.t 28) (ci 1)),
 rg 30 21 true (.xm 2 (.t 27) (.t 29)),wl 31 21 true 2 true 30,rg 32 21 true (.xy (.t 22) [.t 26,.t 31]),rg 33 21 true (.bin .lss (.t 32) (ci 0)),
 wp 34 21 33] true []) (wt 34 bz (iq 2))) (ar (dd 3 (cb [rm 37 0,rm 38 9,rm 39 0,rm 40 9,
 wd 41 .sub 40 1,rm 42 0,rm 43 9,wd 44 .sub 43 1,wi 45 2 42 44,rl 46 2 true 45,rm 47 0,rm 48 9,
 wi 49 2 47 48,rl 50 2 true 49,wi 51 2 37 38,ws 2 51 46,wi 52 2 39 41,
 ws 2 52 50] true [])) (cb [rm 35 9,wd 36 .sub 35 1,rm 9 36] false []))))))) (cb [rm 15 8,wd 16 .add 15 1,
 rm 8 16] false [])))))
def Ej:dn:=
 rq [rm 10 1,wd 11 .add 10 1,rm 8 11] (dd 0 (ix (ar (rq [rm 12 8,rm 13 2,
 wb 14 .lss 12 13] (wt 14 bz (iq 0))) (ar (dd 1 (rq [rm 17 8,rm 9 17] (dd 2 (ix (ar (ar (cb [rm 18 9,rm 19 1,
 wb 20 .gtr 18 19,rm 21 20,wm 22 21 true 3,wm 23 21 true 0,wm 24 21 true 9,rg 25 21 true (.xm 5 (.t 23) (.t 24)),
 wl 26 21 true 5 true 25,wm 27 21 true 0,wm 28 21 true 9,rg 29 21 true (.bin .sub (.t 28) (ci 1)),
 rg 30 21 true (.xm 5 (.t 27) (.t 29)),wl 31 21 true 5 true 30,rg 32 21 true (.xy (.t 22) [.t 26,.t 31]),rg 33 21 true (.bin .lss (.t 32) (ci 0)),
 wp 34 21 33] true []) (wt 34 bz (iq 2))) (ar (dd 3 (cb [rm 37 0,rm 38 9,rm 39 0,rm 40 9,
 wd 41 .sub 40 1,rm 42 0,rm 43 9,wd 44 .sub 43 1,wi 45 5 42 44,rl 46 5 true 45,rm 47 0,rm 48 9,
 wi 49 5 47 48,rl 50 5 true 49,wi 51 5 37 38,ws 5 51 46,wi 52 5 39 41,
 ws 5 52 50] true [])) (cb [rm 35 9,wd 36 .sub 35 1,rm 9 36] false []))))))) (cb [rm 15 8,wd 16 .add 15 1,
 rm 8 16] false [])))))
def G5(uy ic:Nat):dn:=
 ar (rq [rm 25 2,rm 26 1,wb 27 .sub 25 26,wd 28 .eql 27 1] (wt 28 (rq [rm 29 2,rm 10 29] (rq [rm 30 3,
 rm 11 30] (ar (dd 0 (ix (ar (rq [rm 31 10,rm 32 11,wb 33 .lss 31 32] (wt 33 bz (iq 0))) (dd 1 (rq [rm 34 10,rm 35 11,
 wb 36 .add 34 35,ri 37 (.conv .u64 (.t 36)),ri 38 (.bin .shr (.t 37) (.c (.int .u64 1))),ri 39 (.conv ab (.t 38)),rm 12 39] (ar (cb [rm 40 4,
 rm 41 0,rm 42 12,wi 43 2 41 42,rl 44 2 true 43,rm 45 0,rm 46 1,wi 47 2 45 46,rl 48 2 true 47,ri 49 (.xy (.t 40) [.t 44,.t 48]),
 wd 50 .lss 49 0] true []) (wt 50 (cb [rm 51 12,wd 52 .add 51 1,rm 10 52] false []) (cb [rm 53 12,
 rm 11 53] false [])))))))) (ar (rq [rm 54 1,rm 13 54] (dd 2 (ix (ar (rq [rm 55 13,rm 56 10,wd 57 .sub 56 1,
 wb 58 .lss 55 57] (wt 58 bz (iq 2))) (ar (dd 3 (cb [rm 61 0,rm 62 13,rm 63 0,rm 64 13,wd 65 .add 64 1,
 rm 66 0,rm 67 13,wd 68 .add 67 1,wi 69 2 66 68,rl 70 2 true 69,rm 71 0,rm 72 13,wi 73 2 71 72,rl 74 2 true 73,
 wi 75 2 61 62,ws 2 75 70,wi 76 2 63 65,ws 2 76 74] true [])) (cb [rm 59 13,
 wd 60 .add 59 1,rm 13 60] false [])))))) br)))) bz)) (ar (rq [rm 77 3,rm 78 2,wb 79 .sub 77 78,
 wd 80 .eql 79 1] (wt 80 (rq [rm 81 1,rm 14 81] (rq [rm 82 2,rm 15 82] (ar (dd 4 (ix (ar (rq [rm 83 14,rm 84 15,
 wb 85 .lss 83 84] (wt 85 bz (iq 4))) (dd 5 (rq [rm 86 14,rm 87 15,wb 88 .add 86 87,ri 89 (.conv .u64 (.t 88)),
 ri 90 (.bin .shr (.t 89) (.c (.int .u64 1))),ri 91 (.conv ab (.t 90)),rm 16 91] (ar (cb [rm 92 4,rm 93 0,rm 94 2,wi 95 2 93 94,rl 96 2 true 95,
 rm 97 0,rm 98 16,wi 99 2 97 98,rl 100 2 true 99,ri 101 (.xy (.t 92) [.t 96,.t 100]),wd 102 .lss 101 0,
 ri 103 (.un .not (.t 102))] true []) (wt 103 (cb [rm 104 16,wd 105 .add 104 1,rm 14 105] false []) (cb [rm 106 16,
 rm 15 106] false [])))))))) (ar (rq [rm 107 2,rm 17 107] (dd 6 (ix (ar (rq [rm 108 17,rm 109 14,
 wb 110 .gtr 108 109] (wt 110 bz (iq 6))) (ar (dd 7 (cb [rm 113 0,rm 114 17,rm 115 0,rm 116 17,
 wd 117 .sub 116 1,rm 118 0,rm 119 17,wd 120 .sub 119 1,wi 121 2 118 120,rl 122 2 true 121,rm 123 0,rm 124 17,
 wi 125 2 123 124,rl 126 2 true 125,wi 127 2 113 114,ws 2 127 122,wi 128 2 115 117,
 ws 2 128 126] true [])) (cb [rm 111 17,wd 112 .sub 111 1,rm 17 112] false [])))))) br)))) bz)) (rq [rm 129 1,rm 130 3,
 wb 131 .add 129 130,ri 132 (.conv .u64 (.t 131)),ri 133 (.bin .shr (.t 132) (.c (.int .u64 1))),ri 134 (.conv ab (.t 133)),rm 18 134] (rq [rm 135 18,
 rm 136 2,wb 137 .add 135 136,rm 19 137] (rq [wc 20 0,wc 21 0] (ar (rq [rm 138 2,rm 139 18,
 wb 140 .gtr 138 139] (wt 140 (rq [rm 141 19,rm 142 3,wb 143 .sub 141 142,rm 20 143] (cb [rm 144 18,
 rm 21 144] false [])) (rq [rm 145 1,rm 20 145] (cb [rm 146 2,rm 21 146] false [])))) (rq [rm 147 19,wd 148 .sub 147 1,
 rm 22 148] (ar (dd 8 (ix (ar (rq [rm 149 20,rm 150 21,wb 151 .lss 149 150] (wt 151 bz (iq 8))) (dd 9 (rq [rm 152 20,
 rm 153 21,wb 154 .add 152 153,ri 155 (.conv .u64 (.t 154)),ri 156 (.bin .shr (.t 155) (.c (.int .u64 1))),ri 157 (.conv ab (.t 156)),
 rm 23 157] (ar (cb [rm 158 4,rm 159 0,rm 160 22,rm 161 23,wb 162 .sub 160 161,wi 163 2 159 162,rl 164 2 true 163,rm 165 0,
 rm 166 23,wi 167 2 165 166,rl 168 2 true 167,ri 169 (.xy (.t 158) [.t 164,.t 168]),wd 170 .lss 169 0,
 ri 171 (.un .not (.t 170))] true []) (wt 171 (cb [rm 172 23,wd 173 .add 172 1,rm 20 173] false []) (cb [rm 174 23,
 rm 21 174] false [])))))))) (rq [rm 175 19,rm 176 20,wb 177 .sub 175 176,rm 24 177] (ar (rq [rm 178 20,rm 179 2,wb 180 .lss 178 179,
 rm 181 180,wm 182 181 true 2,wm 183 181 true 24,rg 184 181 true (.bin .lss (.t 182) (.t 183)),
 wp 185 181 184] (wt 185 (cb [rm 186 0,rm 187 20,rm 188 2,rm 189 24,rm 190 4,
 ri 191 (.call uy [.t 186,.t 187,.t 188,.t 189,.t 190])] false []) bz)) (ar (rq [rm 192 1,rm 193 20,
 wb 194 .lss 192 193,rm 195 194,wm 196 195 true 20,wm 197 195 true 18,rg 198 195 true (.bin .lss (.t 196) (.t 197)),
 wp 199 195 198] (wt 199 (cb [rm 200 0,rm 201 1,rm 202 20,rm 203 18,rm 204 4,
 ri 205 (.call ic [.t 200,.t 201,.t 202,.t 203,.t 204])] false []) bz)) (rq [rm 206 18,rm 207 24,
 wb 208 .lss 206 207,rm 209 208,wm 210 209 true 24,wm 211 209 true 3,rg 212 209 true (.bin .lss (.t 210) (.t 211)),
 wp 213 209 212] (wt 213 (cb [rm 214 0,rm 215 18,rm 216 24,rm 217 3,rm 218 4,
 ri 219 (.call ic [.t 214,.t 215,.t 216,.t 217,.t 218])] false []) bz))))))))))))
def Gm(wz il:Nat):dn:=
 ar (rq [rm 25 2,rm 26 1,wb 27 .sub 25 26,wd 28 .eql 27 1] (wt 28 (rq [rm 29 2,rm 10 29] (rq [rm 30 3,
 rm 11 30] (ar (dd 0 (ix (ar (rq [rm 31 10,rm 32 11,wb 33 .lss 31 32] (wt 33 bz (iq 0))) (dd 1 (rq [rm 34 10,rm 35 11,
 wb 36 .add 34 35,ri 37 (.conv .u64 (.t 36)),ri 38 (.bin .shr (.t 37) (.c (.int .u64 1))),ri 39 (.conv ab (.t 38)),rm 12 39] (ar (cb [rm 40 4,
 rm 41 0,rm 42 12,wi 43 5 41 42,rl 44 5 true 43,rm 45 0,rm 46 1,wi 47 5 45 46,rl 48 5 true 47,ri 49 (.xy (.t 40) [.t 44,.t 48]),
 wd 50 .lss 49 0] true []) (wt 50 (cb [rm 51 12,wd 52 .add 51 1,rm 10 52] false []) (cb [rm 53 12,
 rm 11 53] false [])))))))) (ar (rq [rm 54 1,rm 13 54] (dd 2 (ix (ar (rq [rm 55 13,rm 56 10,wd 57 .sub 56 1,
 wb 58 .lss 55 57] (wt 58 bz (iq 2))) (ar (dd 3 (cb [rm 61 0,rm 62 13,rm 63 0,rm 64 13,wd 65 .add 64 1,
 rm 66 0,rm 67 13,wd 68 .add 67 1,wi 69 5 66 68,rl 70 5 true 69,rm 71 0,rm 72 13,wi 73 5 71 72,rl 74 5 true 73,
 wi 75 5 61 62,ws 5 75 70,wi 76 5 63 65,ws 5 76 74] true [])) (cb [rm 59 13,
 wd 60 .add 59 1,rm 13 60] false [])))))) br)))) bz)) (ar (rq [rm 77 3,rm 78 2,wb 79 .sub 77 78,
 wd 80 .eql 79 1] (wt 80 (rq [rm 81 1,rm 14 81] (rq [rm 82 2,rm 15 82] (ar (dd 4 (ix (ar (rq [rm 83 14,rm 84 15,
 wb 85 .lss 83 84] (wt 85 bz (iq 4))) (dd 5 (rq [rm 86 14,rm 87 15,wb 88 .add 86 87,ri 89 (.conv .u64 (.t 88)),
 ri 90 (.bin .shr (.t 89) (.c (.int .u64 1))),ri 91 (.conv ab (.t 90)),rm 16 91] (ar (cb [rm 92 4,rm 93 0,rm 94 2,wi 95 5 93 94,rl 96 5 true 95,
 rm 97 0,rm 98 16,wi 99 5 97 98,rl 100 5 true 99,ri 101 (.xy (.t 92) [.t 96,.t 100]),wd 102 .lss 101 0,
 ri 103 (.un .not (.t 102))] true []) (wt 103 (cb [rm 104 16,wd 105 .add 104 1,rm 14 105] false []) (cb [rm 106 16,
 rm 15 106] false [])))))))) (ar (rq [rm 107 2,rm 17 107] (dd 6 (ix (ar (rq [rm 108 17,rm 109 14,
 wb 110 .gtr 108 109] (wt 110 bz (iq 6))) (ar (dd 7 (cb [rm 113 0,rm 114 17,rm 115 0,rm 116 17,
 wd 117 .sub 116 1,rm 118 0,rm 119 17,wd 120 .sub 119 1,wi 121 5 118 120,rl 122 5 true 121,rm 123 0,rm 124 17,
 wi 125 5 123 124,rl 126 5 true 125,wi 127 5 113 114,ws 5 127 122,wi 128 5 115 117,
 ws 5 128 126] true [])) (cb [rm 111 17,wd 112 .sub 111 1,rm 17 112] false [])))))) br)))) bz)) (rq [rm 129 1,rm 130 3,
 wb 131 .add 129 130,ri 132 (.conv .u64 (.t 131)),ri 133 (.bin .shr (.t 132) (.c (.int .u64 1))),ri 134 (.conv ab (.t 133)),rm 18 134] (rq [rm 135 18,
 rm 136 2,wb 137 .add 135 136,rm 19 137] (rq [wc 20 0,wc 21 0] (ar (rq [rm 138 2,rm 139 18,
 wb 140 .gtr 138 139] (wt 140 (rq [rm 141 19,rm 142 3,wb 143 .sub 141 142,rm 20 143] (cb [rm 144 18,
 rm 21 144] false [])) (rq [rm 145 1,rm 20 145] (cb [rm 146 2,rm 21 146] false [])))) (rq [rm 147 19,wd 148 .sub 147 1,
 rm 22 148] (ar (dd 8 (ix (ar (rq [rm 149 20,rm 150 21,wb 151 .lss 149 150] (wt 151 bz (iq 8))) (dd 9 (rq [rm 152 20,
 rm 153 21,wb 154 .add 152 153,ri 155 (.conv .u64 (.t 154)),ri 156 (.bin .shr (.t 155) (.c (.int .u64 1))),ri 157 (.conv ab (.t 156)),
 rm 23 157] (ar (cb [rm 158 4,rm 159 0,rm 160 22,rm 161 23,wb 162 .sub 160 161,wi 163 5 159 162,rl 164 5 true 163,rm 165 0,
 rm 166 23,wi 167 5 165 166,rl 168 5 true 167,ri 169 (.xy (.t 158) [.t 164,.t 168]),wd 170 .lss 169 0,
 ri 171 (.un .not (.t 170))] true []) (wt 171 (cb [rm 172 23,wd 173 .add 172 1,rm 20 173] false []) (cb [rm 174 23,
 rm 21 174] false [])))))))) (rq [rm 175 19,rm 176 20,wb 177 .sub 175 176,rm 24 177] (ar (rq [rm 178 20,rm 179 2,wb 180 .lss 178 179,
 rm 181 180,wm 182 181 true 2,wm 183 181 true 24,rg 184 181 true (.bin .lss (.t 182) (.t 183)),
 wp 185 181 184] (wt 185 (cb [rm 186 0,rm 187 20,rm 188 2,rm 189 24,rm 190 4,
 ri 191 (.call wz [.t 186,.t 187,.t 188,.t 189,.t 190])] false []) bz)) (ar (rq [rm 192 1,rm 193 20,
 wb 194 .lss 192 193,rm 195 194,wm 196 195 true 20,wm 197 195 true 18,rg 198 195 true (.bin .lss (.t 196) (.t 197)),
 wp 199 195 198] (wt 199 (cb [rm 200 0,rm 201 1,rm 202 20,rm 203 18,rm 204 4,
 ri 205 (.call il [.t 200,.t 201,.t 202,.t 203,.t 204])] false []) bz)) (rq [rm 206 18,rm 207 24,
 wb 208 .lss 206 207,rm 209 208,wm 210 209 true 24,wm 211 209 true 3,rg 212 209 true (.bin .lss (.t 210) (.t 211)),
 wp 213 209 212] (wt 213 (cb [rm 214 0,rm 215 18,rm 216 24,rm 217 3,rm 218 4,
 ri 219 (.call il [.t 214,.t 215,.t 216,.t 217,.t 218])] false []) bz))))))))))))
def Ce(yr lh rh jk:Nat):dn:=
 rq [wx 2 2 0,wx 3 9 1,ri 4 (.alloc [.ck,.ck]),wc 5 0] (ar (ar (cb [rf 8 0 3,rl 9 1 false 8,
 wd 10 .lss 9 0,rm 11 10,rg 12 11 false (.D4 0 (.t 3)),wl 13 11 false 1 false 12,rg 14 11 false (.call yr []),
 rg 15 11 false (.ji (ci 7)),rg 16 11 false (.bin .geq (.t 13) (.t 15)),
 wq 17 11 16] true []) (wt 17 (rq [ri 18 (.build [.ck,.ck] []),ws 2 4 18,
 wc 5 1] br) bz)) (rq [rl 19 2 true 2,ri 20 (.qz lh [.t 19]),ri 6 (.alloc [.ck,.ck]),
 ws 2 6 20] (ar (ar (ar (.freeze) (cb [ri 21 (.call yr []),rf 22 0 3,rl 23 1 false 22,ri 24 (.a2t 7 1 false (.t 21) (.t 23)),
 rl 25 9 true 3,ri 26 (.No (.t 24) [.t 6,.t 25]),rm 7 26] true [])) (rq [rm 27 7,
 wd 28 .neq 27 0] (wt 28 (rq [ri 29 (.build [.ck,.ck] []),rm 30 7,ws 2 4 29,
 rm 5 30] br) bz))) (ar (ar (.freeze) (cb [rl 31 2 true 6,ri 32 (.qz rh [.t 31]),
 ws 2 6 32] false [])) (ar (rq [rl 33 2 true 6,ri 34 (.call jk [.t 33]),
 wd 35 .neq 34 0] (wt 35 (rq [ri 36 (.build [.ck,.ck] []),ws 2 4 36,
 wc 5 230] br) bz)) (rq [rl 37 2 true 6,ws 2 4 37,wc 5 0] br))))))
def Qq(jk lh:Nat):dn:=
 rq [wx 1 2 0,ri 2 (.ji (.c .Wz)),wc 3 0] (ar (rq [rl 4 2 true 1,ri 5 (.call jk [.t 4]),
 wd 6 .neq 5 0] (wt 6 (rq [ri 2 (.ji (.c .Wz)),wc 3 230] br) bz)) (rq [rl 7 2 true 1,
 ri 8 (.call lh [.t 7]),ri 9 (.Hq),ri 10 (.build [.ck,.ck,.ck,.ck,.Ir] [(0,2,.t 8),(4,1,.t 9)]),wx 11 5 10,rm 2 11,
 wc 3 0] br))
def y9(lh:Nat):dn:=
 rq [ri 2 (.alloc [.ck,.ck])] (ar (rq [rm 3 0,ri 4 (.K2 .ptr false (.t 3))] (wt 4 (rq [ri 5 (.build [.ck,.ck] []),
 ws 2 2 5] br) bz)) (rq [rm 6 0,rk 7 6,rf 8 0 7,rl 9 2 true 8,ri 10 (.call lh [.t 9]),ws 2 2 10] br))
def A8(qc sv:Nat):dn:=
 rq [wx 3 9 1,wc 4 0] (ar (rq [rm 7 0,
 ri 8 (.K2 .ptr false (.t 7))] (wt 8 (rq [wc 4 3] br) bz)) (ar (cb [rm 10 0,rk 11 10,rf 12 0 11,rl 13 2 true 12,rl 14 9 true 3,
 ri 15 (.call qc [.t 13,.t 14]),rm 9 15,rx 16 9 0,rx 17 9 1,ri 5 (.A9 2),rn (.init 5 2 (.t 16)),rm 6 17] true []) (ar (rq [rm 18 6,
 wd 19 .eql 18 0] (wt 19 (cb [rm 20 0,rl 21 2 true 5,
 ri 22 (.zg sv [.t 20,.t 21])] false []) bz)) (rq [rm 23 6,rm 4 23] br))))
def Eo(kn:Nat):dn:=
 rq [wc 2 0] (ar (rq [rm 3 0,ri 4 (.K2 .ptr false (.t 3))] (wt 4 (rq [wc 2 3] br) bz)) (ar (cb [rm 5 0,rm 6 0,rk 7 6,
 rf 8 2 7,rm 9 0,rk 10 9,rf 11 3 10,ri 12 (.zg kn [.t 5,.t 8,.t 11]),rm 2 12] true []) br))
def ya(kn:Nat):dn:=
 rq [wc 2 0] (ar (rq [rm 3 0,ri 4 (.K2 .ptr false (.t 3))] (wt 4 (rq [wc 2 3] br) bz)) (ar (cb [rm 5 0,rm 6 0,rk 7 6,
 rf 8 3 7,rm 9 0,rk 10 9,rf 11 2 10,ri 12 (.zg kn [.t 5,.t 8,.t 11]),rm 2 12] true []) br))
def Dt:dn:=
 rq [wc 2 0,wc 3 0] (ar (rq [rm 4 0,ri 5 (.K2 .ptr false (.t 4))] (wt 5 (rq [wc 2 0,
 wc 3 0] br) bz)) (ar (cb [rm 6 0,rk 7 6,rf 8 2 7,rl 9 1 false 8,wn 10 9,rm 11 0,rk 12 11,rf 13 3 12,rl 14 1 false 13,
 wn 15 14,rm 2 10,rm 3 15] true []) br))
def yb(jx:Nat):dn:=
 rq [wc 4 0] (ar (rq [rm 7 0,ri 8 (.K2 .ptr false (.t 7))] (wt 8 (rq [wc 4 3] br) bz)) (rq [rm 10 0,rk 11 10,rf 12 4 11,
 rl 13 1 false 12,rm 14 1,ri 15 (.lookup (.one .str) (.agg [.ck,.ck]) (.t 13) (.t 14) true),rm 9 15,rx 16 9 0,rx 17 9 1,ri 5 (.alloc [.ck,.ck]),
 ws 2 5 16,rm 6 17] (ar (dd 0 (rq [rm 19 1,ri 20 (.call jx [.t 19]),ri 21 (.un .not (.t 20)),
 rm 18 21] (wt 18 (rq [wc 4 240] br) (rq [rm 23 6,rm 24 23,wm 25 24 false 0,rg 26 24 false (.Yn (.t 25)),
 rg 27 24 false (.D4 4 (.t 26)),wl 28 24 false 1 false 27,rg 29 24 false (.len .map (.t 28)),rg 30 24 false (.bin .geq (.t 29) (ci 20)),
 wq 31 24 30,rm 22 31] (wt 22 (rq [wc 4 7] br) bz))))) (ar (cb [rm 32 0,rk 33 32,rf 34 4 33,
 rl 35 1 false 34,rm 36 1,rm 37 0,rk 38 37,rf 39 0 38,rl 40 2 true 39,rn (.X0 (.one .str) (.t 35) (.t 36) (.t 40))] true []) (rq [wc 4 0] br)))))
def zc(qa:Nat):dn:=
 rq [wx 3 2 1] (ar (cb [rm 4 0,rm 5 0,rk 6 5,rf 7 2 6,rl 8 1 false 7,rm 9 0,rk 10 9,rf 11 0 10,rl 12 2 true 11,
 ri 13 (.yy true 1 2 [.ck,.ck] [(0,2,.t 12)]),ri 14 (.app 2 48 (.t 8) (.t 13)),rk 15 4,rf 16 2 15,ws 1 16 14] true []) (ar (rq [rm 17 0,
 rk 18 17,rf 19 2 18,rl 20 1 false 19,wn 21 20,wd 22 .gtr 21 50] (wt 22 (cb [rm 23 0,rm 24 0,rk 25 24,rf 26 2 25,
 rl 27 1 false 26,ri 28 (.zg qa [.t 27,ci 0,ci 1]),rk 29 23,rf 30 2 29,
 ws 1 30 28] false []) bz)) (cb [rm 31 0,rm 32 0,rl 33 2 true 3,rk 34 31,rf 35 0 34,ws 2 35 33,rk 36 32,rf 37 3 36,
 rn (.store 1 (.t 37) (.c .ck))] false [])))
def ll:dn:=
 rq [wc 6 0] (rq [rm 8 1,rk 9 8,rl 10 1 false 9,wn 11 10,rm 7 11] (ar (rq [rm 12 7,
 wd 13 .eql 12 0] (wt 13 (rq [wc 6 7] br) bz)) (ar (cb [rm 14 2,rm 15 2,rk 16 15,rl 17 1 false 16,rm 18 0,rk 19 18,
 rf 20 0 19,rl 21 2 true 20,ri 22 (.yy true 1 2 [.ck,.ck] [(0,2,.t 21)]),ri 23 (.app 2 48 (.t 17) (.t 22)),rk 24 14,
 ws 1 24 23] true []) (ar (cb [rm 25 0,rm 26 1,rm 27 1,rk 28 27,rl 29 1 false 28,rm 30 7,wd 31 .sub 30 1,
 wi 32 2 29 31,rl 33 2 true 32,rm 34 1,rk 35 34,rl 36 1 false 35,rm 37 7,wd 38 .sub 37 1,rm 39 7,wd 40 .sub 39 1,
 ri 41 (.Hx 2 (.t 36) (.t 38) (.t 40)),rk 42 25,rf 43 0 42,ws 2 43 33,rk 44 26,
 ws 1 44 41] true []) (rq [wc 6 0] br)))))
structure Pr4(P:Program)extends Pr3 P where
 yr:Nat
 s9:Nat
 s8:Nat
 s7:Nat
 s6:Nat
 s5:Nat
 nu:Nat
 mu:Nat
 nq:Nat
 oe:Nat
 qa:Nat
 rh:Nat
 nf:Nat
 pj:Nat
 j3:Nat
 ph:Nat
 j4:Nat
 mg:Nat
 ml:Nat
 jh:Nat
 ic:Nat
 jo:Nat
 il:Nat
 uy:Nat
 wz:Nat
 qc:Nat
 Fh:Nat
 ni:Nat
 sg:Nat
 sv:Nat
 um:Nat
 kn:Nat
 qe:Nat
 pt:Nat
 qf:Nat
 a3f:ff P iy {cr:=[5,10]}=some (N9 o6 kh jm fy,[.cell 2 5 true],22)
 Lj:ff P dw {cr:=[17],kp:=[18]}=some (zh,[.tmp 4],22)
 Z0:ff P lh {cr:=[5,8],od:=[1]}=some (Js fk dw iy,[.cell 2 2 true],10)
 a3g:ff P yr {}=some (Na s9 s8 s7 s6 s5 nu mu,[.cell 0 7 true],2)
 Pw:ff P s9 {}=some (te j9,[.tmp 4],23)
 K8:ff P s8 {imm:=[22]}=some (p8 j9,[.tmp 4],26)
 Pv:ff P s7 {ce:=[22]}=some (td j9 nq,[.tmp 4],25)
 K7:ff P s6 {imm:=[32]}=some (rz kj iy,[.tmp 4],36)
 Pu:ff P s5 {ce:=[22]}=some (tc kj oe,[.tmp 4],25)
 Gd:ff P nu {}=some (tx kj,[.tmp 4],65)
 Fp:ff P mu {}=some (qy j9,[.tmp 4],71)
 Mk:ff P nq {kp:=[13,22,25,31,32]}=some (Mf,[.tmp 6],33)
 Nj:ff P oe {kp:=[13,22,25,31,32]}=some (Mx,[.tmp 6],33)
 a30:ff P qa {kp:=[13,22,25,31,32]}=some (Mw,[.tmp 6],33)
 Gt:ff P rh {cr:=[7,11]}=some (ug nf pj j3 ph j4,[.cell 2 2 true],13)
 Xg:ff P nf {}=some (Bx,[.tmp 4],13)
 Xf:ff P pj {}=some (Im,[.tmp 5],12)
 Xe:ff P ph {}=some (Il,[.tmp 5],12)
 Ad:ff P j3 {cr:=[8]}=some (nw mg,[],9)
 Ay:ff P j4 {cr:=[8]}=some (oi ml,[],9)
 Ax:ff P mg {cr:=[18,27,43,60]}=some (H7 jh ic,[],63)
 Bh:ff P ml {cr:=[18,27,43,60]}=some (Ho jo il,[],63)
 xx:ff P jh {}=some (Ec,[],53)
 yd:ff P jo {}=some (Ej,[],53)
 Gc:ff P ic {}=some (G5 uy ic,[],220)
 Gs:ff P il {}=some (Gm wz il,[],220)
 T7:ff P qc {ce:=[26],cr:=[20,32],dyn:=[4,7]}=some (Ce yr lh rh jk,[.cell 4 2 true,.tmp 5],38)
 a9f:ff P Fh {}=some (Qq jk lh,[.tmp 2,.tmp 3],12)
 K9:ff P ni {}=some (y9 lh,[.cell 2 2 true],11)
 Mn:ff P sg {ce:=[22]}=some (A8 qc sv,[.tmp 4],24)
 Sl:ff P um {ce:=[12]}=some (Eo kn,[.tmp 2],13)
 Ka:ff P qe {ce:=[12]}=some (ya kn,[.tmp 2],13)
 Rn:ff P pt {}=some (Dt,[.tmp 2,.tmp 3],16)
 Kb:ff P qf {}=some (yb jx,[.tmp 4],41)
 Kw:ff P sv {imm:=[13],ce:=[28]}=some (zc qa,[],38)
 ye:ff P kn {imm:=[22],cv:=[41]}=some (ll,[.tmp 6],45)
def Qk(Es Fh sg ni um pt qe qf:Nat):dn:=
 rq [wf 0 false] (rq [ri 6 (.call Es []),ri 7 (.zg Fh [.t 6]),rm 5 7,rx 8 5 0,rx 9 5 1,rm 1 8,rm 2 9] (ar (rq [rm 10 2,
 wd 11 .neq 10 0,rm 12 11,wm 13 12 false 1,
 rg 14 12 false (.build [.int ab 0,.str ⟨#[]⟩,.str ⟨#[]⟩,.int ab 0,.str ⟨#[]⟩,.int ab 0,.ck,.ck,.ck] [(1,1,.c (.str ⟨#[119]⟩)),(3,1,ci 5)]),
 rg 15 12 false (.zg sg [.t 13,.t 14]),rg 16 12 false (.bin .neq (.t 15) (ci 0)),wq 17 12 16,rm 18 17,
 wm 19 18 false 1,rg 20 18 false (.Wj ni [.t 19]),rg 21 18 false (.a0t 0 1 false (.t 20)),rg 22 18 false (.xm 2 (.t 21) (ci 0)),
 rg 23 18 false (.D4 1 (.t 22)),wl 24 18 false 1 false 23,rg 25 18 false (.bin .neq (.t 24) (ci 5)),wq 26 18 25,rm 27 26,
 wm 28 27 false 1,rg 29 27 false (.zg um [.t 28]),rg 30 27 false (.bin .neq (.t 29) (ci 0)),
 wq 31 27 30] (wt 31 (rq [wf 0 false] br) bz)) (rq [rm 33 1,
 ri 34 (.call pt [.t 33]),rm 32 34,rx 35 32 0,rx 36 32 1,rm 3 35,rm 4 36] (rq [rm 37 3,wd 38 .eql 37 0,rm 39 38,
 wm 40 39 true 4,rg 41 39 true (.bin .eql (.t 40) (ci 1)),wp 42 39 41,rm 43 42,wm 44 43 true 1,
 rg 45 43 true (.Wj ni [.t 44]),rg 46 43 true (.a0t 0 1 false (.t 45)),rg 47 43 true (.xm 2 (.t 46) (ci 0)),rg 48 43 true (.D4 1 (.t 47)),
 wl 49 43 true 1 false 48,rg 50 43 true (.bin .eql (.t 49) (ci 2)),wp 51 43 50,rm 52 51,wm 53 52 true 1,
 rg 54 52 true (.zg qe [.t 53]),rg 55 52 true (.bin .eql (.t 54) (ci 0)),wp 56 52 55,rm 57 56,
 wm 58 57 true 1,rg 59 57 true (.zg qe [.t 58]),rg 60 57 true (.bin .eql (.t 59) (ci 7)),
 wp 61 57 60,rm 62 61,wm 63 62 true 1,
 rg 64 62 true (.build [.int ab 0,.str ⟨#[]⟩,.str ⟨#[]⟩,.int ab 0,.str ⟨#[]⟩,.int ab 0,.ck,.ck,.ck] [(0,1,ci 4),(1,1,.c (.str ⟨#[97]⟩))]),
 rg 65 62 true (.zg sg [.t 63,.t 64]),rg 66 62 true (.bin .eql (.t 65) (ci 230)),wp 67 62 66,rm 68 67,
 wm 69 68 true 1,rg 70 68 true (.zg qf [.t 69,.c (.str ⟨#[109]⟩)]),rg 71 68 true (.bin .eql (.t 70) (ci 0)),
 wp 72 68 71,rm 73 72,wm 74 73 true 1,rg 75 73 true (.zg qf [.t 74,.c (.str ⟨#[109]⟩)]),
 rg 76 73 true (.bin .eql (.t 75) (ci 7)),wp 77 73 76,rm 0 77] br))))
structure Pr5(P:Program)extends Pr4 P where
 D8:Nat
 a98:ff P D8 {ce:=[7,15,29,54,59,65,70,75],cf:=[20,45]}=some (Qk Es Fh sg ni um pt qe qf,[.tmp 0],78)
def C7:dn:=
 rq [wc 4 0] (rq [rm 8 0,rm 9 1,ri 10 (.lookup (.one .str) (.int ab 0) (.t 8) (.t 9) true),rm 7 10,rx 11 7 0,rx 12 7 1,rm 5 11,rm 6 12] (ar (rq [rm 13 6,
 ri 14 (.un .not (.t 13))] (wt 14 (rq [rm 15 0,ri 16 (.len .map (.t 15)),rm 5 16] (cb [rm 17 0,rm 18 1,rm 19 5,
 rn (.X0 (.one .str) (.t 17) (.t 18) (.t 19))] false [])) bz)) (rq [rm 20 5,rm 4 20] br)))
def Hc(x7:Nat):dn:=
 rq [wx 1 1 0,ri 2 (.alloc [.ck]),wc 3 0] (rq [rl 4 1 true 1,ri 5 (.call x7 [.t 4]),rx 6 5 0,rx 7 5 1,ws 1 2 6,
 rm 3 7] br)
def Em(nr pw qg yn uk vp:Nat):dn:=
 rq [wx 2 2 0,ri 4 (.ji (.c .Ir))] (rq [ri 16 (.Hq),rm 5 16] (ar (rq [rl 17 2 true 2,ri 18 (.call nr [.t 17]),
 wn 19 18,
 wc 20 0] (dd 0 (ix (rq [wb 21 .lss 20 19] (ar (wt 21 bz (iq 0)) (ar (dd 1 (rq [wi 22 1 18 20,
 rl 23 1 false 22,rm 7 23] (rq [rl 24 2 true 2,rm 25 7,ri 26 (.call pw [.t 24,.t 25]),rm 8 26] (ar (cb [rm 28 8,rk 29 28,rf 30 1 29,
 rl 31 3 true 30,rf 32 0 2,rl 33 1 false 32,ri 34 (.call qg [.t 31,.t 33]),rm 27 34,rx 35 27 0,rx 36 27 1,rm 9 35,rm 10 36] true []) (rq [rm 38 8,
 rk 39 38,rf 40 1 39,rf 41 2 40,rl 42 1 true 41,ri 43 (.call yn [.t 42]),rm 37 43,rx 44 37 0,rx 45 37 1,ri 11 (.alloc [.ck]),
 ws 1 11 44,rm 12 45] (rq [wo 13] (ar (rq [rm 46 8,rk 47 46,rf 48 4 47,rl 49 1 false 48,wn 50 49,
 wc 51 0] (dd 2 (ix (rq [wb 52 .lss 51 50] (ar (wt 52 bz (iq 2)) (ar (dd 3 (rq [wi 53 1 49 51,
 rl 54 1 false 53,rm 15 54] (cb [rm 55 13,rm 56 5,rm 57 15,ri 58 (.lookup (.one .str) (.int ab 0) (.t 56) (.t 57) false),
 ri 59 (.yy false 1 1 [.int ab 0] [(0,1,.t 58)]),ri 60 (.app 1 8 (.t 55) (.t 59)),rm 13 60] false []))) (cb [wd 61 .add 51 1,
 rm 51 61] false []))))))) (cb [rm 62 5,rm 63 7,rm 64 1,rm 65 8,rk 66 65,rf 67 1 66,rf 68 0 67,rl 69 1 false 68,rm 70 9,rl 71 1 true 11,rm 72 13,
 ri 73 (.call uk [.t 69,.t 70,.t 71,.t 72]),ri 74 (.zg vp [.t 64,.t 73]),
 rn (.X0 (.one .str) (.t 62) (.t 63) (.t 74))] true [])))))))) (cb [wd 75 .add 20 1,rm 20 75] false []))))))) (rq [rm 76 5,rm 4 76] br)))
def Fk:dn:=
 rq [wx 2 2 0,wo 4] (rq [wo 5] (ar (rq [rf 8 1 2,rl 9 1 false 8,wn 10 9,
 wc 11 0] (dd 0 (ix (rq [wb 12 .lss 11 10] (ar (wt 12 bz (iq 0)) (ar (dd 1 (rq [wi 13 5 9 11,
 rl 14 5 true 13,ri 7 (.alloc [.str ⟨#[]⟩,.int ab 0,.ck,.ck,.ck]),ws 5 7 14] (rq [rm 15 1,rl 16 5 true 7,
 ri 17 (.xy (.t 15) [.t 16])] (wt 17 (cb [rm 18 5,rf 19 0 7,rl 20 1 false 19,ri 21 (.yy false 1 1 [.str ⟨#[]⟩] [(0,1,.t 20)]),
 ri 22 (.app 1 16 (.t 18) (.t 21)),rm 5 22] false []) bz)))) (cb [wd 23 .add 11 1,rm 11 23] false []))))))) (rq [rm 24 5,rm 4 24] br)))
def Aw:dn:=
 rq [wx 3 5 0,wf 4 false] (rq [rl 8 1 false 1,rf 9 0 3,rl 10 1 false 9,ri 11 (.lookup (.one .str) (.int ab 0) (.t 8) (.t 10) true),
 rm 7 11,rx 12 7 0,rx 13 7 1,rm 5 12,rm 6 13] (rq [rm 14 6,ri 15 (.un .not (.t 14)),rm 16 15,wm 17 16 false 5,wl 18 16 false 1 false 2,
 rg 19 16 false (.D4 0 (.t 3)),wl 20 16 false 1 false 19,rg 21 16 false (.lookup (.one .str) (.int ab 0) (.t 18) (.t 20) false),
 rg 22 16 false (.bin .neq (.t 17) (.t 21)),wq 23 16 22,rm 4 23] br))
def Jp(jk ou ym vq:Nat):dn:=
 rq [wx 2 2 0,wx 3 2 1,wo 4,wc 5 0] (ar (rq [rl 12 2 true 2,rl 13 2 true 3,
 ri 14 (.yy false 2 2 [.ck,.ck] [(0,2,.t 12),(2,2,.t 13)]),wn 15 14,
 wc 16 0] (dd 0 (ix (rq [wb 17 .lss 16 15] (ar (wt 17 bz (iq 0)) (ar (dd 1 (rq [wi 18 2 14 16,
 rl 19 2 true 18,ri 7 (.alloc [.ck,.ck]),ws 2 7 19] (rq [rl 20 2 true 7,ri 21 (.call jk [.t 20]),rm 8 21] (rq [rm 22 8,
 wd 23 .neq 22 0] (wt 23 (rq [rm 24 8,wo 4,rm 5 24] br) bz))))) (cb [wd 25 .add 16 1,
 rm 16 25] false []))))))) (rq [ri 26 (.Hq),
 rm 9 26] (ar (.a6m [⟨some 27,.load 2 true (.t 2),none,[]⟩,⟨some 28,.ji (.t 9),none,[]⟩,⟨some 29,.qz ou [.t 27,.t 28],none,[0,1]⟩,⟨some 30,.load 2 true (.t 3),none,[]⟩,⟨some 31,.ji (.t 9),none,[]⟩,⟨some 32,.qz ou [.t 30,.t 31],none,[3,4,2]⟩,⟨some 10,.alloc [.Ir],none,[]⟩,⟨some 11,.alloc [.Ir],none,[]⟩,⟨none,.store 1 (.t 10) (.t 29),none,[6,2,5,0,1,2,6,7]⟩,⟨none,.store 1 (.t 11) (.t 32),none,[7,5,8,0,1,2,3,4,5,6,7,8]⟩]) (rq [rl 33 2 true 3,
 ri 34 (.Mh ym [.t 10,.t 11]),ri 35 (.qz vq [.t 33,.t 34]),rm 4 35,wc 5 0] br))))
def Io(lb lv:Nat):dn:=
 rq [ri 2 (.ji (.c (.str ⟨#[]⟩)))] (ar (rq [rm 3 0,ri 4 (.call lb [.t 3]),
 ri 5 (.un .not (.t 4))] (wt 5 (rq [ri 2 (.ji (.c (.str ⟨#[]⟩)))] br) bz)) (rq [ri 6 (.call lv []),rm 7 0,
 ri 8 (.a2t 14 4 true (.t 6) (.t 7)),ri 9 (.a0t 0 1 false (.t 8)),rm 2 9] br))
def Nb(jk qc:Nat):dn:=
 rq [wx 2 2 0,wx 3 9 1,ri 4 (.alloc [.ck,.ck]),wc 5 0] (ar (rq [rl 6 2 true 2,ri 7 (.call jk [.t 6]),
 wd 8 .neq 7 0] (wt 8 (rq [ri 9 (.build [.ck,.ck] []),ws 2 4 9,wc 5 230] br) bz)) (rq [rl 10 2 true 2,
 rl 11 9 true 3,ri 12 (.call qc [.t 10,.t 11]),rx 13 12 0,rx 14 12 1,ws 2 4 13,rm 5 14] br))
def tv(Fe D9 F8 D8 An yg Gw zq:Nat):dn:=
 rq [wx 3 2 0,wf 6 false] (ar (rq [rl 15 2 true 3,ri 16 (.call Fe [.t 15]),ri 17 (.un .not (.t 16)),rm 18 17,
 wm 19 18 false 1,rg 20 18 false (.len .str (.t 19)),rg 21 18 false (.bin .gtr (.t 20) (ci 100)),wq 22 18 21,rm 23 22,
 wm 24 23 false 2,rg 25 23 false (.len .str (.t 24)),rg 26 23 false (.bin .gtr (.t 25) (ci 100)),wq 27 23 26,rm 28 27,
 wl 29 28 false 2 true 3,rg 30 28 false (.call D9 [.t 29]),rg 31 28 false (.call F8 [.t 30]),rg 32 28 false (.un .not (.t 31)),
 wq 33 28 32] (wt 33 (rq [ri 34 (.call D8 []),rm 6 34] br) bz)) (rq [rl 36 2 true 3,rm 37 1,rm 38 2,
 ri 39 (.build [.int ab 0,.str ⟨#[]⟩,.str ⟨#[]⟩,.int ab 0,.str ⟨#[]⟩,.int ab 0,.ck,.ck,.ck] [(0,1,ci 5),(1,1,.t 37),(2,1,.t 38)]),
 ri 40 (.call An [.t 36,.t 39]),rm 35 40,rx 41 35 0,rx 42 35 1,ri 7 (.alloc [.ck,.ck]),ws 2 7 41,rm 8 42] (ar (rq [rm 43 8,
 wd 44 .eql 43 0] (wt 44 (rq [rl 46 2 true 3,rl 47 2 true 7,ri 48 (.call yg [.t 46,.t 47]),rm 45 48,rx 49 45 0,rx 50 45 1,
 rm 9 49,rm 10 50] (rq [rm 51 10,wd 52 .neq 51 0,rm 53 52,wm 54 53 false 9,wm 55 53 false 2,
 rg 56 53 false (.yy false 1 1 [.str ⟨#[]⟩] [(0,1,.t 55)]),rg 57 53 false (.call Gw [.t 54,.t 56]),rg 58 53 false (.un .not (.t 57)),
 wq 59 53 58] (wt 59 (rq [wf 6 false] br) bz))) bz)) (rq [rl 61 2 true 3,rm 62 1,rm 63 2,
 ri 64 (.build [.int ab 0,.str ⟨#[]⟩,.str ⟨#[]⟩,.int ab 0,.str ⟨#[]⟩,.int ab 0,.ck,.ck,.ck] [(0,1,ci 6),(1,1,.t 62),(2,1,.t 63)]),
 ri 65 (.call An [.t 61,.t 64]),rm 60 65,rx 66 60 0,rx 67 60 1,ri 11 (.alloc [.ck,.ck]),ws 2 11 66,rm 12 67] (ar (rq [rm 68 12,
 wd 69 .eql 68 0] (wt 69 (rq [rl 71 2 true 3,rl 72 2 true 11,ri 73 (.call yg [.t 71,.t 72]),rm 70 73,rx 74 70 0,rx 75 70 1,
 rm 13 74,rm 14 75] (rq [rm 76 14,wd 77 .neq 76 0,rm 78 77,wm 79 78 false 13,rg 80 78 false (.len .gz (.t 79)),
 rg 81 78 false (.bin .neq (.t 80) (ci 0)),
 wq 82 78 81] (wt 82 (rq [wf 6 false] br) bz))) bz)) (rq [ri 83 (.call zq [ci 0]),
 ri 84 (.bin .eql (.t 83) (.c (.str ⟨#[98,111,120]⟩))),rm 85 84,rg 86 85 true (.call D8 []),wp 87 85 86,
 rm 6 87] br))))))
structure Pr6(P:Program)extends Pr5 P where
 vp:Nat
 yn:Nat
 ou:Nat
 uk:Nat
 vq:Nat
 ym:Nat
 yg:Nat
 zq:Nat
 An:Nat
 Mp:Nat
 Tj:ff P vp {}=some (C7,[.tmp 4],21)
 W0:ff P yn {}=some (Hc x7,[.cell 2 1 true,.tmp 3],8)
 Sj:ff P ou {ce:=[74]}=some (Em nr pw qg yn uk vp,[.tmp 4],77)
 Tk:ff P vq {}=some (Fk,[.tmp 4],25)
 Vx:ff P ym {}=some (Aw,[.tmp 4],24)
 Yx:ff P yg {cr:=[29,32,35],ga:=[9]}=some (Jp jk ou ym vq,[.tmp 4,.tmp 5],36)
 Xh:ff P zq {}=some (Io lb lv,[.tmp 2],10)
 a3h:ff P An {}=some (Nb jk qc,[.cell 4 2 true,.tmp 5],15)
 Ug:ff P Mp {}=some (tv Fe D9 F8 D8 An yg Gw zq,[.tmp 6],88)
abbrev Sp:=Int×Int
def yx(p:Sp):D:= .agg [.int ab p.1,.int ab p.2]
def C5(p:Sp):List D:=[.int ab p.1,.int ab p.2]
def dEd(e:Sp×Sp):D:= .agg [.int ab e.1.1,.int ab e.1.2,.int ab e.2.1,.int ab e.2.2]
def Sm(n:Int):Prop:= -10000≤n∧n≤10000
def SmP(p:Sp):Prop:=Sm p.1∧Sm p.2
theorem a8q{x y:Int}(hx: -20000≤x∧x≤20000)(hy: -20000≤y∧y≤20000): -400000000≤x*y∧x*y≤400000000:=by
 have h1:x.natAbs≤20000:=by omega
 have h2:y.natAbs≤20000:=by omega
 have:=aK5 h1 h2;rw[←Int.natAbs_mul]at this;omega
def j7(a b c:Sp):Int:=(b.1-a.1)*(c.2-a.2)-(b.2-a.2)*(c.1-a.1)
def sgn(n:Int):Int:=if n<0 then-1 else if 0<n then 1 else 0
section
variable{P:Program}(A:Pr P)
theorem V5{a b c:Sp}(ha:SmP a)(hb:SmP b)(hc:SmP c):iz P A.o7 [yx a,yx b,yx c] (.int ab (j7 a b c)):=by
 refine ec A.mo A.a96 (by simp) ?_;show kq P Qi (mb _ _) _;obtain⟨⟨a1,a2⟩,a3,a4⟩:=ha;obtain⟨⟨b1,b2⟩,b3,b4⟩:=hb;obtain⟨⟨c1,c2⟩,c3,c4⟩:=hc;have w1:=dh (b.1-a.1) (by omega) (by omega);have w2:=dh (c.2-a.2) (by omega) (by omega);have w3:=dh (b.2-a.2) (by omega) (by omega);have w4:=dh (c.1-a.1) (by omega) (by omega);have m1:=a8q (x:=b.1-a.1) (y:=c.2-a.2) (by omega) (by omega);have m2:=a8q (x:=b.2-a.2) (y:=c.1-a.1) (by omega) (by omega);have w5:=dh ((b.1-a.1)*(c.2-a.2)) (by omega) (by omega);have w6:=dh ((b.2-a.2)*(c.1-a.1)) (by omega) (by omega);have w7:=dh ((b.1-a.1)*(c.2-a.2)-(b.2-a.2)*(c.1-a.1)) (by omega) (by omega);simp only[Qi,yx,go_sem,aa,de,ew,ed,ey,ae,ah,reduceCtorEq,w1,w2,w3,w4,w5,w6,w7,j7]
theorem abl(n:Int):iz P A.B7 [.int ab n] (.int ab (sgn n)):=by
 refine ec A.mo A.acr (by simp) ?_;show kq P Jm (mb _ _) _;by_cases h1:n<0
 ·simp only[Jm,go_sem,aa,cq,reduceCtorEq,h1,sgn]
 by_cases h2:0<n
 ·simp only[Jm,go_sem,aa,cq,reduceCtorEq,h1,h2,sgn]
 simp only[Jm,go_sem,aa,cq,reduceCtorEq,h1,h2,sgn]
theorem awb{a b:Sp}(ha:SmP a)(hb:SmP b):iz P A.x6 [yx a,yx b] (yx (a.1-b.1,a.2-b.2)):=by
 refine ec A.mo A.a92 (by simp) ?_;show kq P Qf (mb _ _) _;obtain⟨⟨a1,a2⟩,a3,a4⟩:=ha;obtain⟨⟨b1,b2⟩,b3,b4⟩:=hb;have w1:=dh (a.1-b.1) (by omega) (by omega);have w2:=dh (a.2-b.2) (by omega) (by omega);simp only[Qf,yx,go_sem,aa,de,ew,ed,ey,ae,ah,reduceCtorEq,w1,w2]
end
def mn(a b:Int):Int:=if b<a then b else a
def mx(a b:Int):Int:=if a<b then b else a
def onB(e:Sp×Sp)(x:Sp):Bool:=j7 e.1 e.2 x==0&&(decide (mn e.1.1 e.2.1≤x.1)&&(decide (x.1≤mx e.1.1 e.2.1)&&(decide (mn e.1.2 e.2.2≤x.2)&&decide (x.2≤mx e.1.2 e.2.2))))
def Nn(e f:Sp×Sp):Bool:=decide (sgn (j7 e.1 e.2 f.1)*sgn (j7 e.1 e.2 f.2)<0)&&decide (sgn (j7 f.1 f.2 e.1)*sgn (j7 f.1 f.2 e.2)<0)
def SmE(e:Sp×Sp):Prop:=SmP e.1∧SmP e.2
theorem azk(n:Int):sgn n= -1∨sgn n=0∨sgn n=1:=by unfold sgn;split<;>(try split)<;>omega
theorem abf(a b:Int): -1≤sgn a*sgn b∧sgn a*sgn b≤1:=by
 rcases azk a with h|h|h<;>rcases azk b with k|k|k<;>simp[h,k]
def clk(u v:Sp):Int:=if u.1*v.2-u.2*v.1<0 then 0 else if 0<u.1*v.2-u.2*v.1 then 2 else if u.1*v.1+u.2*v.2<0 then 1 else 3
def a8g(u x y:Sp):Bool:=if clk u x=clk u y then decide (x.1*y.2-x.2*y.1<0)else decide (clk u x<clk u y)
section
variable{P:Program}(A:Pr P)
theorem aG2{e:Sp×Sp}{x:Sp}(he:SmE e)(hx:SmP x):iz P A.Ll [dEd e,yx x] (.bool (onB e x)):=by
 refine ec A.mo A.ajv (by simp) ?_;show kq P (Wu A.o7) (mb _ _) _;have hc:=V5 A he.1 he.2 hx;simp only[yx]at hc;simp only[Wu,yx,dEd,go_sem,aa,ae,ah];refine Gx hc ?_;unfold onB mn mx;by_cases h1:j7 e.1 e.2 x=0
 ·simp only[go_sem,aa,de,ae,ah,reduceCtorEq,h1,bne_self_eq_false,fg];by_cases h2:(if e.2.1<e.1.1 then e.2.1 else e.1.1)≤x.1
  ·simp only[go_sem,aa,de,ae,ah,reduceCtorEq,h2];by_cases h3:x.1≤(if e.1.1<e.2.1 then e.2.1 else e.1.1)
   ·simp only[go_sem,aa,de,ew,ed,ey,ae,ah,reduceCtorEq,h3];by_cases h4:(if e.2.2<e.1.2 then e.2.2 else e.1.2)≤x.2
    ·simp only[go_sem,aa,de,ew,ed,ey,ae,ah,reduceCtorEq,h4]
    simp only[go_sem,aa,h4,dz]
   simp only[go_sem,aa,h3,dz]
  simp only[go_sem,aa,h2,dz]
 have h1':(j7 e.1 e.2 x==0)=false:=by simpa using h1
 have aHj:(j7 e.1 e.2 x !=0)=true:=by simpa using h1
 simp only[go_sem,aa,reduceCtorEq,h1',aHj,dz]
theorem aia{e f:Sp×Sp}(he:SmE e)(hf:SmE f):iz P A.Bo [dEd e,dEd f] (.bool (Nn e f)):=by
 refine ec A.mo A.a0i (by simp) ?_;show kq P (La A.o7 A.B7) (mb _ _) _;have k1:=V5 A he.1 he.2 hf.1;have k2:=V5 A he.1 he.2 hf.2;have k3:=V5 A hf.1 hf.2 he.1;have k4:=V5 A hf.1 hf.2 he.2;have b1:=abf (j7 e.1 e.2 f.1) (j7 e.1 e.2 f.2);have b2:=abf (j7 f.1 f.2 e.1) (j7 f.1 f.2 e.2);have w1:=dh _ (by omega) (by omega:sgn (j7 e.1 e.2 f.1)*sgn (j7 e.1 e.2 f.2)≤9223372036854775807);have w2:=dh _ (by omega) (by omega:sgn (j7 f.1 f.2 e.1)*sgn (j7 f.1 f.2 e.2)≤9223372036854775807);simp only[yx]at k1 k2 k3 k4;simp only[La,dEd,go_sem,aa,ae,ah];refine Gx k1 ?_;simp only[go_sem,aa];refine ft (abl A _) ?_;simp only[go_sem,aa,ae,ah];refine Gx k2 ?_;simp only[go_sem,aa];refine ft (abl A _) ?_;simp only[go_sem,aa,reduceCtorEq,w1];by_cases h1:sgn (j7 e.1 e.2 f.1)*sgn (j7 e.1 e.2 f.2)<0
 ·simp only[go_sem,aa,ae,ah,h1];refine Gx k3 ?_;simp only[go_sem,aa];refine ft (abl A _) ?_;simp only[go_sem,aa,ae,ah];refine Gx k4 ?_;simp only[go_sem,aa];refine ft (abl A _) ?_;simp only[go_sem,aa,reduceCtorEq,w2,Nn,h1]
 simp only[go_sem,aa,h1,Nn,dz]
end
def a10(s:ByteArray)(i:Nat):Nat:=match s[i]? with|some u=>u.toNat|none=>0
def a0z(i n:Nat):Bool:=(decide (97≤n)&&decide (n≤122))||(decide (i≠0)&&(decide (48≤n)&&decide (n≤57)))
def yc(s:ByteArray):Bool:=decide (1≤s.size)&&(decide (s.size≤20)&&(dt s.size).all fun i=>a0z i (a10 s i))
theorem bp(k:Nat):((k:Int)).toNat=k:=rfl
theorem Vi{k:Nat}(h:k≠0):((k:Int)==0)=false:=by simp;omega
section
variable{P:Program}(A:Pr P)
theorem D3{s:ByteArray}{k:Nat}(hk:k<s.size)(h:a0z k (a10 s k)=false):yc s=false:=by
 unfold yc;rw[aqh,aqh];refine .inr (.inr ?_);rw[a3p];exact⟨k,ez.2 hk,by simp[h]⟩
theorem aa9{s:ByteArray}(h1:1≤s.size)(h2:s.size≤20)(h:∀i,i<s.size→a0z i (a10 s i)=true):yc s=true:=by
 unfold yc;simp only[h1,h2,decide_true,u9];rw[dj];exact fun i hi=>h i (ez.1 hi)
theorem Dc{k n:Nat}(h1:¬(97≤n∧n≤122))(h2:k=0∨n<48∨57<n):a0z k n=false:=by
 unfold a0z;simp only[S0,aqh,decide_eq_false_iff_not];constructor<;>omega
theorem Vh{k n:Nat}(h:(97≤n∧n≤122)∨(k≠0∧48≤n∧n≤57)):a0z k n=true:=by
 unfold a0z;simp only[Nr,da,decide_eq_true_eq];exact h
theorem aic(s:ByteArray):iz P A.tg [.str s] (.bool (yc s)):=by
 refine ec A.mo A.acq (by simp) ?_;show kq P Jl (mb _ _) _;by_cases h1:(s.size:Int)<1
 ·have:yc s=false:=by unfold yc;rw[decide_eq_false (by omega)];rfl
  simp only[Jl,go_sem,aa,reduceCtorEq,h1,this]
 by_cases h2:(20:Int)<s.size
 ·have h2':¬s.size≤20:=by omega
  have:yc s=false:=by unfold yc;simp only[h2',decide_false,dz,qq]
  simp only[Jl,go_sem,aa,reduceCtorEq,h1,h2,this]
 simp only[Jl,go_sem,aa,reduceCtorEq,h1,h2];refine fp s.size (fun k s'=>s'.tmp 0= .d (.str s)∧s'.tmp 3= .d (.int ab k)∧∀i,i<k→a0z i (a10 s i)=true) ?_ ?_
 ·simp[aj]
 rintro k s' hk ⟨e0,e3,ha⟩;by_cases hlt:(k:Int)<s.size
 ·have dq:k<s.size:=by omega
  obtain⟨u,hu⟩:∃u,s[k]? =some u:=⟨s[k],by simp[dq]⟩
  have hc:a10 s k=u.toNat:=by unfold a10;rw[hu]
  have wk:=dh ((k:Int)+1) (by omega) (by omega)
  have nx:∀ok:a0z k (a10 s k)=true,∀i,i<k+1→a0z i (a10 s i)=true:=fun ok i hi=>by
   by_cases e:i=k
   ·subst e;exact ok
   exact ha i (by omega)
  simp only[go_sem,aa,reduceCtorEq,e0,e3,hlt,bp,hu,ao];by_cases q1:(97:Int)≤u.toNat
  ·by_cases q2:(u.toNat:Int)≤122
   ·simp only[go_sem,aa,reduceCtorEq,e0,e3,bp,hu,ao,q1,q2,wk];exact⟨dq,by simp,nx (Vh (by omega))⟩
   simp only[go_sem,aa,reduceCtorEq,e0,e3,bp,hu,ao,q1,q2];by_cases q3:k=0
   ·subst q3;simp only[go_sem,aa,a2m,fg];rw[D3 dq (Dc (by omega) (by omega))]
   have q3':=Vi q3
   have q4:¬(u.toNat:Int)<48:=by omega
   have q5:(57:Int)<u.toNat:=by omega
   simp only[go_sem,aa,reduceCtorEq,e0,e3,bp,hu,ao,q3',q4,q5];rw[D3 dq (Dc (by omega) (by omega))]
  simp only[go_sem,aa,reduceCtorEq,e3,q1];by_cases q3:k=0
  ·subst q3;simp only[go_sem,aa,a2m,fg];rw[D3 dq (Dc (by omega) (by omega))]
  have q3':=Vi q3;by_cases q4:(u.toNat:Int)<48
  ·simp only[go_sem,aa,reduceCtorEq,e0,e3,bp,hu,ao,q3',q4];rw[D3 dq (Dc (by omega) (by omega))]
  by_cases q5:(57:Int)<u.toNat
  ·simp only[go_sem,aa,reduceCtorEq,e0,e3,bp,hu,ao,q3',q4,q5];rw[D3 dq (Dc (by omega) (by omega))]
  simp only[go_sem,aa,reduceCtorEq,e0,e3,bp,hu,ao,q3',q4,q5,wk];exact⟨dq,by simp,nx (Vh (by omega))⟩
 simp only[go_sem,aa,reduceCtorEq,e0,e3,hlt];rw[aa9 (by omega) (by omega) fun i hi=>ha i (by omega)]
theorem Y8(s:ByteArray):iz P A.jx [.str s] (.bool (yc s)):=by
 refine ec A.mo A.a0o (by simp) ?_;show kq P Du (mb _ _) _;by_cases h1:(s.size:Int)<1
 ·have:yc s=false:=by unfold yc;rw[decide_eq_false (by omega)];rfl
  simp only[Du,go_sem,aa,reduceCtorEq,h1,this]
 by_cases h2:(20:Int)<s.size
 ·have h2':¬s.size≤20:=by omega
  have:yc s=false:=by unfold yc;simp only[h2',decide_false,dz,qq]
  simp only[Du,go_sem,aa,reduceCtorEq,h1,h2,this]
 simp only[Du,go_sem,aa,reduceCtorEq,h1,h2];refine fp s.size (fun k s'=>s'.tmp 0= .d (.str s)∧s'.tmp 15= .d (.int ab k)∧s'.tmp 14= .d (.int ab s.size)∧∀i,i<k→a0z i (a10 s i)=true) ?_ ?_
 ·simp[aj]
 rintro k s' hk ⟨e0,e15,e14,ha⟩;by_cases hlt:(k:Int)<s.size
 ·have dq:k<s.size:=by omega
  obtain⟨u,hu⟩:∃u,s[k]? =some u:=⟨s[k],by simp[dq]⟩
  have hc:a10 s k=u.toNat:=by unfold a10;rw[hu]
  have wk:=dh ((k:Int)+1) (by omega) (by omega)
  have nx:∀ok:a0z k (a10 s k)=true,∀i,i<k+1→a0z i (a10 s i)=true:=fun ok i hi=>by
   by_cases e:i=k
   ·subst e;exact ok
   exact ha i (by omega)
  have rest:¬(97≤u.toNat∧u.toNat≤122)→∀q:Prop,(k=0→q)→(k≠0→(u.toNat:Int)<48→q)→(k≠0→¬(u.toNat:Int)<48→(57:Int)<u.toNat→q)→(k≠0→¬(u.toNat:Int)<48→¬(57:Int)<u.toNat→q)→q:=fun _ q a b c d=>by
   by_cases q3:k=0
   ·exact a q3
   by_cases q4:(u.toNat:Int)<48
   ·exact b q3 q4
   by_cases q5:(57:Int)<u.toNat
   ·exact c q3 q4 q5
   exact d q3 q4 q5
  simp only[go_sem,aa,reduceCtorEq,e0,e14,e15,hlt,bp,hu,ao];by_cases q1:(u.toNat:Int)<97
  ·simp only[go_sem,aa,reduceCtorEq,q1];refine rest (by omega) _ (fun q3=>?_) (fun q3 q4=>?_) (fun q3 q4 q5=>?_) (fun q3 q4 q5=>?_)
   ·subst q3;simp only[go_sem,aa,a2m,fg];rw[D3 dq (Dc (by omega) (by omega))]
   ·simp only[go_sem,aa,reduceCtorEq,Vi q3,q4];rw[D3 dq (Dc (by omega) (by omega))]
   ·simp only[go_sem,aa,reduceCtorEq,Vi q3,q4,q5];rw[D3 dq (Dc (by omega) (by omega))]
   simp only[go_sem,aa,reduceCtorEq,e0,e14,e15,Vi q3,q4,q5,wk];exact⟨dq,by simp,nx (Vh (by omega))⟩
  by_cases q2:(122:Int)<u.toNat
  ·simp only[go_sem,aa,reduceCtorEq,q1,q2];refine rest (by omega) _ (fun q3=>?_) (fun q3 q4=>?_) (fun q3 q4 q5=>?_) (fun q3 q4 q5=>?_)
   ·subst q3;simp only[go_sem,aa,a2m,fg];rw[D3 dq (Dc (by omega) (by omega))]
   ·omega
   ·simp only[go_sem,aa,reduceCtorEq,Vi q3,q4,q5];rw[D3 dq (Dc (by omega) (by omega))]
   omega
  simp only[go_sem,aa,reduceCtorEq,e0,e14,e15,q1,q2,wk];exact⟨dq,by simp,nx (Vh (by omega))⟩
 simp only[go_sem,aa,reduceCtorEq,e14,e15,hlt];rw[aa9 (by omega) (by omega) fun i hi=>ha i (by omega)]
end
structure Pm where
 n:ByteArray
 v:Int
structure Vl where
 n:ByteArray
 t:Int
 a:Int
def ti(p:Pm):List D:=[.str p.n,.int ab p.v]
def Gj(v:Vl):List D:=[.str v.n,.int ab v.t,.int ab v.a]
def jq(l:List Pm):D:= .gz 2 (l.map ti)
def vn(l:List Vl):D:= .gz 3 (l.map Gj)
def Qu(n:Int):Bool:=decide (-1000000≤n)&&decide (n≤1000000)
def isE(s:ByteArray):Bool:=s.toList==(⟨#[]⟩:ByteArray).toList
def strLt(a b:ByteArray):Bool:=amn a.toList b.toList
def L7(v:Vl):Bool:=Qu v.t&&(Qu v.a&&(yc v.n||(isE v.n&&v.t==0)))
def w9(l:List ByteArray)(i:Nat):Bool:=decide (i=0)||match l[i-1]?,l[i]? with|some a,some b=>strLt a b|_,_=>false
def a8n(l:List Pm)(i:Nat):Bool:=match l[i]? with|some p=>yc p.n&&(Qu p.v&&w9 (l.map Pm.n) i)|none=>false
def xt(l:List Pm):Bool:=decide (l.length≤20)&&(dt l.length).all (a8n l)
theorem all_false{f:Nat→Bool}{n k:Nat}(hk:k<n)(h:f k=false):(dt n).all f=false:=by
 rw[a3p];exact⟨k,ez.2 hk,by simp[h]⟩
theorem all_true{f:Nat→Bool}{n:Nat}(h:∀i,i<n→f i=true):(dt n).all f=true:=by
 rw[dj];exact fun i hi=>h i (ez.1 hi)
theorem qw{p:Nat→Prop}{k:Nat}(h:∀i,i<k→p i)(hk:p k):∀i,i<k+1→p i:=fun i hi=>by
 by_cases e:i=k
 ·subst e;exact hk
 exact h i (by omega)
theorem J6{k:Nat}(h:0<(k:Int)):((k:Int)-1).toNat=k-1:=by omega
section
variable{P:Program}(A:Pr P)
theorem a4s(n:Int):iz P A.tz [.int ab n] (.bool (Qu n)):=by
 refine ec A.mo A.a6c (by simp) ?_;show kq P Jk (mb _ _) _;by_cases h1: -1000000≤n
 ·simp only[Jk,go_sem,aa,cq,reduceCtorEq,Qu,h1]
 simp only[Jk,go_sem,aa,cq,reduceCtorEq,Qu,h1,dz]
theorem a4q(n:Int):iz P A.rj [.int ab n] (.bool (Qu n)):=by
 refine ec A.mo A.a0n (by simp) ?_;show kq P Gp (mb _ _) _;by_cases h1: -1000000≤n
 ·simp only[Gp,go_sem,aa,cq,reduceCtorEq,Qu,h1]
 simp only[Gp,go_sem,aa,cq,reduceCtorEq,Qu,h1,dz]
theorem abp(v:Vl):iz P A.zn [.agg (Gj v)] (.bool (L7 v)):=by
 refine ec A.mo A.Xb (by simp) ?_;show kq P (Ii A.tz A.tg) (mb _ _) _;unfold L7;simp only[Ii,Gj,go_sem,aa,ae,ah];refine ft (a4s A _) ?_;cases h1:Qu v.t
 ·simp only[go_sem,aa,dz]
 simp only[go_sem,aa,ae];refine ft (a4s A _) ?_;cases h2:Qu v.a
 ·simp only[go_sem,aa,dz]
 simp only[go_sem,aa,ae,ah];refine ft (aic A _) ?_;cases h3:yc v.n
 ·cases h4:isE v.n
  ·simp only[isE]at h4;simp only[go_sem,aa,ae,ah,h4,dz,W6]
  simp only[isE]at h4;simp only[go_sem,aa,ae,ah,reduceCtorEq,h4,Q2]
 simp only[go_sem,aa,M6]
theorem W9(l:List Pm):iz P A.pv [jq l] (.bool (xt l)):=by
 refine ec A.mo A.Vv (by simp) ?_;show kq P (Dk A.tg A.tz) (mb _ _) _;unfold xt;by_cases h1:(20:Int)<l.length
 ·have h1':¬l.length≤20:=by omega
  simp only[Dk,jq,go_sem,aa,reduceCtorEq,ag,h1,h1',dz]
 have h1':l.length≤20:=by omega
 simp only[Dk,jq,go_sem,aa,reduceCtorEq,ag,h1,h1'];refine fp l.length (fun k s'=>s'.tmp 0= .d (.gz 2 (l.map ti))∧s'.tmp 3= .d (.int ab k)∧∀i,i<k→a8n l i=true) ?_ ?_
 ·simp[aj]
 rintro k s' hk ⟨e0,e3,ha⟩;by_cases hlt:(k:Int)<l.length
 ·have dq:k<l.length:=by omega
  have hg:(l.map ti)[k]? =some [.str l[k].n,.int ab l[k].v]:=by simp[dq,ti]
  have wk:=dh ((k:Int)+1) (by omega) (by omega)
  have hp:a8n l k=(yc l[k].n&&(Qu l[k].v&&w9 (l.map Pm.n) k)):=by unfold a8n;simp[dq]
  simp only[go_sem,aa,ae,ah,reduceCtorEq,e0,e3,ag,hlt,bp,hg,ao];refine ft (aic A _) ?_;cases q1:yc l[k].n
  ·simp only[go_sem,aa];rw[all_false dq (by rw[hp,q1];rfl)]
  simp only[go_sem,aa,ae,reduceCtorEq,e0,e3,hg,ao,bp];refine ft (a4s A _) ?_;cases q2:Qu l[k].v
  ·simp only[go_sem,aa];rw[all_false dq (by rw[hp,q1,q2];rfl)]
  by_cases q3:(0:Int)<k
  ·have hg':(l.map ti)[k-1]? =some [.str l[k-1].n,.int ab l[k-1].v]:=by
    have:k-1<l.length:=by omega
    simp[this,ti]
   have w1:=dh ((k:Int)-1) (by omega) (by omega)
   have z:(0:Int)≤(k:Int)-1:=by omega
   have hr:w9 (l.map Pm.n) k=strLt l[k-1].n l[k].n:=by
    unfold w9
    have h0:k≠0:=by omega
    have:k-1<l.length:=by omega
    simp[h0,this,dq]
   cases q4:strLt l[k-1].n l[k].n
   ·have q4':=q4;unfold strLt at q4';simp only[go_sem,aa,ae,ah,reduceCtorEq,e0,e3,q3,w1,J6 q3,hg',hg,z,bp,ao,q4'];rw[all_false dq (by rw[hp,q1,q2,hr,q4];rfl)]
   have q4':=q4;unfold strLt at q4';simp only[go_sem,aa,ae,ah,reduceCtorEq,e0,e3,q3,w1,J6 q3,hg',hg,z,bp,ao,q4',wk];exact⟨dq,by simp,qw ha (by rw[hp,q1,q2,hr,q4];rfl)⟩
  simp only[go_sem,aa,reduceCtorEq,e0,e3,q3,wk];exact⟨dq,by simp,qw ha (by rw[hp,q1,q2];unfold w9;simp;omega)⟩
 simp only[go_sem,aa,reduceCtorEq,e0,e3,ag,hlt];rw[all_true fun i hi=>ha i (by omega)]
end
theorem iz.w0{P:Program}{f sz:Nat}{as:List D}{r:D}(h:iz P f (.gz sz []::as) r):iz P f (.ck::as) r:=by
 refine⟨h.1,fun G w vs hG hl hr=>h.2 G w vs hG hl fun i x v hx hv=>?_⟩
 cases i with
 |zero=>
  simp only[dv,ak]at hx;subst hx;exact Lh G v (hr 0 .ck v rfl hv)
 |succ i=>exact hr (i+1) x v hx hv
theorem iz.w1{P:Program}{f sz:Nat}{a:D}{as:List D}{r:D}(h:iz P f (a:: .gz sz []::as) r):iz P f (a:: .ck::as) r:=by
 refine⟨h.1,fun G w vs hG hl hr=>h.2 G w vs hG hl fun i x v hx hv=>?_⟩
 match i with
 |0=>exact hr 0 x v hx hv
 |1=>
  simp only[i7,dv,ak]at hx;subst hx;exact Lh G v (hr 1 .ck v rfl hv)
 |i+2=>exact hr (i+2) x v hx hv
def afx(k:Nat):ByteArray:=[(⟨#[98,111,120]⟩:ByteArray),⟨#[112,114,105,115,109]⟩,⟨#[115,108,97,110,116]⟩,⟨#[112,121,114,97,109,105,100]⟩,⟨#[117,110,105,111,110]⟩,⟨#[105,110,116,101,114,115,101,99,116]⟩,⟨#[115,117,98,116,114,97,99,116]⟩,⟨#[99,108,105,112]⟩,⟨#[115,104,105,102,116]⟩,⟨#[115,121,109,109,101,116,114,121]⟩,⟨#[115,99,97,108,101]⟩,⟨#[115,117,109]⟩,⟨#[99,111,114,101]⟩,⟨#[114,101,112,101,97,116]⟩].getD k ⟨#[]⟩
def Is(k:Nat):Int:=([6,2,4,4,0,0,0,4,3,1,2,6,6,4]:List Int).getD k 0
def kIn(k:Nat):Int:=([0,0,0,0,2,2,2,1,1,1,1,1,1,1]:List Int).getD k 0
def ss(s:ByteArray):List D:=[.str s]
def ng(l:List ByteArray):D:= .gz 1 (l.map ss)
def kz(a b:ByteArray):Bool:=a.toList==b.toList
def hasB(l:List ByteArray)(s:ByteArray):Bool:=l.any fun x=>kz x s
section
variable{P:Program}(A:Pr P)
theorem ali:iz P A.D6 [] (.gz 1 ((dt 14).map fun k=>[.str (afx k)])):=by
 refine ec A.mo A.a8x (by simp) ?_;show kq P Qc (mb _ _) _;simp only[Qc,go_sem,ae,ah,reduceCtorEq,di];rfl
theorem aoq{k:Nat}(h:k<14):((dt 14).map fun k=>[D.str (afx k)])[k]? =some [.str (afx k)]:=by
 rw[cy,Mt h];rfl
theorem aid(k:Int):iz P A.Bn [.int ab k] (.str (if 0≤k∧k<14 then afx k.toNat else⟨#[]⟩)):=by
 refine ec A.mo A.a0h (by simp) ?_;show kq P (Gn A.D6) (mb _ _) _;by_cases h1:k<0
 ·have h1':¬0≤k:=by omega
  simp only[Gn,go_sem,aa,reduceCtorEq,h1,h1',false_and]
 have h1':0≤k:=by omega
 simp only[Gn,go_sem,aa,reduceCtorEq,h1,h1'];refine Eu (ali A) ?_;by_cases h2:(14:Int)≤k
 ·have h2':¬k<14:=by omega
  simp only[Tx,ae2,ae3,abr,M9,ae9,ad3,Tz,a05,asc,aj0,asg,afl,Z5,F1,agr,aEy,aj,PS.uu,aa,i7,jy.p9,mc.app,PS.put,mc.tj,aLg,P0,adm,a9i,a1r,Yc,ain,Ye,aD4,or_true,reduceCtorEq,decide_true,ge_iff_le,cz,bn,eq_self,ag,aFt,h2,h2']
 have h2':k<14:=by omega
 simp only[aey,Tx,ae2,ae4,M9,Tz,a05,aj0,asg,afl,asl,Z5,F1,agr,aj,PS.uu,aa,i7,jy.p9,aLy,mc.app,PS.put,mc.tj,aLg,P0,adm,a9i,a1r,aD4,or_true,reduceCtorEq,decide_false,ge_iff_le,cz,bn,eq_self,ag,aFt,h2,h2'];refine Eu (ali A) ?_;simp only[abr,M9,ad3,Tz,asc,ash,asf,Z5,agr,aj,aa,dv,i7,Gz,PS.put,C4,Ke,aLq,aLs,mkd,Yc,ain,Ye,gd,and_self,ay,aJw,reduceCtorEq,cz,bn,eq_self,h1',aoq (show k.toNat<14 by omega)]
theorem ajd{k:Nat}(h:k<14):([[D.int ab 6],[D.int ab 2],[D.int ab 4],[D.int ab 4],[D.int ab 0],[D.int ab 0],[D.int ab 0],[D.int ab 4],[D.int ab 3],[D.int ab 1],[D.int ab 2],[D.int ab 6],[D.int ab 6],[D.int ab 4]]:List (List D))[k]? =some [.int ab (Is k)]:=by
 match k,h with
 |0,_|1,_|2,_|3,_|4,_|5,_|6,_|7,_|8,_|9,_|10,_|11,_|12,_|13,_=>rfl
 |n+14,h=>omega
theorem ark{k:Nat}(h:k<14):iz P A.Dz [.int ab k] (.int ab (Is k)):=by
 refine ec A.mo A.a6e (by simp) ?_;show kq P Oi (mb _ _) _
 have h':(k:Int)<14:=by omega
 simp only[Oi,go_sem,aa,ae,ah,reduceCtorEq,di,bp,ao,h',ajd h]
theorem axv{k:Nat}(h:k<14):([[D.int ab 0],[D.int ab 0],[D.int ab 0],[D.int ab 0],[D.int ab 2],[D.int ab 2],[D.int ab 2],[D.int ab 1],[D.int ab 1],[D.int ab 1],[D.int ab 1],[D.int ab 1],[D.int ab 1],[D.int ab 1]]:List (List D))[k]? =some [.int ab (kIn k)]:=by
 match k,h with
 |0,_|1,_|2,_|3,_|4,_|5,_|6,_|7,_|8,_|9,_|10,_|11,_|12,_|13,_=>rfl
 |n+14,h=>omega
theorem aer{k:Nat}(h:k<14):iz P A.Dy [.int ab k] (.int ab (kIn k)):=by
 refine ec A.mo A.a6d (by simp) ?_;show kq P Oh (mb _ _) _
 have h':(k:Int)<14:=by omega
 simp only[Oh,go_sem,aa,ae,ah,reduceCtorEq,di,bp,ao,h',axv h]
end
def xf(l:List Sp):D:= .gz 2 (l.map C5)
def ku(ls:List (List Sp)):D:= .gz 1 (ls.map fun l=>[xf l])
def Dj(e:Sp×Sp):List D:=[.int ab e.1.1,.int ab e.1.2,.int ab e.2.1,.int ab e.2.2]
def Rt(l:List (Sp×Sp)):D:= .gz 4 (l.map Dj)
def B8(l:List Sp)(k:Nat):Sp×Sp:=(l.getD k (0,0),l.getD ((k+1)%l.length) (0,0))
def jg(l:List Sp):List (Sp×Sp):=(dt l.length).map (B8 l)
def ig(ls:List (List Sp)):List (Sp×Sp):=ls.flatMap jg
theorem xl(l:List Sp):(jg l).length=l.length:=by simp[jg]
theorem Ov{l:List Sp}{k:Nat}(h:k<l.length):(jg l).take (k+1)=(jg l).take k++[B8 l k]:=by
 rw[gl,jg];simp[h]
theorem Xj{ls:List (List Sp)}{i:Nat}(h:i<ls.length):ig (ls.take (i+1))=ig (ls.take i)++jg ls[i]:=by
 unfold ig;rw[gl,ahm];simp[h]
theorem M0{ls:List (List Sp)}{i k:Nat}(h:i<ls.length)(hk:k≤ls[i].length):(ig (ls.take i)++(jg ls[i]).take k).length≤(ig ls).length:=by
 have e:ig ls=ig (ls.take (i+1))++ig (ls.drop (i+1)):=by
  unfold ig;rw[←ahm,Kx]
 rw[e,Xj h];simp only[db,er];omega
theorem Zs{k n:Nat}:((k:Int)+1).tmod n=(((k+1)%n:Nat):Int):=by
 rw[aD3 (by omega)];exact(Int.natCast_emod (k+1) n).symm
theorem Dl{l:List Sp}{k:Nat}(h:k<l.length):(l.map C5)[k]? =some [.int ab (l.getD k (0,0)).1,.int ab (l.getD k (0,0)).2]:=by
 simp[h,C5,cw]
theorem Fu{ls:List (List Sp)}{i:Nat}(h:i<ls.length):(ls.map fun l=>[xf l])[i]? =some [.gz 2 (ls[i].map C5)]:=by
 simp[h,xf]
section
variable{P:Program}(A:Pr P)
theorem awm(ls:List (List Sp))(h1:ls.length≤2^30)(h2:(ig ls).length≤2^30):iz P A.D7 [ku ls] (Rt (ig ls)):=by
 have main:iz P A.D7 [ku ls] (if(ig ls).map Dj=[]then .ck else .gz 4 ((ig ls).map Dj)):=by
  refine ec A.mo A.a95 (by simp) ?_;show kq P Qh (mb _ _) _;simp only[Qh,ku,go_sem];refine fp ls.length (fun i s'=>s'.tmp 0= .d (.gz 1 (ls.map fun l=>[xf l]))∧s'.tmp 4= .d (.int ab i)∧s'.base=0∧x9 s' 45 4 ((ig (ls.take i)).map Dj) (s'.tmp 3)) ?_ ?_
  ·refine⟨by simp[aj],by simp[aj],rfl,?_⟩;simp only[aj,reduceIte,aa];exact x9.nil
  rintro i s' hi ⟨e0,e4,eb,acc⟩;by_cases hlt:(i:Int)<ls.length
  ·have dq:i<ls.length:=by omega
   have wi:=dh ((i:Int)+1) (by omega) (by omega);have hgi:=Fu dq;simp only[go_sem,aa,reduceCtorEq,e0,e4,ag,hlt];refine fp ls[i].length (fun k s'=>s'.tmp 0= .d (.gz 1 (ls.map fun l=>[xf l]))∧s'.tmp 4= .d (.int ab i)∧s'.tmp 5= .d (.int ab k)∧s'.base=0∧x9 s' 45 4 ((ig (ls.take i)++(jg ls[i]).take k).map Dj) (s'.tmp 3)) ?_ ?_
   ·refine⟨by simp[aj,e0],by simp[aj,e4],by simp[aj],eb,?_⟩;simp only[aj,reduceIte,aa,M5,sr];exact acc.mono rfl rfl
   rintro k s' hk ⟨e0,e4,e5,eb,acc⟩;by_cases Hf:(k:Int)<ls[i].length
   ·have rb:k<ls[i].length:=by omega
    have hle:=M0 dq (aKq rb)
    have hl1:ls[i].length≤2^30:=by
     have:=M0 dq (ay ls[i].length);simp only[db,er,xl]at this;omega
    have wk:=dh ((k:Int)+1) (by omega) (by omega);have hm:(k+1)%ls[i].length<ls[i].length:=a8a _ (by omega)
    have hm':(((k+1)%ls[i].length:Nat):Int)<ls[i].length:=by omega
    have hne:¬((ls[i].length:Nat):Int)=0:=by omega
    simp only[go_sem,aa,ae,ah,reduceCtorEq,di,e0,e4,e5,ag,Hf,bp,ao,hgi,Dl rb,Dl hm,wk,Zs,hne];refine uh (dm:=(ig (ls.take i)++(jg ls[i]).take k).map Dj) (ys:=[Dj (B8 ls[i] k)]) (osz:=some 4) ?_ ?_ rfl (by simp[Dj,D.one]) ?_ (by simp) ?_
    ·simp only[go_sem,aa,eb];exact acc.mono (by simp[aj]) (by simp[aj])
    ·simp only[go_sem,aa,eb,qh];rfl
    ·simp only[ag,cj,du];omega
    intro s2 g;simp only[go_sem,aa,reduceCtorEq,g.tmp,e5,wk];refine⟨rb,by simp[e0],by simp[e4],by simp,by rw[g.base];exact eb,?_⟩;have ha:=g.acc (by simp);rw[g.tmp,cu]at ha;rw[Ov rb,←po];simp only[eb,gd,fl,dr,gn]at ha⊢;exact ha.mono rfl rfl
   have hke:k=ls[i].length:=by omega
   simp only[go_sem,aa,reduceCtorEq,e0,e4,e5,ag,Hf,bp,ao,hgi,wi];refine⟨dq,by simp,eb,?_⟩;rw[Xj dq];rw[hke,vl (l:=jg ls[i]) (by rw[xl];exact ay _)]at acc;exact acc.mono rfl rfl
  simp only[go_sem,aa,reduceCtorEq,e0,e4,ag,hlt]
  have:i=ls.length:=by omega
  subst this;rw[eh]at acc;rcases acc with ⟨a1,a2⟩|⟨a1,a2,a3⟩
  ·simp only[go_sem,a1,a2]
  have he:PS.dm s' 45 (s'.av 45)=some (4,(ig ls).map Dj):=by unfold PS.dm;rw[bd rfl,a3]
  rw[al a1,a2];simp only[a3,cz]
 refine main.M8 fun G v hv=>?_;split at hv
 ·rename_i he;unfold Rt;rw[he];exact Lh G v hv
 exact hv
end
end Go.PI
