/- A part of the proof for HistoryParams: PS26 to F6. Printed from longer texts. -/
import Derived.Test.YtjhmidapljifbaaGreatDoorB
import Derived.Scope
import Derived.Deep.LoopGhost
set_option linter.all false
set_option maxHeartbeats 64000000
open Go.PI.di renaming seq→ar,region→bz,block→cn,loop→gz,exit→gn,skip→bn,ret→bo,both→Km
open Array renaming all_eq_true_iff_forall_mem→Ki,getD_eq_getD_getElem?→j8,getElem?_append_left→o7,getElem?_eq_getElem→bd,getElem?_replicate→W4,mapM_eq_mapM_toList→aal,replicate→N3
open Bool renaming and_eq_false_iff→apm,and_eq_true→cj,and_false→qo,and_self→aKb,and_true→Gy,false_and→dz,false_eq_true→fk,false_or→L8,not_eq_true'→pz,not_false→Li,not_true→aF3,or_eq_false_iff→Rc,or_eq_true→N2,or_false→Vj,true_and→uh,true_or→Ho
open Eq renaming refl→fw,trans→er
open Go.Code renaming region→aKg
open Go.Ending renaming returned→ava
open Go.Instr renaming loadAt→aK9,sureAddr→aCc
open Go.IntKind renaming i64→ab
open Go.Op renaming bytesLess→alw
open Go.Region renaming binds→aIw,ready→Hm
open Go.Result renaming andThen_ok→bh
open Go.Sem renaming run_bind→cb,run_map→aKo,run_pure→eh
open Int renaming cast_ofNat_Int→aCb,natCast_nonneg→aq,natCast_zero→a1m,reduceLE→fp,reduceLT→dc,reduceNeg→de,reduceToNat→dv,tmod_eq_emod_of_nonneg→aCa
open List renaming all_cons→Vi,all_eq_false→a2v,all_eq_true→cz,all_nil→aJ5,append_assoc→oq,append_nil→y0,append_of_mem→a7b,cons_append→xz,drop→aL7,drop_zero→aI9,eq_nil_iff_forall_not_mem→av6,eq_nil_of_length_eq_zero→ix,filter_eq_self→a1k,flatMap_append→a1j,flatMap_cons→ad6,flatten_cons→aut,flatten_nil→aI8,getD→cd,getD_cons_zero→azs,getD_eq_getElem?_getD→D2,getElem?_cons_succ→gl,getElem?_cons_zero→dm,getElem?_eq_getElem→ax,getElem?_eq_none→a6z,getElem?_eq_some_iff→aw,getElem?_map→cw,getElem?_range→M5,getElem_mem→cy,length→a3h,length_append→db,length_cons→ca,length_map→ag,length_nil→ed,length_pos_iff→a1i,length_range→aF5,length_take→dw,map_append→fu,map_cons→gf,map_nil→ni,mem_append→jm,mem_cons→dq,mem_filter→C3,mem_iff_getElem→i6,mem_map→iw,mem_of_getElem?→jt,mem_range→ep,mem_singleton→X7,nil_append→N1,pairwise_cons→Ek,range→dn,reduceReplicate→dh,size_toArray→W0,take→aL9,take_add_one→fm,take_append_drop→Gv,take_length→dt,take_of_length_le→tz,take_succ_cons→aJa,take_zero→alz
open Nat renaming add_left_cancel_iff→s7,add_zero→Bw,le_of_lt→aKi,le_refl→ay,le_trans→ie,mod_lt→a73,mul_le_mul→aJj,reduceAdd→ae,reduceEqDiff→aa,reduceLeDiff→ah,reduceMul→ey,zero_add→fj,zero_le→a3g,zero_mul→aly
open Option renaming bind_eq_some_iff→agv,getD_some→j6,map→aKx,map_eq_some_iff→ao,map_some→ir,toList_some→alv
open Option.some renaming injEq→aj
open Prod renaming ext→Q8
open Prod.mk renaming inj→aKh,injEq→br
namespace Go.PI
open Go Go.RowKit
section
variable{P:Program}{B0 nt:Nat}{w0 w w':World}{G0 G G':fy}{s s' s1 s2:PS}{E E':Env}{a:Act}
theorem Ty(ids:List Nat)(s:PS):(s.uu ids).base=s.base:=by
 cases ids with
 |nil=>rfl
 |cons i r=>exact(Fu (i::r) _).1
theorem a47{f:Nat}{args:List V}{iy:List D}{own:Bool}{d:Option Nat}{K K':PS→Prop}(hk:∀s,K s→K' s)(h:F9 P f args iy own d s K):F9 P f args iy own d s K':=by
 obtain⟨ds,r,h1,h2,h3,h4⟩:=h;exact⟨ds,r,h1,h2,h3,hk _ h4⟩
theorem a3z{o:RI}{K K':PS→Prop}(hk:∀s,K s→K' s)(h:Gk P o s K):Gk P o s K':=by
 unfold Gk at h⊢;split
 ·rename_i ho;rw[ho]at h;obtain⟨id,s',h1,h2⟩:=h;exact⟨id,s',h1,hk _ h2⟩
 ·rename_i f args ho;rw[ho]at h;obtain⟨R,h1,h2⟩:=h;exact⟨R,h1,fun m' r hr=>hk _ (h2 m' r hr)⟩
 ·rename_i f args ho;rw[ho]at h;simp only at h⊢;split
  ·rename_i g iy hs;rw[hs]at h;obtain⟨R,h1,h2⟩:=h;exact⟨R,h1,fun m' r hr=>hk _ (h2 m' r hr)⟩
  rename_i Bc;split at h
  ·rename_i g iy hs;exact absurd hs (Bc g iy)
  exact h
 ·rename_i f args ho;rw[ho]at h;obtain⟨m',r,h1,h2⟩:=h;exact⟨m',r,h1,hk _ h2⟩
 ·rename_i f args ho;rw[ho]at h;obtain⟨r,h1,h2⟩:=h;exact⟨r,h1,hk _ h2⟩
 ·rename_i f args ho;rw[ho]at h;simp only at h⊢;split
  ·rename_i g iy hs;rw[hs]at h;obtain⟨m',r,h1,h2⟩:=h;exact⟨m',r,h1,hk _ h2⟩
  rename_i Bc;split at h
  ·rename_i g iy hs;exact absurd hs (Bc g iy)
  exact h
 ·rename_i f args ho;rw[ho]at h;exact a47 hk h
 ·rename_i f args ho;rw[ho]at h;simp only at h⊢;split
  ·rename_i g iy hs;rw[hs]at h;exact a47 hk h
  rename_i Bc;split at h
  ·rename_i g iy hs;exact absurd hs (Bc g iy)
  exact h
 rename_i h0 h1 h2 h3 h4 h5 h6 h7;split at h
 ·rename_i ho;exact absurd ho (h0 _ _ _ _ _ _ _)
 ·rename_i f args ho;exact absurd ho (h1 f args)
 ·rename_i f args ho;exact absurd ho (h2 f args)
 ·rename_i f args ho;exact absurd ho (h3 f args)
 ·rename_i f args ho;exact absurd ho (h4 f args)
 ·rename_i f args ho;exact absurd ho (h5 f args)
 ·rename_i f args ho;exact absurd ho (h6 f args)
 ·rename_i f args ho;exact absurd ho (h7 f args)
 split at h
 ·exact hk _ h
 exact h.elim
theorem a99:∀{l:List RI} {s:PS} {K K':PS→Prop},(∀s,K s→K' s)→l5 P l s K→l5 P l s K':=by
 intro l
 induction l with
 |nil=>intro s K K' hk h;exact hk s h
 |cons o r ih=>
  intro s K K' hk h;rw[B5]at h⊢;split
  ·rename_i hw;rw[hw]at h;exact a3z (fun s=>ih hk) h
  ·rename_i hw;rw[hw]at h;exact ih hk h
  rename_i hw;rw[hw]at h;exact h
theorem Em:∀{c:di} {s:PS} {Q Q':Exit→PS→Prop},(∀e s,Q e s→Q' e s)→ko P c Q s→ko P c Q' s:=by
 intro c
 induction c with
 |skip=>intro s Q Q' hq h;exact hq _ _ h
 |region ops d fz=>intro s Q Q' hq h;exact a99 (hq .normal) h
 |seq x y ihx ihy=>
  intro s Q Q' hq h
  exact ihx (fun e s' h'=>by cases e<;>first|exact ihy hq h'|exact hq _ _ h') h
 |cond c x y ihx ihy=>
  intro s Q Q' hq h;simp only[ko]at h⊢;split at h
  ·split at h
   ·rename_i hx;simp only[hx,dj];exact ihx hq h
   rename_i hx;simp only[hx,fk,ee];exact ihy hq h
  exact h.elim
 |block id c ih=>
  intro s Q Q' hq h;refine ih (fun e s' h'=>?_) h
  cases e with
  |exit i=>
   simp only at h'⊢;split
   ·rename_i hi;rw[bm hi]at h';exact hq _ _ h'
   rename_i hi;rw[al hi]at h';exact hq _ _ h'
  |_=>exact hq _ _ h'
 |loop c ih=>
  intro s Q Q' hq h;obtain⟨I,m,h0,h1⟩:=h
  exact⟨I,m,h0,fun s' hI=>ih (fun e s'' h'=>by cases e<;>first|exact h'|exact hq _ _ h') (h1 s' hI)⟩
 |freeze=>intro s Q Q' hq h;obtain⟨ids,h⟩:=h;exact⟨ids,hq _ _ h⟩
 |a5o l=>intro s Q Q' hq h;obtain⟨I,h0,h1⟩:=h;exact⟨I,h0,fun A s' hI=>⟨fun hA=>hq _ _ ((h1 A s' hI).1 hA),(h1 A s' hI).2⟩⟩
 |both x y ihx ihy=>intro s Q Q' hq h;exact⟨ihx hq h.1,ihy hq h.2⟩
 |exit id=>intro s Q Q' hq h;exact hq _ _ h
 |ret=>intro s Q Q' hq h;exact hq _ _ h
def aup(Q:Exit→PS→Prop):Exit→PS→Prop
 | .goto _,_=>False
 |e,s=>Q e s
theorem ahp:∀{c:di} {s:PS} {Q:Exit→PS→Prop},ko P c Q s→ko P c (aup Q) s:=by
 intro c
 induction c with
 |skip=>intro s Q h;exact h
 |region ops d fz=>intro s Q h;exact h
 |seq x y ihx ihy=>
  intro s Q h;rw[a2w];refine Em (fun e s' h'=>?_) (ihx h)
  cases e<;>first|exact h'.elim|exact ihy h'|exact h'
 |cond c x y ihx ihy=>
  intro s Q h;simp only[ko]at h⊢;split at h
  ·split at h
   ·rename_i hx;simp only[hx,dj];exact ihx h
   rename_i hx;simp only[hx,fk,ee];exact ihy h
  exact h.elim
 |block id c ih=>
  intro s Q h;rw[Zb];refine Em (fun e s' h'=>?_) (ih h)
  cases e with
  |exit i=>
   simp only[aup]at h'⊢;split
   ·rename_i hi;rw[bm hi]at h';exact h'
   rename_i hi;rw[al hi]at h';exact h'
  |goto l=>exact h'.elim
  |_=>exact h'
 |loop c ih=>
  intro s Q h;obtain⟨I,m,h0,h1⟩:=h;refine⟨I,m,h0,fun s' hI=>Em (fun e s'' h'=>?_) (ih (h1 s' hI))⟩
  cases e<;>first|exact h'.elim|exact h'
 |freeze=>intro s Q h;exact h
 |a5o l=>intro s Q h;exact h
 |both x y ihx ihy=>intro s Q h;exact⟨ihx h.1,ihy h.2⟩
 |exit id=>intro s Q h;exact h
 |ret=>intro s Q h;exact h
theorem ab7(hm:P.follows .mixedOrders=true){an:Ann}{id:Nat}{ops:Array Oper}{draw:Bool}{rc:di}(hc:acp P nt an id ops draw=some rc){Q:Exit→PS→Prop}(h:j9 B0 w0 nt G0 s G E a w)(hr:ko P rc Q s):
  (aKg id ops draw).wp P (fun e a w=>L0 B0 nt w0 G0 (Q e) a w) a w:=by
 unfold acp at hc;split at hc
 ·rename_i hd;split at hc
  ·rename_i l hl
   injection hc with hc
   subst hc hd;obtain⟨G1,_,h1⟩:=h.uu (sh s.base ((an.uu.lookup id).getD []));exact abd hl h1 hr (fun _ _ hh=>hh)
  cases hc
 rename_i hd;split at hc
 ·rename_i l hl;split at hc
  ·rename_i hdr
   injection hc with hc
   subst hc
   have hd':draw=true:=by simpa using hd
   subst hd';obtain⟨G1,_,h1⟩:=h.uu (sh s.base ((an.uu.lookup id).getD []));obtain⟨G2,_,h2,_⟩:=h1.ta (sh s.base (pt (l.map (RI.aj3 l))))
   exact aje (acz hl) hdr hm h2 (fun d hd=>by
    rw[U6]
    have hb:PS.base ((s.uu (sh s.base ((an.uu.lookup id).getD []))).ta (sh s.base (pt (l.map (RI.aj3 l)))))=s.base:=by
     rw[(Fu _ _).1,Ty]
    rw[hb];obtain⟨k1,k2⟩:=ard _ (s.uu (sh s.base ((an.uu.lookup id).getD []))) (s.base+d) (.inl (iw.2 ⟨d,hd,rfl⟩))
    exact⟨.inl k1,k2⟩) hr (fun _ _ hh=>hh)
  cases hc
 cases hc
theorem ap8:∀{L:List di} {Q:Exit→PS→Prop} {s:PS},ko P (au7 L) Q s→∀x∈L,ko P x Q s:=by
 intro L
 induction L with
 |nil=>intro Q s _ x hx;simp at hx
 |cons y r ih=>
  intro Q s h x hx
  cases r with
  |nil=>simp only[X7]at hx;subst hx;exact h
  |cons z t=>
   rcases dq.1 hx with rfl|hx
   ·exact h.1
   exact ih h.2 x hx
theorem ah0{an:Ann}{ops:Array Oper}{l:List RI}(hal:Aligned P nt an ops l){Q:Exit→PS→Prop}:
  ∀(fuel:Nat) (A:Array Bool) {rc:di} {s:PS} {G:fy} {E:Env} {a:Act} {w:World},agl ops l fuel A=some rc→j9 B0 w0 nt G0 s G E a w→ko P rc Q s→wpAny P .any ops (fun e a w=>L0 B0 nt w0 G0 (Q e) a w) fuel A a w:=by
 intro fuel
 induction fuel with
 |zero=>
  intro A rc s G E a w hc h hr;simp only[agl]at hc;split at hc
  ·rename_i he
   injection hc with hc
   subst hc;exact⟨he,s,G,E,hr,h⟩
  cases hc
 |succ n ih=>
  intro A rc s G E a w hc h hr;simp only[agl]at hc;split at hc
  ·rename_i he
   injection hc with hc
   subst hc;refine⟨fun _=>⟨s,G,E,hr,h⟩,fun i hi=>?_⟩;rw[he]at hi;simp at hi
  rename_i he;simp only[ao]at hc;obtain⟨L,hL,rfl⟩:=hc;obtain⟨k1,k2⟩:=Y0 hL;refine⟨fun h0=>absurd h0 he,fun i hi=>?_⟩;obtain⟨p,hp,hpi⟩:=i6.1 hi
  have hpL:p<L.length:=by simpa[k1]using hp
  have hk:=k2 p L[p] (ax hpL);rw[cw,ax hp,hpi]at hk;simp only[ir,aj,ao]at hk;obtain⟨t,ht,hLp⟩:=hk;have hr1:=ap8 hr L[p] (cy _);rw[←hLp,a2w]at hr1
  have hlt:i<ops.size:=by
   unfold Hm at hi;simp only[C3,ep]at hi;exact hi.1
  have hil:i<l.length:=by rw[hal.1];exact hlt
  have hg:l.getD i default=l[i]:=by simp[cd,hil]
  have hf:=hal.2 i ops[i] l[i] (bd hlt) (ax hil)
  have hr2:l5 P [l[i]] s (fun s'=>ko P t Q s'):=by rw[←hg];exact hr1
  rw[B5]at hr2;unfold wpOp;rw[bd hlt];simp only
  have rest:∀a w,L0 B0 nt w0 G0 (fun s'=>ko P t Q s') a w→wpAny P .any ops (fun e a w=>L0 B0 nt w0 G0 (Q e) a w) n (A.setIfInBounds i true) a w:=by
   rintro a' w' ⟨s',G',E',hK,h'⟩;exact ih _ ht h' hK
  split at hr2
  ·rename_i hw;rw[C5 h hf hw];exact .inl (Td h hf hr2 rest)
  ·rename_i hw;rw[C5 h hf hw];obtain⟨hd,hd2,_⟩:=hf.spec;refine rest _ _ ⟨_,G,E,hr2,?_⟩;rw[hd];exact h.a7k hd2 Qc
  exact hr2.elim
theorem anp(hm:P.follows .mixedOrders=true){an:Ann}{id:Nat}{ops:Array Oper}{rc:di}(hc:aBt P nt an ops=some rc){Q:Exit→PS→Prop}(h:j9 B0 w0 nt G0 s G E a w)(hr:ko P rc Q s):
  (aKg id ops true).wp P (fun e a w=>L0 B0 nt w0 G0 (Q e) a w) a w:=by
 unfold aBt at hc;split at hc
 ·rename_i l hl;exact wp_region_any hm (ah0 (Vx hl) _ _ hc (w:={w with drawn:=w.drawn+1}) h.drew hr)
 cases hc
theorem aj2{an:Ann}{ops:Array Oper}{l:List RI}(hal:Aligned P nt an ops l)(hlt:∀(i:Nat) (o:RI),l[i]? =some o→∀j∈o.after,j<i){Q:Exit→PS→Prop}{I:(Nat→Bool)→PS→Prop}
  (hI:∀A s',I A s'→((∀i,i<l.length→A i=true)→Q .normal s')∧∀i o,l[i]? =some o→A i=false→(∀j∈o.after,A j=true)→l5 P [o] s' (I (lb A i true))):
  ∀(fuel:Nat) (A:Array Bool) {s:PS} {G:fy} {E:Env} {a:Act} {w:World},A.size=ops.size→(left l.length A).length≤fuel→j9 B0 w0 nt G0 s G E a w→I (fun j=>A.getD j false) s→
  wpAny P .any ops (fun e a w=>L0 B0 nt w0 G0 (Q e) a w) fuel A a w:=by
 have hlen:=hal.1
 have get:∀i,i<l.length→l[i]? =some (l.getD i default):=fun i hi=>by simp[cd,hi]
 have O3:∀i,i<l.length→∃o,ops[i]? =some o∧Fits P nt an ops o (l.getD i default):=fun i hi=>by
  have h1:i<ops.size:=by omega
  exact⟨ops[i],bd h1,hal.2 i _ _ (bd h1) (get i hi)⟩
 have rdy:∀(A:Array Bool) i,i∈Hm .any ops A↔i<l.length∧A.getD i true=false∧∀j∈(l.getD i default).after,A.getD j false=true:=by
  intro A i;unfold Hm;simp only[C3,ep,cj,pz];rw[←hlen];constructor
  ·rintro⟨hi,h1,h2⟩;obtain⟨o,ho,hf⟩:=O3 i hi;refine⟨hi,h1,fun j hj=>?_⟩;rw[ho]at h2;simp only[ir,j6,Ki,N2,pz]at h2;rw[hf.spec.2.2.2]at hj;obtain⟨e,he,rfl⟩:=iw.1 hj;obtain⟨he1,he2⟩:=C3.1 he;rcases h2 e (by simpa using he1)with h3|h3
   ·rw[h3]at he2;cases he2
   exact h3
  rintro⟨hi,h1,h2⟩;obtain⟨o,ho,hf⟩:=O3 i hi;refine⟨hi,h1,?_⟩;rw[ho];simp only[ir,j6,Ki,N2,pz];intro e he;by_cases hb:aIw .any e=true
  ·exact .inr (h2 e.on (by rw[hf.spec.2.2.2];exact iw.2 ⟨e,C3.2 ⟨by simpa using he,hb⟩,rfl⟩))
  exact .inl (by simpa using hb)
 have none:∀A:Array Bool,A.size=ops.size→Hm .any ops A=[]→left l.length A=[]:=by
  intro A hA hr
  cases hL:left l.length A with
  |nil=>rfl
  |cons i r=>
   exfalso;have hi:=(mem_left (n:=l.length) (A:=A) (i:=i)).1 (by rw[hL];simp)
   have:i∈Hm .any ops A:=(rdy A i).2 ⟨hi.1,hi.2,fun j hj=>by
    have hji:=hlt i _ (get i hi.1) j hj
    have aB9:j∉left l.length A:=by
     rw[hL];intro hjm;have hs:=Lu l.length A;rw[hL,Ek]at hs;rcases dq.1 hjm with rfl|hjm
     ·omega
     have:=hs.1 j hjm;omega
    have:A.getD j true≠false:=fun h=>aB9 (mem_left.2 ⟨by omega,h⟩);rw[Tw (by omega) false true]
    simpa using this⟩
   rw[hr]at this;cases this
 have done:∀(A:Array Bool) {s:PS},A.size=ops.size→left l.length A=[]→I (fun j=>A.getD j false) s→Q .normal s:=by
  intro A s hA hL h;refine(hI _ s h).1 fun i hi=>?_
  have:A.getD i true≠false:=fun hh=>by
   have:=(mem_left (n:=l.length) (A:=A) (i:=i)).2 ⟨hi,hh⟩;rw[hL]at this;cases this
  show A.getD i false=true;rw[Tw (by omega) false true];simpa using this
 intro fuel
 induction fuel with
 |zero=>
  intro A s G E a w hA hf h hI0;have hL:left l.length A=[]:=ix (by omega)
  have hr:Hm .any ops A=[]:=by
   apply av6.2;intro i hi;obtain⟨h1,h2,_⟩:=(rdy A i).1 hi;have:i∈left l.length A:=mem_left.2 ⟨h1,h2⟩;rw[hL]at this;cases this
  exact⟨hr,s,G,E,done A hA hL hI0,h⟩
 |succ fuel ih=>
  intro A s G E a w hA hf h hI0;refine⟨fun hr=>⟨s,G,E,done A hA (none A hA hr) hI0,h⟩,fun i hi=>?_⟩;obtain⟨h1,h2,h3⟩:=(rdy A i).1 hi;obtain⟨pre,post,hL⟩:=a7b (mem_left.2 ⟨h1,h2⟩);obtain⟨o,ho,hfi⟩:=O3 i h1;have hr2:=(hI _ s hI0).2 i _ (get i h1) (by show A.getD i false=false;rw[Tw (by omega) false true];exact h2) h3
  have eA:(fun j=>(A.setIfInBounds i true).getD j false)=lb (fun j=>A.getD j false) i true:=by
   funext j
   rw[a5n];unfold lb;by_cases hj:j=i
   ·subst hj;rw[bm ⟨rfl,by omega⟩,bm rfl]
   rw[al (by simp[hj]),al hj]
  have hL':=af2 (by omega) hL
  have rest:∀a w,L0 B0 nt w0 G0 (I (lb (fun j=>A.getD j false) i true)) a w→wpAny P .any ops (fun e a w=>L0 B0 nt w0 G0 (Q e) a w) fuel (A.setIfInBounds i true) a w:=by
   rintro a' w' ⟨s',G',E',hK,h'⟩;exact ih _ (by simpa using hA) (by rw[hL'];rw[hL]at hf;simp at hf⊢;omega) h' (by rw[eA];exact hK)
  rw[B5]at hr2;unfold wpOp;rw[ho];simp only;split at hr2
  ·rename_i hw;rw[C5 h hfi hw];exact .inl (Td h hfi hr2 rest)
  ·rename_i hw;rw[C5 h hfi hw];obtain⟨hd,hd2,_⟩:=hfi.spec;refine rest _ _ ⟨_,G,E,hr2,?_⟩;rw[hd];exact h.a7k hd2 Qc
  exact hr2.elim
theorem afm(hm:P.follows .mixedOrders=true){an:Ann}{id:Nat}{ops:Array Oper}{rc:di}(hc:au5 P nt an ops=some rc){Q:Exit→PS→Prop}(h:j9 B0 w0 nt G0 s G E a w)(hr:ko P rc Q s):
  (aKg id ops true).wp P (fun e a w=>L0 B0 nt w0 G0 (Q e) a w) a w:=by
 unfold au5 at hc;split at hc
 ·rename_i l hl;split at hc
  ·rename_i hlt
   injection hc with hc
   subst hc;obtain⟨I,h0,hI⟩:=hr;have hal:=Vx hl
   have eL:left l.length (N3 ops.size false)=dn l.length:=by
    unfold left;refine a1k.2 fun i hi=>?_;have:=ep.1 hi;rw[j8,W4,bm (by rw[←hal.1];exact this)];rfl
   refine wp_region_any hm (aj2 hal (fun i o ho j hj=>?_) hI _ _ (by simp) (by rw[eL];simp[hal.1]) (w:={w with drawn:=w.drawn+1}) h.drew ?_)
   ·have hi:=(aw.1 ho).1;have:=cz.1 hlt i (ep.2 hi)
    have e:l.getD i default=o:=by simp[cd,ho]
    rw[e]at this;exact of_decide_eq_true (cz.1 this j hj)
   have e:(fun j=>(N3 ops.size false).getD j false)=fun _=>false:=by
    funext j
    rw[j8,W4];split<;>rfl
   rw[e];exact h0
  cases hc
 cases hc
theorem S3(hm:P.follows .mixedOrders=true){an:Ann}:∀(c:Code) {rc:di},comp P nt an c=some rc→∀{Q:Exit→PS→Prop} {s:PS} {G:fy} {E:Env} {a:Act} {w:World},j9 B0 w0 nt G0 s G E a w→ko P rc Q s→
  c.wp P (fun e a w=>L0 B0 nt w0 G0 (Q e) a w) a w:=by
 intro c
 induction c with
 |skip=>intro rc hc Q s G E a w h hr;simp only[comp,aj]at hc;subst hc;exact wp_skip ⟨s,G,E,hr,h⟩
 |label l=>intro rc hc Q s G E a w h hr;simp only[comp,aj]at hc;subst hc;exact wp_label ⟨s,G,E,hr,h⟩
 |exit id=>intro rc hc Q s G E a w h hr;simp only[comp,aj]at hc;subst hc;exact wp_exit ⟨s,G,E,hr,h⟩
 |ret=>intro rc hc Q s G E a w h hr;simp only[comp,aj]at hc;subst hc;exact wp_ret ⟨s,G,E,hr,h⟩
 |region id ops draw=>
  intro rc hc Q s G E a w h hr;simp only[comp,ao]at hc;obtain⟨r,hc,rfl⟩:=hc
  have go:∀{s:PS} {G:fy},j9 B0 w0 nt G0 s G E a w→ko P r Q s→(aKg id ops draw).wp P (fun e a w=>L0 B0 nt w0 G0 (Q e) a w) a w:=by
   intro s G h hr;split at hc
   ·rename_i hcond;rw[hcond.1];exact afm hm hc h hr
   split at hc
   ·rename_i hcond;rw[hcond.1];exact anp hm hc h hr
   exact ab7 hm hc h hr
  split at hr
  ·obtain⟨ids,hr⟩:=hr;obtain⟨G1,_,h1⟩:=h.uu ids;exact go h1 hr
  exact go h hr
 |seq x y ihx ihy=>
  intro rc hc Q s G E a w h hr;simp only[comp]at hc;split at hc
  ·rename_i rx ry hx hy
   injection hc with hc
   subst hc;refine wp_seq (wp_mono (ihx hx h hr) fun e a' w' hg=>?_);obtain⟨s',G',E',hq,h'⟩:=hg
   cases e with
   |normal=>exact ihy hy h' hq
   |_=>exact⟨s',G',E',hq,h'⟩
  cases hc
 |cond c x y ihx ihy=>
  intro rc hc Q s G E a w h hr;simp only[comp]at hc;split at hc
  ·rename_i oc rx ry ho hx hy
   injection hc with hc
   subst hc;have hv:=h.ev ho;simp only[ko]at hr;split at hr
   ·rename_i b hb;rw[hb]at hv
    have he:a.eval c= .bool b:=by
     generalize a.eval c=v at hv;cases hv;rfl
    refine wp_cond he ?_
    cases b with
    |true=>exact ihx hx h (by simpa using hr)
    |false=>exact ihy hy h (by simpa using hr)
   exact hr.elim
  cases hc
 |block id c ih=>
  intro rc hc Q s G E a w h hr;simp only[comp,ao]at hc;obtain⟨r,hc,rfl⟩:=hc;refine wp_block (wp_mono (ih hc h hr) fun e a' w' hg=>?_);obtain⟨s',G',E',hq,h'⟩:=hg
  cases e with
  |exit i=>
   simp only[Exit.inBlock]at hq⊢;split
   ·rename_i hi;rw[bm hi]at hq;exact⟨s',G',E',hq,h'⟩
   rename_i hi;rw[al hi]at hq;exact⟨s',G',E',hq,h'⟩
  |_=>exact⟨s',G',E',hq,h'⟩
 |loop c ih=>
  intro rc hc Q s G E a w h hr;simp only[comp,ao]at hc;obtain⟨r,hc,rfl⟩:=hc;obtain⟨I,m,h0,h1⟩:=hr;refine wp_loop_ghost (fun n a w=>L0 B0 nt w0 G0 (fun s=>I s∧m s=n) a w) (m s) ⟨s,G,E,⟨h0,rfl⟩,h⟩ ?_;rintro n a' w' ⟨s',G',E',⟨hI,hmn⟩,h'⟩;refine wp_mono (ih hc h' (h1 s' hI)) fun e a'' w'' hg=>?_;obtain⟨s'',G'',E'',hq,h''⟩:=hg
  cases e with
  |normal=>exact⟨m s'',by omega,s'',G'',E'',⟨hq.1,rfl⟩,h''⟩
  |_=>exact⟨s'',G'',E'',hq,h''⟩
 |scope c ih=>
  intro rc hc Q s G E a w h hr;simp only[comp]at hc;refine wp_scope_straight (wp_mono (ih hc h (ahp hr)) fun e a' w' hg=>?_);obtain⟨s',G',E',hq,h'⟩:=hg
  cases e with
  |goto l=>exact hq.elim
  |_=>exact⟨s',G',E',hq,h'⟩
 |rangeFunc f ps x y _ _=>intro rc hc;cases hc
 |goto l=>intro rc hc;cases hc
 |refuse why=>intro rc hc;cases hc
end
section
variable{P:Program}{s:PS}
theorem ac8(ids:List Nat)(s:PS):(s.uu ids).ctx=s.ctx:=by
 cases ids with
 |nil=>rfl
 |cons i r=>exact(Fu (i::r) _).2
def azm(c:Nat→V×Value)(K:PS→Prop):PS→Prop:=fun s'=>K s'∧s'.ctx=c
theorem ana{o:RI}{K:PS→Prop}(h:Gk P o s K):Gk P o s (azm s.ctx K):=by
 unfold Gk at h⊢;split
 ·rename_i kk sz bytes x k y ts ho;rw[ho]at h;obtain⟨id,s',h1,h2⟩:=h;refine⟨id,s',h1,h2,?_⟩
  have e:s'.ctx=s.ctx:=by
   obtain⟨_,_,m,av,key,es,ys,osz,_,_,_,_,_,_,_,_,hc⟩:=h1;rcases hc with ⟨_,_,es',_,rfl⟩|⟨i,v0,n0,dd,_,_,_,_,es',_,rfl⟩<;>rfl
  rw[←e];cases o.dst<;>rfl
 ·rename_i f args ho;rw[ho]at h;obtain⟨R,h1,h2⟩:=h;exact⟨R,h1,fun m' r hr=>⟨h2 m' r hr,by cases o.dst<;>rfl⟩⟩
 ·rename_i f args ho;rw[ho]at h;simp only at h⊢;split
  ·rename_i g iy hs;rw[hs]at h;obtain⟨R,h1,h2⟩:=h;exact⟨R,h1,fun m' r hr=>⟨h2 m' r hr,by cases o.dst<;>rfl⟩⟩
  rename_i Bc;split at h
  ·rename_i g iy hs;exact absurd hs (Bc g iy)
  exact h
 ·rename_i f args ho;rw[ho]at h;obtain⟨m',r,h1,h2⟩:=h;exact⟨m',r,h1,h2,by cases o.dst<;>rfl⟩
 ·rename_i f args ho;rw[ho]at h;obtain⟨r,h1,h2⟩:=h;exact⟨r,h1,h2,by cases o.dst<;>rfl⟩
 ·rename_i f args ho;rw[ho]at h;simp only at h⊢;split
  ·rename_i g iy hs;rw[hs]at h;obtain⟨m',r,h1,h2⟩:=h;exact⟨m',r,h1,h2,by cases o.dst<;>rfl⟩
  rename_i Bc;split at h
  ·rename_i g iy hs;exact absurd hs (Bc g iy)
  exact h
 ·rename_i f args ho;rw[ho]at h;obtain⟨ds,r,h1,h2,h3,h4⟩:=h;exact⟨ds,r,h1,h2,h3,h4,by cases o.dst<;>rfl⟩
 ·rename_i f args ho;rw[ho]at h;simp only at h⊢;split
  ·rename_i g iy hs;rw[hs]at h;obtain⟨ds,r,h1,h2,h3,h4⟩:=h;exact⟨ds,r,h1,h2,h3,h4,by cases o.dst<;>rfl⟩
  rename_i Bc;split at h
  ·rename_i g iy hs;exact absurd hs (Bc g iy)
  exact h
 rename_i h0 h1 h2 h3 h4 h5 h6 h7;split at h
 ·rename_i kk sz bytes x k y ts ho;exact absurd ho (h0 kk sz bytes x k y ts)
 ·rename_i f args ho;exact absurd ho (h1 f args)
 ·rename_i f args ho;exact absurd ho (h2 f args)
 ·rename_i f args ho;exact absurd ho (h3 f args)
 ·rename_i f args ho;exact absurd ho (h4 f args)
 ·rename_i f args ho;exact absurd ho (h5 f args)
 ·rename_i f args ho;exact absurd ho (h6 f args)
 ·rename_i f args ho;exact absurd ho (h7 f args)
 split at h
 ·exact⟨h,by rw[Yx,(Fu _ _).2]⟩
 exact h.elim
theorem ae8:∀{l:List RI} {s:PS} {K:PS→Prop},l5 P l s K→l5 P l s (azm s.ctx K):=by
 intro l
 induction l with
 |nil=>intro s K h;exact⟨h,rfl⟩
 |cons o r ih=>
  intro s K h;rw[B5]at h⊢;split
  ·rename_i hw;rw[hw]at h;refine a3z ?_ (ana h);rintro s' ⟨h1,h2⟩;have:=ih h1;rw[h2]at this;exact this
  ·rename_i hw;rw[hw]at h;have:=ih h
   have e:(s.put o.dst (.d (.Aa []))).ctx=s.ctx:=by cases o.dst<;>rfl
   rw[e]at this;exact this
  rename_i hw;rw[hw]at h;exact h
def aEu(c:Nat→V×Value)(Q:Exit→PS→Prop):Exit→PS→Prop:=fun e s'=>Q e s'∧s'.ctx=c
theorem a2x:∀{c:di} {s:PS} {Q:Exit→PS→Prop},ko P c Q s→ko P c (aEu s.ctx Q) s:=by
 intro c
 induction c with
 |skip=>intro s Q h;exact⟨h,rfl⟩
 |region ops d fz=>
  intro s Q h;have:=ae8 (s:=if d=true then(s.uu (sh s.base fz)).ta (sh s.base (pt ops))else s.uu (sh s.base fz)) h
  have e:(if d=true then(s.uu (sh s.base fz)).ta (sh s.base (pt ops))else s.uu (sh s.base fz)).ctx=s.ctx:=by
   split
   ·rw[(Fu _ _).2,ac8]
   rw[ac8]
  rw[e]at this;exact this
 |seq x y ihx ihy=>
  intro s Q h;rw[a2w];refine Em (fun e s' h'=>?_) (ihx h);obtain⟨h1,h2⟩:=h'
  cases e with
  |normal=>
   have:=ihy h1;rw[h2]at this;exact this
  |_=>exact⟨h1,h2⟩
 |cond c x y ihx ihy=>
  intro s Q h;simp only[ko]at h⊢;split at h
  ·split at h
   ·rename_i hx;simp only[hx,dj];exact ihx h
   rename_i hx;simp only[hx,fk,ee];exact ihy h
  exact h.elim
 |block id c ih=>
  intro s Q h;rw[Zb];refine Em (fun e s' h'=>?_) (ih h);obtain⟨h1,h2⟩:=h'
  cases e with
  |exit i=>
   simp only at h1⊢;split
   ·rename_i hi;rw[bm hi]at h1;exact⟨h1,h2⟩
   rename_i hi;rw[al hi]at h1;exact⟨h1,h2⟩
  |_=>exact⟨h1,h2⟩
 |loop c ih=>
  intro s Q h;obtain⟨I,m,h0,h1⟩:=h;refine⟨fun s'=>I s'∧s'.ctx=s.ctx,m,⟨h0,rfl⟩,fun s' hI=>Em (fun e s'' h'=>?_) (ih (h1 s' hI.1))⟩;obtain⟨k1,k2⟩:=h';rw[hI.2]at k2
  cases e with
  |normal=>exact⟨⟨k1.1,k2⟩,k1.2⟩
  |_=>exact⟨k1,k2⟩
 |freeze=>intro s Q ⟨ids,h⟩;exact⟨ids,h,ac8 ids s⟩
 |a5o l=>
  intro s Q ⟨I,h0,h1⟩;refine⟨fun A s'=>I A s'∧s'.ctx=s.ctx,⟨h0,rfl⟩,fun A s' hI=>⟨fun hA=>⟨(h1 A s' hI.1).1 hA,hI.2⟩,fun i o ho hA haf=>?_⟩⟩;have:=ae8 ((h1 A s' hI.1).2 i o ho hA haf);rw[hI.2]at this;exact this
 |both x y ihx ihy=>intro s Q h;exact⟨ihx h.1,ihy h.2⟩
 |exit id=>intro s Q h;exact⟨h,rfl⟩
 |ret=>intro s Q h;exact⟨h,rfl⟩
end
def ak1(P:Program):ResultVar→Option Il
 | .tmp t=>some (.tmp t)
 | .cell a t=>match kn P t,Ap P t with
  |some n,some g=>if g=true∨n=1 then some (.cell a n g)else none
  |_,_=>none
def Sf(P:Program):List ResultVar→Option (List Il)
 |[]=>some []
 |r::l=>match ak1 P r,Sf P l with
  |some x,some y=>some (x::y)
  |_,_=>none
def RI.bare(o:RI):RI:=⟨o.dst,o.op,o.guard,[]⟩
def di.bare:di→di
 | .region l d f=> .region (l.map RI.bare) d f
 | .seq a b=> .seq a.bare b.bare
 | .cond c a b=> .cond c a.bare b.bare
 | .block i c=> .block i c.bare
 | .loop c=> .loop c.bare
 | .both a b=> .both a.bare b.bare
 | .skip=> .skip
 | .freeze=> .freeze
 | .a5o l=> .a5o l
 | .exit i=> .exit i
 | .ret=> .ret
theorem Zc{P:Program}{K:PS→Prop}:∀(l:List RI) (s:PS),l5 P (l.map RI.bare) s K=l5 P l s K
 |[],_=>rfl
 |o::l,s=>by
  rw[gf,B5,B5];have h1:wanted o.bare s=wanted o s:=rfl;have h2:∀K',Gk P o.bare s K'=Gk P o s K':=fun _=>rfl;rw[h1,h2];have h3:(fun s'=>l5 P (l.map RI.bare) s' K)=fun s'=>l5 P l s' K:=funext fun s'=>Zc l s';rw[h3,Zc l];rfl
theorem agp(l:List RI):pt (l.map RI.bare)=pt l:=by
 unfold pt;rw[List.flatMap_map];rfl
theorem En{P:Program}:∀(c:di) (Q:Exit→PS→Prop) (s:PS),ko P c.bare Q s=ko P c Q s
 | .skip,_,_=>rfl
 | .freeze,_,_=>rfl
 | .a5o _,_,_=>rfl
 | .exit _,_,_=>rfl
 | .ret,_,_=>rfl
 | .region l d f,Q,s=>by
  show l5 P (l.map RI.bare) (if d=true then(s.uu (sh s.base f)).ta (sh s.base (pt (l.map RI.bare)))else s.uu (sh s.base f)) (Q .normal)=_;rw[Zc,agp];rfl
 | .seq a b,Q,s=>by
  show ko P a.bare (fun e s'=>match e with| .normal=>ko P b.bare Q s'|e=>Q e s') s=ko P a (fun e s'=>match e with| .normal=>ko P b Q s'|e=>Q e s') s
  rw[En a]
  congr 1
  funext e s'
  cases e<;>first|exact En b Q s'|rfl
 | .cond c a b,Q,s=>by
  show(match c.ev s with| .d (.bool x)=>if x then ko P a.bare Q s else ko P b.bare Q s|_=>False)=(match c.ev s with| .d (.bool x)=>if x then ko P a Q s else ko P b Q s|_=>False)
  rw[En a,En b]
 | .block i c,Q,s=>En c _ s
 | .loop c,Q,s=>by
  show(∃(I:PS→Prop) (m:PS→Nat),I s∧∀s',I s'→ko P c.bare (fun e s''=>match e with| .normal=>I s''∧m s''<m s'|e=>Q e s'') s')=∃(I:PS→Prop) (m:PS→Nat),I s∧∀s',I s'→ko P c (fun e s''=>match e with| .normal=>I s''∧m s''<m s'|e=>Q e s'') s'
  simp only[En c]
 | .both a b,Q,s=>by
  show(ko P a.bare Q s∧ko P b.bare Q s)=(ko P a Q s∧ko P b Q s);rw[En a,En b]
def ew(P:Program)(f:Nat)(an:Ann):Option (di×List Il×Nat):=
 match P.funcs[f]? with
 |none=>none
 |some fn=>if fn.name= "runtime.NumGoroutine"then none else match fn.body with
  |none=>none
  |some c=>match comp P fn.ntmps an c,Sf P fn.results.toList with
   |some rc,some rs=>some (rc.bare,rs,fn.ntmps)
   |_,_=>none
def start(args:List D):PS:={tmp:=fun t=>match args[t]? with|some x=> .d x|none=> .no,da:=fun _=>none,av:=fun _=>0,mp:=fun _=>none}
section
variable{P:Program}{B0 nt:Nat}{w0 w w':World}{G0 G G':fy}{s s' s1 s2:PS}{E E':Env}{a:Act}
def avg(s:PS):V→List Nat
 | .ref id _ _=>[id]
 | .kj id _=>[id]
 | .agg cs=>match Ot s cs with
  |some p=>p.2
  |none=>[]
 |_=>[]
theorem aed{x:V}{d:D}{v:Value}(hp:Xv s x=some d)(hv:ij G E s x v)(hle:G.le G')(hg:∀id∈avg s x,Z1 G' G E s id):gj G' d v:=by
 cases x with
 |d y=>simp only[Xv,aj]at hp;subst hp;exact gj.mono hle hv
 |ref id av len=>
  simp only[Xv,ao]at hp;obtain⟨⟨y,ids⟩,hp,rfl⟩:=hp
  have V9:ids=[id]:=by
   simp only[Pv]at hp;split at hp
   ·split at hp
    ·simp only[aj,br]at hp;exact hp.2.symm
    cases hp
   cases hp
  exact a4c (c:= .ref id av len) hp hv hle (by rw[V9];exact hg)
 |kj id av=>
  simp only[Xv,ao]at hp;obtain⟨⟨y,ids⟩,hp,rfl⟩:=hp
  have V9:ids=[id]:=by
   simp only[Pv]at hp;split at hp
   ·simp only[ao,br]at hp;obtain⟨_,_,_,hp⟩:=hp;exact hp.symm
   cases hp
  exact a4c (c:= .kj id av) hp hv hle (by rw[V9];exact hg)
 |agg cs=>
  simp only[Xv,ao]at hp;obtain⟨⟨ds,ids⟩,hp,rfl⟩:=hp;simp only[avg,hp]at hg;obtain⟨k1,k2⟩:=a9d (G:=G) (G':=G') (E:=E) hp;obtain⟨vs,rfl,e2,e3⟩:=Eu.1 hv;show gj G' (.agg ds) (.agg vs);refine gj.agg (by omega) fun i x u hx hu=>?_
  have hi:i<cs.length:=by have:=(aw.1 hx).1;omega
  exact k2 hle hg i cs[i] x u (ax hi) hx (e3 i _ u (ax hi) hu)
 |_=>cases hp
def ab6(s:PS):Il→List Nat
 | .tmp t=>avg s (s.tmp t)
 | .cell t n g=>match Br s n g (s.tmp t)with
  |some v=>avg s v
  |none=>[]
theorem awb(h:j9 B0 w0 nt G0 s G E a w){r:ResultVar}{x:Il}(hc:ak1 P r=some x){d:D}(hd:ahs s x=some d)(hle:G.le G')(hg:∀id∈ab6 s x,Z1 G' G E s id):
  ∃v,(match r with| .tmp t=>pure (a.tmps.getD t undef)| .cell b t=>do loadVar t (←asAddr (a.tmps.getD b undef)):Sem Value).run P w= .ok v w∧gj G' d v:=by
 cases r with
 |tmp t=>
  simp only[ak1,aj]at hc;subst hc;exact⟨_,rfl,aed hd (h.tmp t) hle hg⟩
 |cell b t=>
  simp only[ak1]at hc;split at hc
  ·rename_i n g h1 h2;split at hc
   ·rename_i h3
    injection hc with hc
    subst hc;simp only[ahs]at hd;simp only[ab6]at hg;split at hd
    ·rename_i v hv;rw[hv]at hg;obtain⟨u,hr,hu⟩:=Wh h h1 h2 h3 hv (h.tmp b);refine⟨u,?_,aed hd hu hle hg⟩
     have hp:∃ad,a.tmps.getD b undef= .pointer (some ad):=by
      have hb:=h.tmp b;generalize s.tmp b=y at hv hb
      cases y with
      |ic id av off=>
       simp only[Br]at hv;split at hv
       ·rename_i cs Ie;obtain⟨e1,e2⟩:=tv Ie;exact⟨_,hb.2 e1 ⟨_,e2,rfl⟩⟩
       cases hv
      |Hf id av ln i off=>
       simp only[Br]at hv;split at hv
       ·rename_i sz dd he;obtain⟨e1,e2⟩:=xm he;split at hv
        ·split at hv
         ·rename_i hh;exact⟨_,(hb.2 e1 _ _ (vb e2)).2 hh.1⟩
         cases hv
        cases hv
       split at hv
       ·rename_i sz dd he;obtain⟨e1,b,e2,e3,_⟩:=Ju he;split at hv
        ·split at hv
         ·rename_i hh;exact⟨_,(hb.2 e1 _ _ ((vb e2).trans e3)).2 hh.1⟩
         cases hv
        cases hv
       cases hv
      |d z=>
       cases z with
       |te cells off=>
        generalize a.tmps.getD b undef=q at hb;cases hb;exact⟨_,rfl⟩
       |_=>cases hv
      |_=>cases hv
     obtain⟨ad,had⟩:=hp;show(do loadVar t (←asAddr (a.tmps.getD b undef)):Sem Value).run P w=_;rw[had]at hr⊢;unfold aK9 at hr;simp only[cb]at hr⊢;have e1:(aCc (.pointer (some ad))).run P w= .ok ad w:=rfl;have e2:(asAddr (.pointer (some ad))).run P w= .ok ad w:=rfl;rw[e1]at hr;rw[e2];exact hr
    cases hd
   cases hc
  cases hc
theorem aey{α:Type}(f:α→Sem Value)(w:World):∀(l:List α) (vs:List Value),l.length=vs.length→(∀(i:Nat) (x:α) (v:Value),l[i]? =some x→vs[i]? =some v→(f x).run P w= .ok v w)→(l.mapM f).run P w= .ok vs w:=by
 intro l
 induction l with
 |nil=>intro vs hl _;cases vs with
  |nil=>simp
  |cons _ _=>cases hl
 |cons x r ih=>
  intro vs hl h
  cases vs with
  |nil=>cases hl
  |cons v vs=>
   simp only[List.mapM_cons,cb,h 0 x v rfl rfl,bh,ih vs (by simpa using hl) (fun i x v hx hv=>h (i+1) x v (by simpa using hx) (by simpa using hv)),eh]
theorem ae9(h:j9 B0 w0 nt G0 s G E a w)(hle:G.le G'):∀{l:List ResultVar} {xs:List Il} {ds:List D},Sf P l=some xs→a0q s xs=some ds→(∀id∈xs.flatMap (ab6 s),Z1 G' G E s id)→
  ∃vs:List Value,vs.length=ds.length∧l.length=vs.length∧xs.length=ds.length∧(∀(i:Nat) (x:ResultVar) (v:Value),l[i]? =some x→vs[i]? =some v→(match x with| .tmp t=>pure (a.tmps.getD t undef)| .cell b t=>do loadVar t (←asAddr (a.tmps.getD b undef)):Sem Value).run P w= .ok v w)∧
   ∀(i:Nat) (d:D) (v:Value),ds[i]? =some d→vs[i]? =some v→gj G' d v:=by
 intro l
 induction l with
 |nil=>
  intro xs ds hc hd _;simp only[Sf,aj]at hc;subst hc;simp only[a0q,aj]at hd;subst hd;exact⟨[],rfl,rfl,rfl,by simp,by simp⟩
 |cons r l ih=>
  intro xs ds hc hd hg;simp only[Sf]at hc;split at hc
  ·rename_i x y h1 h2
   injection hc with hc
   subst hc;simp only[a0q]at hd;split at hd
   ·rename_i d ds' h3 h4
    injection hd with hd
    subst hd;obtain⟨vs,k1,k2,k3,k4,k5⟩:=ih h2 h4 (fun id hid=>hg id (by simp only[ad6,jm];exact .inr hid));obtain⟨v,hv1,hv2⟩:=awb h h1 h3 hle (fun id hid=>hg id (by simp only[ad6,jm];exact .inl hid));refine⟨v::vs,by simp[k1],by simp[k2],by simp[k3],fun i x u hx hu=>?_,fun i d u hx hu=>?_⟩
    ·cases i with
     |zero=>simp only[dm,aj]at hx hu;subst hx hu;exact hv1
     |succ i=>simp only[gl]at hx hu;exact k4 i x u hx hu
    cases i with
    |zero=>simp only[dm,aj]at hx hu;subst hx hu;exact hv2
    |succ i=>simp only[gl]at hx hu;exact k5 i d u hx hu
   cases hd
  cases hc
theorem P5(h:j9 B0 w0 nt G0 s G E a w){fn:Func}{xs:List Il}(hc:Sf P fn.results.toList=some xs){r:D}(hr:Xt s xs=some r):
  ∃v G',(results fn a.tmps).run P w= .ok v w∧G0.le G'∧G0.same G' B0∧GOk G' w∧gj G' r v:=by
 obtain⟨G',hle,h',hg⟩:=h.ta (xs.flatMap (ab6 s))
 have all:∃ds,a0q s xs=some ds∧((∃d,ds=[d]∧r=d)∨(ds.length≠1∧r= .Aa ds)):=by
  unfold Xt at hr;split at hr
  ·rename_i x;exact⟨[r],by simp[a0q,hr],.inl ⟨r,rfl,rfl⟩⟩
  rename_i hne;simp only[ao]at hr;obtain⟨ds,hds,rfl⟩:=hr;refine⟨ds,hds,.inr ⟨fun hl=>?_,rfl⟩⟩;obtain⟨vs,_,_,k3,_⟩:=ae9 h hle hc hds hg
  match xs,k3,hne with
  |[x],_,hne=>exact hne x rfl
  |[],k3,_=>simp at k3;omega
  |_::_::_,k3,_=>simp at k3;omega
 obtain⟨ds,hds,a14⟩:=all;obtain⟨vs,k1,k2,k3,k4,k5⟩:=ae9 h hle hc hds hg
 have Jm:=aey (P:=P) (fun x:ResultVar=>(match x with| .tmp t=>pure (a.tmps.getD t undef)| .cell b t=>do loadVar t (←asAddr (a.tmps.getD b undef)):Sem Value)) w fn.results.toList vs k2 k4
 have asn:(fn.results.mapM fun(x:ResultVar)=>(match x with| .tmp t=>pure (a.tmps.getD t undef)| .cell b t=>do loadVar t (←asAddr (a.tmps.getD b undef)):Sem Value)).run P w= .ok vs.toArray w:=by
  rw[aal,aKo,Jm];rfl
 have aG6:(results fn a.tmps).run P w= .ok (if hh:vs.toArray.size=1 then vs.toArray[0]else .tuple vs.toArray) w:=by
  unfold results;simp only[cb]
  erw [asn]
  simp only[bh,eh]
 refine⟨_,G',aG6,h'.gle,h'.Ip,h'.gok,?_⟩;rcases a14 with ⟨d,rfl,rfl⟩|⟨hne,rfl⟩
 ·have h1:vs.toArray.size=1:=by simpa using k1
  rw[dif_pos h1];exact k5 0 r _ rfl (by simp)
 have h1:¬vs.toArray.size=1:=by simp;omega
 rw[dif_neg h1];exact gj.Aa (by simpa using k1) fun i x v hx hv=>k5 i x v hx (by simpa using hv)
theorem a8w{args:List D}{vs:Array Value}(hG:GOk G w)(hl:vs.size=args.length)(hr:∀(i:Nat) (x:D) (v:Value),args[i]? =some x→vs[i]? =some v→gj G x v)(hn:args.length≤nt):
  j9 w.heap.size w nt G (start args) G ⟨fun _=>0,fun _=>0,fun _=>0⟩ {tmps:=vs++N3 (nt-vs.size) undef,defers:=[]} w:=by
 refine⟨by simp;omega,rfl,rfl,Bel.refl _ _,hG,fy.kl _,⟨fun _ _ _=>rfl,fun _ _=>rfl⟩,fun t=>?_,fun i b hb=>(by cases hb),fun i j bi bj hi=>(by cases hi),fun i es hi=>(by cases hi),fun i j bi bj hi=>(by cases hi),fun p=>trivial,fun _=>N4.nil⟩
 show ij G _ _ (match args[t]? with|some x=>V.d x|none=> .no) ((vs++N3 (nt-vs.size) undef).getD t undef)
 cases hx:args[t]? with
 |none=>trivial
 |some x=>
  have ht:t<args.length:=(aw.1 hx).1;rw[j8,o7 (by omega),bd (by omega)];exact hr t x _ hx (bd (by omega))
theorem du(hm:P.follows .mixedOrders=true){f:Nat}{an:Ann}{rc:di}{rs:List Il}{nt:Nat}(hf:ew P f an=some (rc,rs,nt)){args:List D}{r:D}(hn:args.length≤nt)
  (h:ko P rc (fun e s=>(e= .normal∨e= .ret)∧Xt s rs=some r) (start args)):iq P f args r:=by
 unfold ew at hf;split at hf
 ·cases hf
 rename_i fn hfn;split at hf
 ·cases hf
 rename_i Tm;split at hf
 ·cases hf
 rename_i c hb;split at hf
 ·rename_i rc' rs' h1 h2;simp only[aj,br]at hf;obtain⟨rfl,rfl,rfl⟩:=hf;simp only[En]at h;refine⟨by unfold yj;rw[hfn];simp[Tm,hb],fun G w vs hG hl hr=>?_⟩;refine calls_of_wp hfn hb (wp_mono (S3 hm c h1 (a8w hG hl hr hn) (a2x h)) fun e a' w' hg=>?_);obtain⟨s',G',E',⟨⟨he,ais⟩,Zt⟩,h'⟩:=hg;obtain⟨v,G2,k1,k2,k3,k4,k5⟩:=P5 h' h2 ais
  have fin:a'.defers=[]∧∃v,(results fn a'.tmps).run P w'= .ok v w'∧∃v' G',ava v= .returned v'∧G.le G'∧G.same G' w.heap.size∧GOk G' w'∧Bel True w.heap.size w w'∧gj G' r v':=
   ⟨h'.defers,v,k1,v,G2,rfl,k2,k3,k4,h'.below.M7 (fun _=>by rw[Zt];intro i v e;exact(aKh e).2.symm),k5⟩
  rcases he with rfl|rfl
  ·exact fin
  exact fin
 cases hf
def X2(c:Nat→V×Value)(i:Nat):V×Value:=match(c i).1 with
 | .d _=>c i
 | .no=>c i
 |_=>(.no,.tuple #[])
theorem ayf{c:Nat→V×Value}{i:Nat}{v:Value}(h:c i=(.no,v)):X2 c i=(.no,v):=by unfold X2;rw[h]
theorem ajs{c:Nat→V×Value}(h:Plain c):Plain (X2 c):=by
 intro i v e;unfold X2 at e;split at e
 ·exact h i v e
 ·exact h i v e
 exact(aKh e).2.symm
theorem atq{c:Nat→V×Value}{B:Nat}{w:World}(h:∀i,N4 (c i) B w)(i:Nat):N4 (X2 c i) B w:=by
 unfold X2;split
 ·exact h i
 ·exact h i
 exact N4.nil
theorem ah6{c:Nat→V×Value}(hc:∀(i:Nat) (d:D) (v:Value),c i=(V.d d,v)→gj G d v)(ht:∀i,N4 (c i) w.heap.size w){args:List D}{vs:Array Value}(hG:GOk G w)(hl:vs.size=args.length)(hr:∀(i:Nat) (x:D) (v:Value),args[i]? =some x→vs[i]? =some v→gj G x v)(hn:args.length≤nt):
  j9 w.heap.size w nt G {start args with ctx:=X2 c} G ⟨fun _=>0,fun _=>0,fun _=>0⟩ {tmps:=vs++N3 (nt-vs.size) undef,defers:=[]} w:=by
 refine⟨by simp;omega,rfl,rfl,Bel.refl _ _,hG,fy.kl _,⟨fun _ _ _=>rfl,fun _ _=>rfl⟩,fun t=>?_,fun i b hb=>(by cases hb),fun i j bi bj hi=>(by cases hi),fun i es hi=>(by cases hi),fun i j bi bj hi=>(by cases hi),fun p=>?_,fun p=>atq ht p⟩;rotate_left
 ·show ij G _ _ (X2 c p).1 (X2 c p).2;unfold X2;split
  ·rename_i d e;have h1:c p=(V.d d,(c p).2):=Q8 e rfl;have h2:=hc p d (c p).2 h1;generalize(c p).1=x at e;subst e;exact h2
  ·rename_i e;rw[e];trivial
  trivial
 show ij G _ _ (match args[t]? with|some x=>V.d x|none=> .no) ((vs++N3 (nt-vs.size) undef).getD t undef)
 cases hx:args[t]? with
 |none=>trivial
 |some x=>
  have ht:t<args.length:=(aw.1 hx).1;rw[j8,o7 (by omega),bd (by omega)];exact hr t x _ hx (bd (by omega))
theorem aee(hm:P.follows .mixedOrders=true){f:Nat}{an:Ann}{rc:di}{rs:List Il}{nt:Nat}(hf:ew P f an=some (rc,rs,nt)){args:List D}{r:D}(c:Nat→V×Value)(hn:args.length≤nt)
  (h:ko P rc (fun e s=>(e= .normal∨e= .ret)∧Xt s rs=some r) {start args with ctx:=X2 c}):Oc P c f args r:=by
 unfold ew at hf;split at hf
 ·cases hf
 rename_i fn hfn;split at hf
 ·cases hf
 rename_i Tm;split at hf
 ·cases hf
 rename_i cc hb;split at hf
 ·rename_i rc' rs' h1 h2;simp only[aj,br]at hf;obtain⟨rfl,rfl,rfl⟩:=hf;simp only[En]at h;refine⟨by unfold yj;rw[hfn];simp[Tm,hb],fun G w vs hc htk hG hl hr=>?_⟩;refine calls_of_wp hfn hb (wp_mono (S3 hm cc h1 (ah6 hc htk hG hl hr hn) (a2x h)) fun e a' w' hg=>?_);obtain⟨s',G',E',⟨⟨he,ais⟩,Zt⟩,h'⟩:=hg;obtain⟨v,G2,k1,k2,k3,k4,k5⟩:=P5 h' h2 ais
  have fin:a'.defers=[]∧∃v,(results fn a'.tmps).run P w'= .ok v w'∧∃v' G',ava v= .returned v'∧G.le G'∧G.same G' w.heap.size∧GOk G' w'∧Bel (Plain c) w.heap.size w w'∧gj G' r v':=
   ⟨h'.defers,v,k1,v,G2,rfl,k2,k3,k4,h'.below.M7 (fun q=>by rw[Zt];exact ajs q),k5⟩
  rcases he with rfl|rfl
  ·exact fin
  exact fin
 cases hf
end
section
variable{P:Program}{B0 nt:Nat}{w0 w w':World}{G0 G G':fy}{s s' s1 s2:PS}{E E':Env}{a:Act}
def enter(m:Mem)(args:List V)(b:Nat)(c:Nat→V×Value):PS:={tmp:=fun t=>args.getD t .no,da:=m.da,av:=m.av,mp:=m.mp,base:=b,ctx:=c}
def Clean(m m':Mem):Prop:=∀i,(m'.da i=none∨(m'.da i=m.da i∧m'.av i=m.av i))∧(m'.mp i=none∨(m'.mp i=m.mp i∧m'.av i=m.av i))
def Nj(m:Mem):C→Prop
 | .d _=>True
 | .ref i av _=>av≤m.av i
 | .kj i av=>av≤m.av i
 | .ptr i av _=>av≤m.av i
def Gu(m:Mem):V→Prop
 | .d _=>True
 | .ref i av _=>av≤m.av i
 | .kj i av=>av≤m.av i
 | .ic i av _=>av≤m.av i
 | .Hf i av _ _ _=>av≤m.av i
 | .nu _ ids=>∀p∈ids,p.2≤m.av p.1
 | .agg cs=>∀c∈cs,Nj m c
 | .Aa cs=>∀c∈cs,Nj m c
 | .Ka i av _ _=>av≤m.av i
 | .Hg i av _ _=>av≤m.av i
 | .win i av _ _ _=>av≤m.av i
 | .no=>True
def M4(m:Mem):B→Prop
 | .loc cs=>∀c∈cs,Nj m c
 | .qq _ dd=>∀e∈dd,∀c∈e,Nj m c
 |_=>True
theorem Nj.mono{m m':Mem}(h:∀i,m.av i≤m'.av i){c:C}(hc:Nj m c):Nj m' c:=by
 cases c with
 |d x=>trivial
 |_=>exact ie hc (h _)
theorem Gu.mono{m m':Mem}(h:∀i,m.av i≤m'.av i){v:V}(hv:Gu m v):Gu m' v:=by
 cases v with
 |d x=>trivial
 |no=>trivial
 |agg cs=>exact fun c hc=>(hv c hc).mono h
 |Aa cs=>exact fun c hc=>(hv c hc).mono h
 |nu f ids=>exact fun p hp=>ie (hv p hp) (h _)
 |Ka i av l n=>exact ie (show av≤m.av i from hv) (h _)
 |Hg i av l n=>exact ie (show av≤m.av i from hv) (h _)
 |win i av l n o=>exact ie (show av≤m.av i from hv) (h _)
 |_=>exact ie hv (h _)
theorem Z2{c:C}(h:CWf s c):Nj s.mem c:=by cases c<;>exact h
theorem alq{v:V}(h:VWf s v):Gu s.mem v:=by
 cases v with
 |agg cs=>exact fun c hc=>Z2 (h c hc)
 |Aa cs=>exact fun c hc=>Z2 (h c hc)
 |d x=>trivial
 |no=>trivial
 |Ka i av l n=>exact(show av≤s.av i from h)
 |Hg i av l n=>exact(show av≤s.av i from h)
 |win i av l n o=>exact(show av≤s.av i from h)
 |ref i av l=>exact(show av≤s.av i from h)
 |kj i av=>exact(show av≤s.av i from h)
 |ic i av l=>exact(show av≤s.av i from h)
 |Hf i av _ _ _=>exact(show av≤s.av i from h)
 |nu f ids=>exact(show∀p∈ids,p.2≤s.av p.1 from h)
theorem xv.clean{m':Mem}(hc:Clean s.mem m'){c:C}{v:Value}(h:xv G E s c v)(hw:Nj m' c)(he:s'.mem=m'):xv G E s' c v:=by
 have eb:s'.da=m'.da:=by rw[←he];rfl
 have ev:s'.av=m'.av:=by rw[←he];rfl
 have em:s'.mp=m'.mp:=by rw[←he];rfl
 cases c with
 |d x=>exact h
 |ref id av len=>
  refine⟨by rw[ev];exact hw,fun zc sz dd hb=>?_⟩;unfold PS.Cz at hb;rw[eb]at hb;rw[ev]at zc;rcases(hc id).1 with h0|⟨h1,h2⟩
  ·rw[h0]at hb;cases hb
  exact h.2 (by rw[←zc,h2];rfl) sz dd (by unfold PS.Cz;rw[←hb,h1];rfl)
 |kj id av=>
  refine⟨by rw[ev];exact hw,fun zc hm=>?_⟩;rw[em]at hm;rw[ev]at zc;rcases(hc id).2 with h0|⟨h1,h2⟩
  ·rw[h0]at hm;cases hm
  exact h.2 (by rw[←zc,h2];rfl) (by rw[h1]at hm;exact hm)
 |ptr id av off=>
  refine⟨by rw[ev];exact hw,fun zc ⟨b,hb,hva⟩=>?_⟩;rw[eb]at hb;rw[ev]at zc;rcases(hc id).1 with h0|⟨h1,h2⟩
  ·rw[h0]at hb;cases hb
  exact h.2 (by rw[←zc,h2];rfl) ⟨b,by rw[←hb,h1];rfl,hva⟩
theorem ij.clean{m':Mem}(hc:Clean s.mem m'){x:V}{v:Value}(h:ij G E s x v)(hw:Gu m' x)(he:s'.mem=m'):ij G E s' x v:=by
 have eb:s'.da=m'.da:=by rw[←he];rfl
 have ev:s'.av=m'.av:=by rw[←he];rfl
 cases x with
 |d x=>exact h
 |no=>trivial
 |ref id av len=>exact xv.clean (c:= .ref id av len) hc h hw he
 |kj id av=>exact xv.clean (c:= .kj id av) hc h hw he
 |ic id av off=>exact xv.clean (c:= .ptr id av off) hc h hw he
 |Ka id av len n=>
  refine⟨by rw[ev];exact hw,fun zc ⟨b,hb,hva⟩=>?_⟩;rw[eb]at hb;rw[ev]at zc;rcases(hc id).1 with h0|⟨h1,h2⟩
  ·rw[h0]at hb;cases hb
  exact h.2 (by rw[←zc,h2];rfl) ⟨b,by rw[←hb,h1];rfl,hva⟩
 |Hg id av n a=>
  refine⟨h.1,by rw[ev];exact hw,fun zc sz dd hb=>?_⟩;unfold PS.Cz at hb;rw[eb]at hb;rw[ev]at zc;rcases(hc id).1 with h0|⟨h1,h2⟩
  ·rw[h0]at hb;cases hb
  exact h.2.2 (by rw[←zc,h2];rfl) sz dd (by unfold PS.Cz;rw[←hb,h1];rfl)
 |win id av n o l=>
  refine⟨h.1,by rw[ev];exact hw,fun zc sz dd hb=>?_⟩;unfold PS.Cz at hb;rw[eb]at hb;rw[ev]at zc;rcases(hc id).1 with h0|⟨h1,h2⟩
  ·rw[h0]at hb;cases hb
  exact h.2.2 (by rw[←zc,h2];rfl) sz dd (by unfold PS.Cz;rw[←hb,h1];rfl)
 |Hf id av ln i off=>
  refine⟨by rw[ev];exact hw,fun zc sz dd hb=>?_⟩;unfold PS.Cz at hb;rw[eb]at hb;rw[ev]at zc;rcases(hc id).1 with h0|⟨h1,h2⟩
  ·rw[h0]at hb;cases hb
  exact h.2 (by rw[←zc,h2];rfl) sz dd (by unfold PS.Cz;rw[←hb,h1];rfl)
 |nu f ids=>
  refine⟨fun p hp=>by rw[ev];exact hw p hp,fun hall=>h.2 fun p hp=>?_⟩;obtain⟨k1,b,k2,k3⟩:=hall p hp;rw[eb]at k2;rw[ev]at k1;rcases(hc p.1).1 with h0|⟨h1,h2⟩
  ·rw[h0]at k2;cases k2
  exact⟨by rw[←k1,h2];rfl,b,by rw[←k2,h1];rfl,k3⟩
 |agg cs=>
  obtain⟨vs,e1,e2,e3⟩:=Eu.1 h;exact Eu.2 ⟨vs,e1,e2,fun i c u hi hu=>(e3 i c u hi hu).clean hc (hw c (jt hi)) he⟩
 |Aa cs=>
  obtain⟨vs,e1,e2,e3⟩:=K0.1 h;exact K0.2 ⟨vs,e1,e2,fun i c u hi hu=>(e3 i c u hi hu).clean hc (hw c (jt hi)) he⟩
theorem aea(h:j9 B0 w0 nt G0 s G E a w){r:ResultVar}{x:Il}(hc:ak1 P r=some x){y:V}(hd:Ac s x=some y):
  ∃v,(match r with| .tmp t=>pure (a.tmps.getD t undef)| .cell b t=>do loadVar t (←asAddr (a.tmps.getD b undef)):Sem Value).run P w= .ok v w∧ij G E s y v:=by
 cases r with
 |tmp t=>
  simp only[ak1,aj]at hc;subst hc;simp only[Ac,aj]at hd;subst hd;exact⟨_,rfl,h.tmp t⟩
 |cell b t=>
  simp only[ak1]at hc;split at hc
  ·rename_i n g h1 h2;split at hc
   ·rename_i h3
    injection hc with hc
    subst hc;simp only[Ac]at hd;obtain⟨u,hr,hu⟩:=Wh h h1 h2 h3 hd (h.tmp b);refine⟨u,?_,hu⟩
    have hp:∃ad,a.tmps.getD b undef= .pointer (some ad):=by
     have hb:=h.tmp b;generalize s.tmp b=z at hd hb
     cases z with
     |ic id av off=>
      simp only[Br]at hd;split at hd
      ·rename_i cs Ie;obtain⟨e1,e2⟩:=tv Ie;exact⟨_,hb.2 e1 ⟨_,e2,rfl⟩⟩
      cases hd
     |Hf id av ln i off=>
      simp only[Br]at hd;split at hd
      ·rename_i sz dd he;obtain⟨e1,e2⟩:=xm he;split at hd
       ·split at hd
        ·rename_i hh;exact⟨_,(hb.2 e1 _ _ (vb e2)).2 hh.1⟩
        cases hd
       cases hd
      split at hd
      ·rename_i sz dd he;obtain⟨e1,b,e2,e3,_⟩:=Ju he;split at hd
       ·split at hd
        ·rename_i hh;exact⟨_,(hb.2 e1 _ _ ((vb e2).trans e3)).2 hh.1⟩
        cases hd
       cases hd
      cases hd
     |d z=>
      cases z with
      |te cells off=>
       generalize a.tmps.getD b undef=q at hb;cases hb;exact⟨_,rfl⟩
      |_=>cases hd
     |_=>cases hd
    obtain⟨ad,had⟩:=hp;show(do loadVar t (←asAddr (a.tmps.getD b undef)):Sem Value).run P w=_;rw[had]at hr⊢;unfold aK9 at hr;simp only[cb]at hr⊢;have e1:(aCc (.pointer (some ad))).run P w= .ok ad w:=rfl;have e2:(asAddr (.pointer (some ad))).run P w= .ok ad w:=rfl;rw[e1]at hr;rw[e2];exact hr
   cases hc
  cases hc
theorem toC_rel{y:V}{c:C}(h:y.toC=some c){v:Value}(hv:ij G E s y v):xv G E s c v:=by
 cases y<;>simp only[V.toC,aj,reduceCtorEq]at h<;>(subst h;exact hv)
theorem anf(h:j9 B0 w0 nt G0 s G E a w):∀{l:List ResultVar} {xs:List Il} {cs:List C},Sf P l=some xs→J2 s xs=some cs→
  ∃vs:List Value,vs.length=cs.length∧l.length=vs.length∧xs.length=cs.length∧(∀(i:Nat) (x:ResultVar) (v:Value),l[i]? =some x→vs[i]? =some v→(match x with| .tmp t=>pure (a.tmps.getD t undef)| .cell b t=>do loadVar t (←asAddr (a.tmps.getD b undef)):Sem Value).run P w= .ok v w)∧
   ∀(i:Nat) (d:C) (v:Value),cs[i]? =some d→vs[i]? =some v→xv G E s d v:=by
 intro l
 induction l with
 |nil=>
  intro xs ds hc hd;simp only[Sf,aj]at hc;subst hc;simp only[J2,aj]at hd;subst hd;exact⟨[],rfl,rfl,rfl,by simp,by simp⟩
 |cons r l ih=>
  intro xs ds hc hd;simp only[Sf]at hc;split at hc
  ·rename_i x y h1 h2
   injection hc with hc
   subst hc;simp only[J2]at hd;split at hd
   ·rename_i d ds' h3 h4
    injection hd with hd
    subst hd;obtain⟨vs,k1,k2,k3,k4,k5⟩:=ih h2 h4;obtain⟨y,hy,hyc⟩:=agv.1 h3;obtain⟨v,hv1,hv2⟩:=aea h h1 hy;refine⟨v::vs,by simp[k1],by simp[k2],by simp[k3],fun i x u hx hu=>?_,fun i d u hx hu=>?_⟩
    ·cases i with
     |zero=>simp only[dm,aj]at hx hu;subst hx hu;exact hv1
     |succ i=>simp only[gl]at hx hu;exact k4 i x u hx hu
    cases i with
    |zero=>simp only[dm,aj]at hx hu;subst hx hu;exact toC_rel hyc hv2
    |succ i=>simp only[gl]at hx hu;exact k5 i d u hx hu
   cases hd
  cases hc
theorem a43(h:j9 B0 w0 nt G0 s G E a w){fn:Func}{xs:List Il}(hc:Sf P fn.results.toList=some xs){r:V}(hr:sv s xs=some r):
  ∃v,(results fn a.tmps).run P w= .ok v w∧ij G E s r v:=by
 have fin:∀{vs:List Value},fn.results.toList.length=vs.length→(∀(i:Nat) (x:ResultVar) (v:Value),fn.results.toList[i]? =some x→vs[i]? =some v→(match x with| .tmp t=>pure (a.tmps.getD t undef)| .cell b t=>do loadVar t (←asAddr (a.tmps.getD b undef)):Sem Value).run P w= .ok v w)→
   (results fn a.tmps).run P w= .ok (if hh:vs.toArray.size=1 then vs.toArray[0]else .tuple vs.toArray) w:=by
  intro vs k2 k4
  have Jm:=aey (P:=P) (fun x:ResultVar=>(match x with| .tmp t=>pure (a.tmps.getD t undef)| .cell b t=>do loadVar t (←asAddr (a.tmps.getD b undef)):Sem Value)) w fn.results.toList vs k2 k4
  have asn:(fn.results.mapM fun(x:ResultVar)=>(match x with| .tmp t=>pure (a.tmps.getD t undef)| .cell b t=>do loadVar t (←asAddr (a.tmps.getD b undef)):Sem Value)).run P w= .ok vs.toArray w:=by
   rw[aal,aKo,Jm];rfl
  unfold results;simp only[cb]
  erw [asn]
  simp only[bh,eh]
 unfold sv at hr;split at hr
 ·rename_i x;generalize hl:fn.results.toList=l at hc fin
  match l,hc with
  |[q],hc=>
   simp only[Sf]at hc;split at hc
   ·rename_i x' y h1 h2
    injection h2 with h2
    subst h2
    injection hc with hc
    injection hc with hc _
    subst hc;obtain⟨v,hv1,hv2⟩:=aea h h1 hr
    have:=fin (vs:=[v]) rfl (fun i x u hx hu=>by
     match i with
     |0=>simp at hx hu;subst hx hu;exact hv1
     |i+1=>simp at hx)
    exact⟨v,this,hv2⟩
   cases hc
  |[],hc=>cases hc
  |q1::q2::r,hc=>
   simp only[Sf]at hc;split at hc
   ·rename_i h1 h2
    injection hc with hc
    injection hc with _ hc
    subst hc;split at h2
    ·injection h2 with h2;cases h2
    cases h2
   cases hc
 rename_i hne;simp only[ao]at hr;obtain⟨cs,Ie,rfl⟩:=hr;obtain⟨vs,k1,k2,k3,k4,k5⟩:=anf h hc Ie;have:=fin k2 k4
 have h1:¬vs.toArray.size=1:=by
  simp only[W0];intro hl
  match xs,k3,hne with
  |[x],_,hne=>exact hne x rfl
  |[],k3,_=>simp at k3;omega
  |_::_::_,k3,_=>simp at k3;omega
 rw[dif_neg h1]at this;exact⟨_,this,K0.2 ⟨_,rfl,by simpa using k1,fun i c u hi hu=>k5 i c u hi (by simpa using hu)⟩⟩
structure Leaves(m:Mem)(s:PS)(m':Mem)(r:V):Prop where
 clean:Clean s.mem m'
 av:∀i,m.av i≤m'.av i
 cells:∀i b,m'.da i=some b→m.da i=some b∨M4 m' b
 mps:∀i es,m'.mp i=some es→m.mp i=some es∨∀e∈es,Nj m' e.2
 wf:Gu m' r
theorem aa4(hm:P.follows .mixedOrders=true){f:Nat}{an:Ann}{rc:di}{rs:List Il}{n':Nat}(hf:ew P f an=some (rc,rs,n')){s:PS}{args:List V}{R:Mem→V→Prop}(hn:args.length≤n')(b:Nat)
  (h:∀c,(∀i,c (2*i+1)=s.ctx i)→ko P rc (fun e s'=>(e= .normal∨e= .ret)∧∃m' r,R m' r∧sv s' rs=some r∧Leaves s.mem s' m' r) (enter s.mem args b c)):D0 P f s args R:=by
 unfold ew at hf;split at hf
 ·cases hf
 rename_i fn hfn;split at hf
 ·cases hf
 rename_i Tm;split at hf
 ·cases hf
 rename_i c hb;split at hf
 ·rename_i rc' rs' h1 h2;simp only[aj,br]at hf;obtain⟨rfl,rfl,rfl⟩:=hf;simp only[En]at h;refine⟨by unfold yj;rw[hfn];simp[Tm,hb],fun B0 w0 nt G0 G E a w vs hF hl hrel=>?_⟩
  let cx:Nat→V×Value:=fun i=>if i%2=0 then(match s.tmp (i/2)with| .no=>(.no,.tuple #[])|x=>(x,a.tmps.getD (i/2) undef))else s.ctx (i/2)
  have hcx:∀i,cx (2*i+1)=s.ctx i:=by
   intro i
   have h1:(2*i+1)%2=1:=by omega
   have h2:(2*i+1)/2=i:=by omega
   simp only[cx,h1,h2,al (show¬(1=0)by decide)]
  have aB5:Plain s.ctx→Plain cx:=by
   intro q i v e;simp only[cx]at e;split at e
   ·split at e
    ·exact(aKh e).2.symm
    rename_i Bc;exact absurd (aKh e).1 Bc
   exact q _ v e
  have mv:∀{x:V} {v:Value},ij G E s x v→ij G E (enter s.mem args b cx) x v:=by
   intro x v hx;refine ij.move (fy.kl G) (E':=E) ⟨fun _=>ay _,fun _ _ T4 _ h=>⟨T4,h,ay _,fun _=>⟨rfl,rfl⟩⟩,fun _ b' _ h hv=>⟨⟨b',h,hv⟩,rfl⟩,fun _ _ h=>⟨h,rfl⟩⟩ hx
  have re:j9 B0 w0 fn.ntmps G0 (enter s.mem args b cx) G E {tmps:=vs++N3 (fn.ntmps-vs.size) undef,defers:=[]} w:=by
   refine⟨by simp;omega,rfl,hF.base,hF.below.M7 (fun q i v e=>q (2*i+1) v ((hcx i).trans e)),hF.gok,hF.gle,hF.Ip,fun t=>?_,fun i b' va=>?_,hF.inj,fun i es hi=>?_,hF.Qq,fun i=>?_,fun i=>?_⟩
   ·show ij G E _ (args.getD t .no) ((vs++N3 (fn.ntmps-vs.size) undef).getD t undef);by_cases ht:t<args.length
    ·rw[j8,o7 (by omega),bd (by omega)]
     have e:args.getD t .no=args[t]:=by simp[cd,ht]
     rw[e];exact mv (hrel t _ _ (ax ht) (bd (by omega)))
    have e:args.getD t .no= .no:=by rw[D2,a6z (by omega)];rfl
    rw[e];trivial
   ·obtain⟨k1,k2,cells,et,k3,k4,k5⟩:=hF.da i b' va;refine⟨k1,k2,cells,et,k3,k4,?_⟩
    cases b' with
    |arr sz dd=>exact k5
    |loc cs=>exact⟨k5.1,fun j c u hj hu=>by
      have:=k5.2 j c u hj hu
      exact mv this⟩
    |qq sz dd=>exact⟨k5.1,k5.2.1,fun i e j c u hi hj hu=>by
      have:=k5.2.2 i e j c u hi hj hu
      exact mv this⟩
    |Ro n=>exact k5
   ·obtain⟨k1,k2,ents,clock,k3,k4,k5,k6⟩:=hF.mp i es hi;exact⟨k1,k2,ents,clock,k3,k4,fun j e x hj hx=>⟨(k5 j e x hj hx).1,mv (k5 j e x hj hx).2⟩,k6⟩
   ·show ij G E _ (cx i).1 (cx i).2;simp only[cx];split
    ·have:=hF.tmp (i/2);split
     ·trivial
     exact mv this
    exact mv (hF.ctx _)
   show N4 (cx i) _ _;simp only[cx];split
   ·split
    ·exact N4.nil
    rename_i Bc;intro b' cs' e;simp only[br]at e;exact absurd e.1 Bc
   exact hF.tb _
  refine calls_of_wp hfn hb (wp_mono (S3 hm c h1 re (a2x (h cx hcx))) fun e a' w' hg=>?_);obtain⟨s',G',E',⟨⟨he,m',r,hR,ais,⟨hcl,zc,To,aBa,hr⟩⟩,Zt⟩,h'⟩:=hg;obtain⟨v,k1,k2⟩:=a43 h' h2 ais;have hwf:=hF.wf
  have Nb:j9 B0 w0 nt G0 (s.j0 m') G' E' a w':=by
   refine⟨hF.size,hF.defers,hF.base,h'.below.M7 (fun q=>by rw[Zt];exact aB5 q),h'.gok,h'.gle,h'.Ip,fun t=>?_,fun i b' va=>?_,fun i j bi bj hi hj Io=>?_,fun i es hi=>?_,fun i j bi bj hi hj Io=>?_,fun i=>?_,hF.tb⟩
   ·have:=h'.ctx (2*t);rw[Zt]at this
    have e1:(enter s.mem args b cx).ctx (2*t)=(match s.tmp t with| .no=>(.no,.tuple #[])|x=>(x,a.tmps.getD t undef)):=by
     show cx (2*t)=_;simp only[cx];rw[bm (by omega),show 2*t/2=t by omega]
    rw[e1]at this;by_cases Bc:s.tmp t= .no
    ·show ij G' E' _ (s.tmp t) _;rw[Bc];trivial
    have e2:(match s.tmp t with| .no=>(V.no,Value.tuple #[])|x=>(x,a.tmps.getD t undef))=(s.tmp t,a.tmps.getD t undef):=by
     split
     ·rename_i e;exact absurd e Bc
     rfl
    rw[e2]at this;exact ij.clean hcl this ((alq (hwf.tmp t)).mono zc) rfl
   ·have hb2:m'.da i=some b':=va;rcases(hcl i).1 with h0|⟨h3,h4⟩
    ·rw[h0]at hb2;cases hb2
    have hb3:s'.da i=some b':=h3.symm.trans hb2;obtain⟨q1,q2,cells,et,q3,q4,q5⟩:=h'.da i b' hb3;refine⟨q1,q2,cells,et,q3,q4,?_⟩
    cases b' with
    |arr sz dd=>exact q5
    |loc cs=>
     refine⟨q5.1,fun j c u hj hu=>?_⟩
     have hcw:Nj m' c:=by
      rcases To i _ hb2 with hh|hh
      ·exact(Z2 (hwf.loc i cs hh c (jt hj))).mono zc
      exact hh c (jt hj)
     exact xv.clean hcl (q5.2 j c u hj hu) hcw rfl
    |qq sz dd=>
     refine⟨q5.1,q5.2.1,fun k e j c u hk hj hu=>?_⟩
     have hcw:Nj m' c:=by
      rcases To i _ hb2 with hh|hh
      ·exact(Z2 (hwf.qq i sz dd hh e (jt hk) c (jt hj))).mono zc
      exact hh e (jt hk) c (jt hj)
     exact xv.clean hcl (q5.2.2 k e j c u hk hj hu) hcw rfl
    |Ro n=>exact q5
   ·have un:∀{i b'},m'.da i=some b'→s'.da i=some b':=by
     intro i b' hb2;rcases(hcl i).1 with h0|⟨h3,h4⟩
     ·rw[h0]at hb2;cases hb2
     exact h3.symm.trans hb2
    exact h'.inj i j bi bj (un hi) (un hj) Io
   ·have hb2:m'.mp i=some es:=hi;rcases(hcl i).2 with h0|⟨h3,h4⟩
    ·rw[h0]at hb2;cases hb2
    obtain⟨q1,q2,ents,clock,q3,q4,q5,q6⟩:=h'.mp i es (h3.symm.trans hb2);refine⟨q1,q2,ents,clock,q3,q4,fun j e x hj hx=>⟨(q5 j e x hj hx).1,?_⟩,q6⟩
    have hcw:Nj m' e.2:=by
     rcases aBa i es hb2 with hh|hh
     ·exact(Z2 (hwf.mp i es hh e (jt hj))).mono zc
     exact hh e (jt hj)
    exact xv.clean hcl (q5 j e x hj hx).2 hcw rfl
   ·have un:∀{i b'},m'.mp i=some b'→s'.mp i=some b':=by
     intro i b' hb2;rcases(hcl i).2 with h0|⟨h3,h4⟩
     ·rw[h0]at hb2;cases hb2
     exact h3.symm.trans hb2
    exact h'.Qq i j bi bj (un hi) (un hj) Io
   have:=h'.ctx (2*i+1);rw[Zt]at this
   have e1:(enter s.mem args b cx).ctx (2*i+1)=s.ctx i:=by
    show cx (2*i+1)=_;simp only[cx];rw[al (by omega),show(2*i+1)/2=i by omega]
   rw[e1]at this;exact ij.clean hcl this ((alq ((hF.ctx i).wf)).mono zc) rfl
  have fin:a'.defers=[]∧∃v,(results fn a'.tmps).run P w'= .ok v w'∧∃v' G' E' m' r,ava v= .returned v'∧R m' r∧j9 B0 w0 nt G0 (s.j0 m') G' E' a w'∧ij G' E' (s.j0 m') r v':=
   ⟨h'.defers,v,k1,v,G',E',m',r,rfl,hR,Nb,ij.clean hcl k2 hr rfl⟩
  rcases he with rfl|rfl
  ·exact fin
  exact fin
 cases hf
theorem U2(hm:P.follows .mixedOrders=true){f:Nat}{an:Ann}{rc:di}{rs:List Il}{n':Nat}(hf:ew P f an=some (rc,rs,n')){s:PS}{args:List V}{R:Mem→V→Prop}(hn:args.length≤n')(b:Nat)
  (h:∀c,ko P rc (fun e s'=>(e= .normal∨e= .ret)∧∃m' r,R m' r∧sv s' rs=some r∧Leaves s.mem s' m' r) (enter s.mem args b c)):D0 P f s args R:=aa4 hm hf hn b fun c _=>h c
theorem mq(hm:P.follows .mixedOrders=true){f:Nat}{an:Ann}{rc:di}{rs:List Il}{n':Nat}(hf:ew P f an=some (rc,rs,n')){m m':Mem}{args:List V}{r:V}(hn:args.length≤n')(b:Nat)
  (h:∀c,ko P rc (fun e s=>(e= .normal∨e= .ret)∧sv s rs=some r∧Clean s.mem m') (enter m args b c))(zc:∀i,m.av i≤m'.av i)
  (To:∀i b,m'.da i=some b→m.da i=some b∨M4 m' b)(aBa:∀i es,m'.mp i=some es→m.mp i=some es∨∀e∈es,Nj m' e.2)(hr:Gu m' r):qz P f m args m' r:=by
 have k:∀s:PS,s.mem=m→D0 P f s args (fun m2 r2=>m2=m'∧r2=r):=by
  rintro s rfl;exact U2 hm hf hn b fun c=>Em (fun e s' ⟨h1,h2,h3⟩=>⟨h1,m',r,⟨rfl,rfl⟩,h2,⟨h3,zc,To,aBa,hr⟩⟩) (h c)
 refine⟨(k ((start []).j0 m) rfl).1,fun s B0 w0 nt G0 G E a w vs hs hF hl hrel=>((k s hs).2 B0 w0 nt G0 G E a w vs hF hl hrel).mono ?_⟩;rintro e w' ⟨v,G',E',m2,r2,h1,⟨rfl,rfl⟩,h2,h3⟩;exact⟨v,G',E',h1,h2,h3⟩
theorem qz.toR{f:Nat}{s:PS}{args:List V}{m':Mem}{r:V}(h:qz P f s.mem args m' r):D0 P f s args (fun m2 r2=>m2=m'∧r2=r):=
 ⟨h.1,fun B0 w0 nt G0 G E a w vs hF hl hrel=>(h.2 s B0 w0 nt G0 G E a w vs rfl hF hl hrel).mono fun _ _ ⟨v,G',E',h1,h2,h3⟩=>⟨v,G',E',m',r,h1,⟨rfl,rfl⟩,h2,h3⟩⟩
theorem a6s.toE{f:Nat}{s:PS}{ds:List D}{R:D→Prop}(h:a6s P f ds R):D0 P f s (ds.map .d) (fun m2 v=>m2=s.mem∧∃x,v= .d x∧R x):=by
 refine⟨h.1,fun B0 w0 nt G0 G E a w vs hF hl hrel=>(h.2 G w vs hF.gok (by simpa using hl) fun i x v hx hv=>hrel i (.d x) v (by simp[hx]) hv).mono ?_⟩;rintro e w' ⟨v,G',r,h1,h2,h3,h4,h5,h6,h7⟩;exact⟨v,G',E,s.mem,.d r,h1,⟨rfl,r,rfl,h2⟩,hF.a6m (h6.M7 fun _=>trivial) h3 h5 h4.1 h4.2,h7⟩
theorem arf(hm:P.follows .mixedOrders=true){f:Nat}{an:Ann}{rc:di}{rs:List Il}{nt:Nat}(hf:ew P f an=some (rc,rs,nt)){args:List D}{R:D→Prop}(hn:args.length≤nt)
  (h:ko P rc (fun e s=>(e= .normal∨e= .ret)∧∃r,Xt s rs=some r∧R r) (start args)):a6s P f args R:=by
 unfold ew at hf;split at hf
 ·cases hf
 rename_i fn hfn;split at hf
 ·cases hf
 rename_i Tm;split at hf
 ·cases hf
 rename_i c hb;split at hf
 ·rename_i rc' rs' h1 h2;simp only[aj,br]at hf;obtain⟨rfl,rfl,rfl⟩:=hf;simp only[En]at h;refine⟨by unfold yj;rw[hfn];simp[Tm,hb],fun G w vs hG hl hr=>?_⟩;refine calls_of_wp hfn hb (wp_mono (S3 hm c h1 (a8w hG hl hr hn) (a2x h)) fun e a' w' hg=>?_);obtain⟨s',G',E',⟨⟨he,r,ais,hR⟩,Zt⟩,h'⟩:=hg;obtain⟨v,G2,k1,k2,k3,k4,k5⟩:=P5 h' h2 ais
  have fin:a'.defers=[]∧∃v,(results fn a'.tmps).run P w'= .ok v w'∧∃v' G' r,ava v= .returned v'∧R r∧G.le G'∧G.same G' w.heap.size∧GOk G' w'∧Bel True w.heap.size w w'∧gj G' r v':=
   ⟨h'.defers,v,k1,v,G2,r,rfl,hR,k2,k3,k4,h'.below.M7 (fun _=>by rw[Zt];intro i v e;exact(aKh e).2.symm),k5⟩
  rcases he with rfl|rfl
  ·exact fin
  exact fin
 cases hf
end
end Go.PI
namespace Go.PI
def Vm(P:Program)(b:di)(Q:Exit→PS→Prop):Exit→PS→Prop
 | .normal,s=>ko P b Q s
 |e,s=>Q e s
def Q6(id:Nat)(Q:Exit→PS→Prop):Exit→PS→Prop
 | .exit i,s=>if i=id then Q .normal s else Q (.exit i) s
 |e,s=>Q e s
def ri(d:Nat)(o:jv):RI:=⟨some d,o,none,[]⟩
def rm(d x:Nat):RI:=⟨some d,.j7 (.t x),none,[]⟩
def rn(o:jv):RI:=⟨none,o,none,[]⟩
def rg(d t:Nat)(b:Bool)(o:jv):RI:=⟨some d,o,some (t,b),[]⟩
def rq(l:List RI)(c:di):di:= .seq (.region l false []) c
def rl(d n:Nat)(a:Bool)(x:Nat):RI:=⟨some d,.load n a (.t x),none,[]⟩
def rk(d x:Nat):RI:=⟨some d,.Y4 (.t x),none,[]⟩
def rf(d o x:Nat):RI:=⟨some d,.Fg o (.t x),none,[]⟩
def rx(d x i:Nat):RI:=⟨some d,.ext (.t x) i,none,[]⟩
def ci(n:Int):me:= .c (.int ab n)
def wi(d n a b:Nat):RI:=⟨some d,.sq n (.t a) (.t b),none,[]⟩
def wc(d:Nat)(n:Int):RI:=⟨some d,.j7 (.c (.int ab n)),none,[]⟩
def wd(d:Nat)(o:BinOp)(a:Nat)(n:Int):RI:=⟨some d,.bin o (.t a) (.c (.int ab n)),none,[]⟩
def wb(d:Nat)(o:BinOp)(a b:Nat):RI:=⟨some d,.bin o (.t a) (.t b),none,[]⟩
def ws(n a b:Nat):RI:=⟨none,.store n (.t a) (.t b),none,[]⟩
def wn(d a:Nat):RI:=⟨some d,.len .ft (.t a),none,[]⟩
def wa(d n k a:Nat)(i:Int):RI:=⟨some d,.ux n k (.t a) (.c (.int ab i)),none,[]⟩
def wf(d:Nat)(b:Bool):RI:=⟨some d,.j7 (.c (.bool b)),none,[]⟩
def wo(d:Nat):RI:=⟨some d,.j7 (.c .cq),none,[]⟩
def wp(d a b:Nat):RI:=⟨some d,.pick (.t a) (.t b) (.c (.bool false)),none,[]⟩
def wq(d a b:Nat):RI:=⟨some d,.pick (.t a) (.c (.bool true)) (.t b),none,[]⟩
def wx(d n a:Nat):RI:=⟨some d,.box n (.t a),none,[]⟩
def wm(d t:Nat)(b:Bool)(a:Nat):RI:=⟨some d,.j7 (.t a),some (t,b),[]⟩
def wl(d t:Nat)(b:Bool)(n:Nat)(c:Bool)(a:Nat):RI:=⟨some d,.load n c (.t a),some (t,b),[]⟩
def wt(a:Nat)(x y:di):di:= .cond (.t a) x y
theorem aHb{d n a b:Nat}:wi d n a b=⟨some d,.sq n (.t a) (.t b),none,[]⟩:=er rfl (fw _)
theorem aHe{d:Nat}{n:Int}:wc d n=⟨some d,.j7 (.c (.int ab n)),none,[]⟩:=er rfl (fw _)
theorem aHd{d:Nat}{o:BinOp}{a:Nat}{n:Int}:wd d o a n=⟨some d,.bin o (.t a) (.c (.int ab n)),none,[]⟩:=er rfl (fw _)
theorem aHf{d:Nat}{o:BinOp}{a b:Nat}:wb d o a b=⟨some d,.bin o (.t a) (.t b),none,[]⟩:=er rfl (fw _)
theorem aH4{n a b:Nat}:ws n a b=⟨none,.store n (.t a) (.t b),none,[]⟩:=er rfl (fw _)
theorem aH8{d a:Nat}:wn d a=⟨some d,.len .ft (.t a),none,[]⟩:=er rfl (fw _)
theorem aHg{d n k a:Nat}{i:Int}:wa d n k a i=⟨some d,.ux n k (.t a) (.c (.int ab i)),none,[]⟩:=er rfl (fw _)
theorem aHc{d:Nat}{b:Bool}:wf d b=⟨some d,.j7 (.c (.bool b)),none,[]⟩:=er rfl (fw _)
theorem aH7{d:Nat}:wo d=⟨some d,.j7 (.c .cq),none,[]⟩:=er rfl (fw _)
theorem aH6{d a b:Nat}:wp d a b=⟨some d,.pick (.t a) (.t b) (.c (.bool false)),none,[]⟩:=er rfl (fw _)
theorem aH5{d a b:Nat}:wq d a b=⟨some d,.pick (.t a) (.c (.bool true)) (.t b),none,[]⟩:=er rfl (fw _)
theorem aH2{d n a:Nat}:wx d n a=⟨some d,.box n (.t a),none,[]⟩:=er rfl (fw _)
theorem aH9{d t:Nat}{b:Bool}{a:Nat}:wm d t b a=⟨some d,.j7 (.t a),some (t,b),[]⟩:=er rfl (fw _)
theorem aHa{d t:Nat}{b:Bool}{n:Nat}{c:Bool}{a:Nat}:wl d t b n c a=⟨some d,.load n c (.t a),some (t,b),[]⟩:=er rfl (fw _)
theorem aH3{a:Nat}{x y:di}:wt a x y= .cond (.t a) x y:=er rfl (fw _)
theorem aHl{d n:Nat}{a:Bool}{x:Nat}:rl d n a x=⟨some d,.load n a (.t x),none,[]⟩:=er rfl (fw _)
theorem aHm{d x:Nat}:rk d x=⟨some d,.Y4 (.t x),none,[]⟩:=er rfl (fw _)
theorem aHp{d o x:Nat}:rf d o x=⟨some d,.Fg o (.t x),none,[]⟩:=er rfl (fw _)
theorem aHh{d x i:Nat}:rx d x i=⟨some d,.ext (.t x) i,none,[]⟩:=er rfl (fw _)
theorem aHq{n:Int}:ci n= .c (.int ab n):=er rfl (fw _)
theorem aHn{d:Nat}{o:jv}:ri d o=⟨some d,o,none,[]⟩:=er rfl (fw _)
theorem aHk{d x:Nat}:rm d x=⟨some d,.j7 (.t x),none,[]⟩:=er rfl (fw _)
theorem aHj{o:jv}:rn o=⟨none,o,none,[]⟩:=er rfl (fw _)
theorem aHo{d t:Nat}{b:Bool}{o:jv}:rg d t b o=⟨some d,o,some (t,b),[]⟩:=er rfl (fw _)
theorem aHi{l:List RI}{c:di}:rq l c= .seq (.region l false []) c:=er rfl (fw _)
def lg(rs:List Il)(r:D):Exit→PS→Prop:=fun e s=>(e= .normal∨e= .ret)∧Xt s rs=some r
def cif(v:V)(A B:Prop):Prop:=
 match v with
 | .d (.bool x)=>if x then A else B
 |_=>False
def goV(P:Program)(r:List RI)(K:PS→Prop)(d:Option Nat)(s:PS)(x:Option V):Prop:=
 match x with
 |some v=>l5 P r (s.put d v) K
 |none=>False
def goE(P:Program)(r:List RI)(K:PS→Prop)(d:Option Nat)(s:PS)(x:Option a6t):Prop:=
 match x with
 |some (ids,e)=>l5 P r (e.app d (s.ta ids)) K
 |none=>False
def Ab(P:Program)(r:List RI)(K:PS→Prop)(s:PS):Prop:=l5 P r s K
section
variable{P:Program}{Q:Exit→PS→Prop}{K:PS→Prop}{s:PS}{r:List RI}{d:Option Nat}{af:List Nat}
theorem a8n{a b:di}:ko P (.seq a b) Q s=ko P a (Vm P b Q) s:=by
 rw[a2w]
 congr 1
 funext e s'
 cases e<;>rfl
theorem avc{id:Nat}{c:di}:ko P (.block id c) Q s=ko P c (Q6 id Q) s:=by
 rw[Zb]
 congr 1
 funext e s'
 cases e<;>rfl
theorem apo{c:me}{a b:di}:ko P (.cond c a b) Q s=cif (c.ev s) (ko P a Q s) (ko P b Q s):=er rfl (fw _)
theorem Lj{b:di}:Vm P b Q .normal s=ko P b Q s:=er rfl (fw _)
theorem ame{b:di}{i:Nat}:Vm P b Q (.exit i) s=Q (.exit i) s:=er rfl (fw _)
theorem adh{b:di}:Vm P b Q .ret s=Q .ret s:=er rfl (fw _)
theorem acu{id:Nat}:Q6 id Q .normal s=Q .normal s:=er rfl (fw _)
theorem S9{id i:Nat}:Q6 id Q (.exit i) s=if i=id then Q .normal s else Q (.exit i) s:=er rfl (fw _)
theorem apa{id:Nat}:Q6 id Q .ret s=Q .ret s:=er rfl (fw _)
theorem ajb{rs:List Il}{x:D}:lg rs x .normal s=(Xt s rs=some x):=by simp[lg]
theorem acd{rs:List Il}{x:D}:lg rs x .ret s=(Xt s rs=some x):=by simp[lg]
theorem agj{x:Bool}{A B:Prop}:cif (.d (.bool x)) A B=if x then A else B:=er rfl (fw _)
theorem Ym{v:V}:goV P r K d s (some v)=l5 P r (s.put d v) K:=er rfl (fw _)
theorem Et{ids:List Nat}{e:lk}:goE P r K d s (some (ids,e))=l5 P r (e.app d (s.ta ids)) K:=er rfl (fw _)
theorem ar3:Ab P r K s=l5 P r s K:=er rfl (fw _)
theorem arn{x:me}:l5 P (⟨d,.j7 x,none,af⟩::r) s K=l5 P r (s.put d (x.ev s)) K:=er rfl (fw _)
theorem arq{n:Nat}{g:Bool}{x:me}:l5 P (⟨d,.load n g x,none,af⟩::r) s K=goV P r K d s (Br s n g (x.ev s)):=by
 show(match(Br s n g (x.ev s)).map lk.rz with|some (ids,e)=>_|none=>_)=_
 cases Br s n g (x.ev s)<;>rfl
theorem art{n:Nat}{x i:me}:l5 P (⟨d,.sq n x i,none,af⟩::r) s K=goV P r K d s (match i.ev s with| .d (.int _ k)=>Jv s n k (x.ev s)|_=>none):=by
 show(match(match i.ev s with| .d (.int _ k)=>(Jv s n k (x.ev s)).map lk.rz|_=>none)with|some (ids,e)=>_|none=>_)=_
 cases hi:i.ev s with
 |d z=>cases z with
  |int k n'=>simp only;cases Jv s n n' (x.ev s)<;>rfl
  |_=>rfl
 |_=>rfl
theorem ars{k:TK}{x:me}:l5 P (⟨d,.len k x,none,af⟩::r) s K=goV P r K d s ((O6 s k (x.ev s)).map fun n=> .d (.int ab n)):=by
 show(match(O6 s k (x.ev s)).map (fun n=>lk.rz (.d (.int ab n)))with|some (ids,e)=>_|none=>_)=_
 cases O6 s k (x.ev s)<;>rfl
def aEn(op:BinOp):V→V→Option V
 | .d a,.d b=>(a8k op a b).map .d
 |_,_=>none
theorem acv{op:BinOp}{a b:D}:aEn op (.d a) (.d b)=(a8k op a b).map .d:=er rfl (fw _)
theorem aep{op:BinOp}{x y:me}:l5 P (⟨d,.bin op x y,none,af⟩::r) s K=goV P r K d s (aEn op (x.ev s) (y.ev s)):=by
 show(match(match x.ev s,y.ev s with| .d a,.d b=>(a8k op a b).map fun r=>lk.rz (.d r)|_,_=>none)with|some (ids,e)=>_|none=>_)=_
 cases hx:x.ev s with
 |d a=>
  cases hy:y.ev s with
  |d b=>simp only[acv];cases a8k op a b<;>rfl
  |_=>rfl
 |_=>rfl
theorem ai4{c:me}{a:me}{b:me}:l5 P (⟨d,(.pick c a b),none,af⟩::r) s K=goE P r K d s ((jv.pick c a b).og (s.base+d.getD 0) s):=er rfl (fw _)
theorem al2{z:List D}:l5 P (⟨d,(.alloc z),none,af⟩::r) s K=goE P r K d s ((jv.alloc z).og (s.base+d.getD 0) s):=er rfl (fw _)
theorem aCy{n:Nat}{x:me}:l5 P (⟨d,(.box n x),none,af⟩::r) s K=goE P r K d s ((jv.box n x).og (s.base+d.getD 0) s):=er rfl (fw _)
theorem al1{n:Nat}{a:me}{x:me}:l5 P (⟨d,(.store n a x),none,af⟩::r) s K=goE P r K d s ((jv.store n a x).og (s.base+d.getD 0) s):=er rfl (fw _)
theorem awq{x:me}:l5 P (⟨d,(.Y4 x),none,af⟩::r) s K=goE P r K d s ((jv.Y4 x).og (s.base+d.getD 0) s):=er rfl (fw _)
theorem aCu{o:Nat}{x:me}:l5 P (⟨d,(.Fg o x),none,af⟩::r) s K=goE P r K d s ((jv.Fg o x).og (s.base+d.getD 0) s):=er rfl (fw _)
theorem aAo{l:Nat}{n:Nat}{x:me}{i:me}:l5 P (⟨d,(.ux l n x i),none,af⟩::r) s K=goE P r K d s ((jv.ux l n x i).og (s.base+d.getD 0) s):=er rfl (fw _)
theorem aAn{x:me}{i:me}:l5 P (⟨d,(.Zr x i),none,af⟩::r) s K=goE P r K d s ((jv.Zr x i).og (s.base+d.getD 0) s):=er rfl (fw _)
theorem aAq{o:Nat}{n:Nat}{g:Bool}{x:me}:l5 P (⟨d,(.a2q o n g x),none,af⟩::r) s K=goE P r K d s ((jv.a2q o n g x).og (s.base+d.getD 0) s):=er rfl (fw _)
theorem aCw{ks:List LK}{n:Bool}{x:me}{y:me}:l5 P (⟨d,(.eqs ks n x y),none,af⟩::r) s K=goE P r K d s ((jv.eqs ks n x y).og (s.base+d.getD 0) s):=er rfl (fw _)
theorem awt{k:TK}{n:Bool}{x:me}:l5 P (⟨d,(.Jl k n x),none,af⟩::r) s K=goE P r K d s ((jv.Jl k n x).og (s.base+d.getD 0) s):=er rfl (fw _)
theorem aCz{n:Bool}{x:me}{y:me}:l5 P (⟨d,(.beq n x y),none,af⟩::r) s K=goE P r K d s ((jv.beq n x y).og (s.base+d.getD 0) s):=er rfl (fw _)
theorem aFt{op:UnOp}{x:me}:l5 P (⟨d,(.un op x),none,af⟩::r) s K=goE P r K d s ((jv.un op x).og (s.base+d.getD 0) s):=er rfl (fw _)
theorem aAs{k:IntKind}{x:me}:l5 P (⟨d,(.conv k x),none,af⟩::r) s K=goE P r K d s ((jv.conv k x).og (s.base+d.getD 0) s):=er rfl (fw _)
theorem awv{x:me}:l5 P (⟨d,(.a19 x),none,af⟩::r) s K=goE P r K d s ((jv.a19 x).og (s.base+d.getD 0) s):=er rfl (fw _)
theorem ax0{z:List D}{ps:List (Nat×Nat×me)}:l5 P (⟨d,(.build z ps),none,af⟩::r) s K=goE P r K d s ((jv.build z ps).og (s.base+d.getD 0) s):=er rfl (fw _)
theorem aAu{im:Bool}{n:Nat}{sz:Nat}{z:List D}{ps:List (Nat×Nat×me)}:l5 P (⟨d,(.yk im n sz z ps),none,af⟩::r) s K=goE P r K d s ((jv.yk im n sz z ps).og (s.base+d.getD 0) s):=er rfl (fw _)
theorem Lo{sz:Nat}{b:Nat}{x:me}{y:me}:l5 P (⟨d,(.app sz b x y),none,af⟩::r) s K=goE P r K d s ((jv.app sz b x y).og (s.base+d.getD 0) s):=er rfl (fw _)
theorem awp{n:Nat}{x:me}{lo:Option me}{hi:Option me}:l5 P (⟨d,(.slice n x lo hi),none,af⟩::r) s K=goE P r K d s ((jv.slice n x lo hi).og (s.base+d.getD 0) s):=er rfl (fw _)
theorem awr:l5 P (⟨d,.H9,none,af⟩::r) s K=goE P r K d s (jv.H9.og (s.base+d.getD 0) s):=er rfl (fw _)
theorem arp{kk:KK}{z:D}{x:me}{i:me}{ok:Bool}:l5 P (⟨d,(.lookup kk z x i ok),none,af⟩::r) s K=goE P r K d s ((jv.lookup kk z x i ok).og (s.base+d.getD 0) s):=er rfl (fw _)
theorem aAk{kk:KK}{x:me}{k:me}{v:me}:l5 P (⟨d,(.Wd kk x k v),none,af⟩::r) s K=goE P r K d s ((jv.Wd kk x k v).og (s.base+d.getD 0) s):=er rfl (fw _)
theorem aws{f:Nat}{iy:List me}:l5 P (⟨d,(.Lr f iy),none,af⟩::r) s K=goE P r K d s ((jv.Lr f iy).og (s.base+d.getD 0) s):=er rfl (fw _)
theorem aCv{x:me}{i:Nat}:l5 P (⟨d,(.ext x i),none,af⟩::r) s K=goE P r K d s ((jv.ext x i).og (s.base+d.getD 0) s):=er rfl (fw _)
theorem aro{mx:Bool}{x:me}{y:me}:l5 P (⟨d,(.Ee mx x y),none,af⟩::r) s K=goE P r K d s ((jv.Ee mx x y).og (s.base+d.getD 0) s):=er rfl (fw _)
theorem arx{n:Nat}:l5 P (⟨d,(.ze n),none,af⟩::r) s K=goE P r K d s ((jv.ze n).og (s.base+d.getD 0) s):=er rfl (fw _)
theorem aAl{g:Nat}{n:Nat}{x:me}:l5 P (⟨d,(.init g n x),none,af⟩::r) s K=goE P r K d s ((jv.init g n x).og (s.base+d.getD 0) s):=er rfl (fw _)
theorem arw{f:Nat}{args:List me}:l5 P (⟨d,.call f args,none,af⟩::r) s K=F9 P f (args.map (·.ev s)) [] false d s (Ab P r K):=er rfl (fw _)
theorem ak0{f:Nat}{args:List V}{iy ds:List D}{own:Bool}{x:D}(h1:J0 s args=some ds)(h2:iq P f (ds++iy) x)(h3:x.flat=true∨(own=false∧args.all V.isD=true))(h4:l5 P r (s.put d (.d x)) K):F9 P f args iy own d s (Ab P r K):=
 ⟨ds,x,h1,h2.toC,h3,h4⟩
theorem Ao{f:Nat}{x:D}(h2:iq P f [] x)(h4:l5 P r (s.put d (.d x)) K):F9 P f [] [] false d s (Ab P r K):=⟨[],x,rfl,h2.toC,.inr ⟨rfl,rfl⟩,h4⟩
theorem ff{f:Nat}{a x:D}(h2:iq P f [a] x)(h4:l5 P r (s.put d (.d x)) K):F9 P f [.d a] [] false d s (Ab P r K):=⟨[a],x,rfl,h2.toC,.inr ⟨rfl,rfl⟩,h4⟩
theorem il{f:Nat}{a b x:D}(h2:iq P f [a,b] x)(h4:l5 P r (s.put d (.d x)) K):F9 P f [.d a,.d b] [] false d s (Ab P r K):=⟨[a,b],x,rfl,h2.toC,.inr ⟨rfl,rfl⟩,h4⟩
theorem Gh{f:Nat}{a b c x:D}(h2:iq P f [a,b,c] x)(h4:l5 P r (s.put d (.d x)) K):F9 P f [.d a,.d b,.d c] [] false d s (Ab P r K):=⟨[a,b,c],x,rfl,h2.toC,.inr ⟨rfl,rfl⟩,h4⟩
theorem Zk{op:jv}{t:Nat}{b:Bool}(h:s.tmp t= .d (.bool b)):l5 P (⟨d,op,some (t,b),af⟩::r) s K=l5 P (⟨d,op,none,af⟩::r) s K:=by
 have e:wanted (⟨d,op,some (t,b),af⟩:RI) s=some true:=by unfold wanted;simp[h]
 rw[B5,e,B5];rfl
theorem ans{op:jv}{t:Nat}{b:Bool}(h:s.tmp t= .d (.bool !b)):l5 P (⟨d,op,some (t,b),af⟩::r) s K=l5 P r (s.put d (.d (.Aa []))) K:=by
 have e:wanted (⟨d,op,some (t,b),af⟩:RI) s=some false:=by unfold wanted;simp only[h];cases b<;>rfl
 rw[B5,e]
theorem anr{op:jv}{t:Nat}{b:Bool}(h:s.tmp t= .d (.Aa [])):l5 P (⟨d,op,some (t,b),af⟩::r) s K=l5 P r (s.put d (.d (.Aa []))) K:=by
 have e:wanted (⟨d,op,some (t,b),af⟩:RI) s=some false:=by unfold wanted;simp only[h]
 rw[B5,e]
theorem ad9{c:me}{a b:di}(h:c.ev s= .d (.bool true)):ko P (.cond c a b) Q s=ko P a Q s:=by
 rw[apo,h,agj,bm rfl]
theorem ada{c:me}{a b:di}(h:c.ev s= .d (.bool false)):ko P (.cond c a b) Q s=ko P b Q s:=by
 rw[apo,h,agj,al (by decide)]
theorem aA3{b:Nat}:sh b []=[]:=rfl
theorem avl{b i:Nat}{l:List Nat}:sh b (i::l)=(b+i)::sh b l:=rfl
theorem ak9:pt []=[]:=rfl
theorem ago{o:RI}{l:List RI}:pt (o::l)=o.pt++pt l:=rfl
theorem Tc{ops:List RI}:ko P (.region ops false []) Q s=l5 P ops s (Q .normal):=er rfl (fw _)
theorem ar1{ops:List RI}:ko P (.region ops true []) Q s=l5 P ops (s.ta (sh s.base (pt ops))) (Q .normal):=er rfl (fw _)
theorem arl{n:Nat}{x j k:me}:l5 P (⟨d,(.slice3 n x j k),none,af⟩::r) s K=goE P r K d s ((jv.slice3 n x j k).og (s.base+d.getD 0) s):=er rfl (fw _)
theorem aAm{l n:Nat}{g:Bool}{x i:me}:l5 P (⟨d,(.a4z l n g x i),none,af⟩::r) s K=goE P r K d s ((jv.a4z l n g x i).og (s.base+d.getD 0) s):=er rfl (fw _)
def ag5(P:Program)(f:Nat)(args:List V)(d:Option Nat)(s:PS)(K:PS→Prop):Prop:=∃m' x,qz P f s.mem args m' x∧K ((s.j0 m').put d x)
def aze(P:Program)(f:Nat)(args:List V)(d:Option Nat)(s:PS)(K:PS→Prop):Prop:=∃x,apj P f s args x∧K (s.put d (.d x))
theorem awz{f:Nat}{args:List me}:l5 P (⟨d,.yr f args,none,af⟩::r) s K=ag5 P f (args.map (·.ev s)) d s (Ab P r K):=er rfl (fw _)
theorem awy{f:Nat}{args:List me}:l5 P (⟨d,.Vw f args,none,af⟩::r) s K=aze P f (args.map (·.ev s)) d s (Ab P r K):=er rfl (fw _)
theorem jr{f:Nat}{args:List V}{m':Mem}{x:V}(h1:qz P f s.mem args m' x)(h2:l5 P r ((s.j0 m').put d x) K):ag5 P f args d s (Ab P r K):=⟨m',x,h1,h2⟩
theorem G3{f:Nat}{args:List V}{x:D}(h1:apj P f s args x)(h2:l5 P r (s.put d (.d x)) K):aze P f args d s (Ab P r K):=⟨x,h1,h2⟩
def ali(P:Program)(c:Option D)(own:Bool)(args:List V)(d:Option Nat)(s:PS)(K:PS→Prop):Prop:=
 match c with
 |some (.nu g iy)=>F9 P g args iy own d s K
 |_=>False
theorem aoz{g:Nat}{iy:List D}{own:Bool}{args:List V}:ali P (some (.nu g iy)) own args d s K=F9 P g args iy own d s K:=er rfl (fw _)
theorem aww{f:me}{args:List me}:l5 P (⟨d,.wv f args,none,af⟩::r) s K=ali P (snap s (f.ev s)) (!(f.ev s).isD) (args.map (·.ev s)) d s (Ab P r K):=by
 show(match snap s (f.ev s)with|some (.nu g iy)=>F9 P g (args.map fun x:me=>x.ev s) iy (!(f.ev s).isD) d s (Ab P r K)|_=>False)=_
 unfold ali;split<;>rfl
theorem a6j{f:Nat}{iy:List D}{a x:D}(h2:iq P f (a::iy) x)(h4:l5 P r (s.put d (.d x)) K):F9 P f [.d a] iy false d s (Ab P r K):=⟨[a],x,rfl,h2.toC,.inr ⟨rfl,rfl⟩,h4⟩
theorem O8{f:Nat}{iy:List D}{a b x:D}(h2:iq P f (a::b::iy) x)(h4:l5 P r (s.put d (.d x)) K):F9 P f [.d a,.d b] iy false d s (Ab P r K):=⟨[a,b],x,rfl,h2.toC,.inr ⟨rfl,rfl⟩,h4⟩
def ab8(P:Program)(f:Nat)(args:List V)(d:Option Nat)(s:PS)(K:PS→Prop):Prop:=∃R,D0 P f s args R∧∀m' x,R m' x→K ((s.j0 m').put d x)
theorem awx{f:Nat}{args:List me}:l5 P (⟨d,.qb f args,none,af⟩::r) s K=ab8 P f (args.map (·.ev s)) d s (Ab P r K):=er rfl (fw _)
theorem kg{f:Nat}{args:List V}{R:Mem→V→Prop}(h1:D0 P f s args R)(h2:∀m' x,R m' x→l5 P r ((s.j0 m').put d x) K):ab8 P f args d s (Ab P r K):=⟨R,h1,h2⟩
def ajo(P:Program)(v:V)(args:List V)(d:Option Nat)(s:PS)(K:PS→Prop):Prop:=
 match v with
 | .d (.nu g iy)=>ab8 P g (args++iy.map .d) d s K
 |_=>False
theorem a6b{g:Nat}{iy:List D}{args:List V}:ajo P (.d (.nu g iy)) args d s K=ab8 P g (args++iy.map .d) d s K:=er rfl (fw _)
theorem aeo{f:me}{args:List me}:l5 P (⟨d,.O9 f args,none,af⟩::r) s K=ajo P (f.ev s) (args.map (·.ev s)) d s (Ab P r K):=by
 show(match f.ev s with| .d (.nu g iy)=>∃R,D0 P g s ((args.map fun x:me=>x.ev s)++iy.map V.d) R∧∀m' x,R m' x→Ab P r K ((s.j0 m').put d x)|_=>False)=_
 unfold ajo;split<;>rfl
theorem aru{n sz:Nat}{z:List D}{ps:List (Nat×Nat×me)}:l5 P (⟨d,(.a09 n sz z ps),none,af⟩::r) s K=goE P r K d s ((jv.a09 n sz z ps).og (s.base+d.getD 0) s):=er rfl (fw _)
theorem ark{n:Nat}{x j:me}:l5 P (⟨d,(.No n x j),none,af⟩::r) s K=goE P r K d s ((jv.No n x j).og (s.base+d.getD 0) s):=er rfl (fw _)
theorem aAw{sz b:Nat}{z:List D}{x y:me}:l5 P (⟨d,(.a2t sz b z x y),none,af⟩::r) s K=goE P r K d s ((jv.a2t sz b z x y).og (s.base+d.getD 0) s):=er rfl (fw _)
theorem aAt{x:me}:l5 P (⟨d,(.acn x),none,af⟩::r) s K=goE P r K d s ((jv.acn x).og (s.base+d.getD 0) s):=er rfl (fw _)
theorem aAv{l n:Nat}{x:me}:l5 P (⟨d,(.acw l n x),none,af⟩::r) s K=goE P r K d s ((jv.acw l n x).og (s.base+d.getD 0) s):=er rfl (fw _)
theorem aAr{n:Nat}{x j k:me}:l5 P (⟨d,(.Hg n x j k),none,af⟩::r) s K=goE P r K d s ((jv.Hg n x j k).og (s.base+d.getD 0) s):=er rfl (fw _)
theorem aAi{n:Nat}{x:me}{lo hi mx:Option me}:l5 P (⟨d,(.Qb n x lo hi mx),none,af⟩::r) s K=goE P r K d s ((jv.Qb n x lo hi mx).og (s.base+d.getD 0) s):=er rfl (fw _)
theorem aAj{x:me}:l5 P (⟨d,(.trim x),none,af⟩::r) s K=goE P r K d s ((jv.trim x).og (s.base+d.getD 0) s):=er rfl (fw _)
theorem aCx{z:List D}{x:me}:l5 P (⟨d,(.clr z x),none,af⟩::r) s K=goE P r K d s ((jv.clr z x).og (s.base+d.getD 0) s):=er rfl (fw _)
def azd(P:Program)(kk:KK)(sz b:Nat)(x k y:V)(ts:List Nat)(d:Option Nat)(s:PS)(K:PS→Prop):Prop:=∃id s',ale s id kk sz b x k y ts s'∧K (s'.put d .no)
theorem aAp{kk:KK}{sz b:Nat}{x k y:me}{ts:List Nat}:l5 P (⟨d,(.a04 kk sz b x k y ts),none,af⟩::r) s K=azd P kk sz b (x.ev s) (k.ev s) (y.ev s) ts d s (Ab P r K):=er rfl (fw _)
theorem agz{a b:di}:ko P (.both a b) Q s=(ko P a Q s∧ko P b Q s):=er rfl (fw _)
theorem T7(ids:List Nat)(h:Q .normal (s.uu ids)):ko P .freeze Q s:=⟨ids,h⟩
theorem a4a{n:Nat}{v:V}:s.put (some n) v={s with tmp:=lb s.tmp n v}:=er rfl (fw _)
theorem arb{v:V}:s.put none v=s:=er rfl (fw _)
theorem afx{n:Nat}:(me.t n).ev s=s.tmp n:=er rfl (fw _)
theorem aEb{x:D}:(me.c x).ev s= .d x:=er rfl (fw _)
end
section
variable{P:Program}{Q:Exit→PS→Prop}{K:PS→Prop}{s:PS}{r:List RI}{d:Option Nat}{af:List Nat}
def ay4(n k:Nat)(I:Nat→PS→Prop)(Q:Exit→PS→Prop):Exit→PS→Prop
 | .normal,s=>k<n∧I (k+1) s
 |e,s=>Q e s
theorem a5p{n k:Nat}{I:Nat→PS→Prop}:ay4 n k I Q .normal s=(k<n∧I (k+1) s):=er rfl (fw _)
theorem at5{n k i:Nat}{I:Nat→PS→Prop}:ay4 n k I Q (.exit i) s=Q (.exit i) s:=er rfl (fw _)
theorem ay3{n k:Nat}{I:Nat→PS→Prop}:ay4 n k I Q .ret s=Q .ret s:=er rfl (fw _)
theorem fh{c:di}(n:Nat)(I:Nat→PS→Prop)(h0:I 0 s)(h:∀k s',k≤n→I k s'→ko P c (ay4 n k I Q) s'):ko P (.loop c) Q s:=by
 refine aqy (fun s'=>∃k,k≤n∧I k s') (fun s'=>leastOf fun j=>∃k,k≤n∧n-k=j∧I k s') ⟨0,a3g _,h0⟩ ?_;rintro s' ⟨k0,hk0,hI0⟩;obtain⟨⟨k,hk,hj,hI⟩,_⟩:=leastOf_spec (p:=fun j=>∃k,k≤n∧n-k=j∧I k s') ⟨n-k0,k0,hk0,rfl,hI0⟩;refine Em (fun e s'' hQ=>?_) (h k s' hk hI)
 cases e with
 |normal=>
  obtain⟨hlt,hI'⟩:=hQ;refine⟨⟨k+1,hlt,hI'⟩,?_⟩;have:=(leastOf_spec (p:=fun j=>∃k,k≤n∧n-k=j∧I k s'') ⟨n-(k+1),k+1,hlt,rfl,hI'⟩).2 _ ⟨k+1,hlt,rfl,hI'⟩;omega
 |_=>exact hQ
def se(s:PS)(id sz:Nat)(dd:List (List D))(v:V):Prop:=
 (dd=[]∧v= .d .cq)∨(dd≠[]∧v= .ref id (s.av id) dd.length∧s.da id=some (.arr sz dd))
theorem se.nil{id sz:Nat}:se s id sz [] (.d .cq):= .inl ⟨rfl,rfl⟩
theorem se.mono{s s':PS}{id sz:Nat}{dd:List (List D)}{v:V}(h:se s id sz dd v)(hv:s'.av id=s.av id)(hb:s'.da id=s.da id):se s' id sz dd v:=by
 rcases h with ⟨h1,h2⟩|⟨h1,h2,h3⟩
 ·exact .inl ⟨h1,h2⟩
 exact .inr ⟨h1,by rw[hv];exact h2,by rw[hb];exact h3⟩
structure Grown(s s':PS)(d id sz:Nat)(dd:List (List D)):Prop where
 tmp:s'.tmp=lb s.tmp d (.ref id (s'.av id) dd.length)
 da:s'.da=lb s.da id (some (.arr sz dd))
 av:∀j,j≠id→s'.av j=s.av j
 mp:s'.mp=s.mp
 base:s'.base=s.base
theorem Grown.acc{s s':PS}{d id sz:Nat}{dd:List (List D)}(h:Grown s s' d id sz dd)(hne:dd≠[]):se s' id sz dd (s'.tmp d):=
 .inr ⟨hne,by rw[h.tmp,ck],by rw[h.da,ck]⟩
theorem s5{d sz b:Nat}{x y:me}{dd ys:List (List D)}{osz:Option Nat}(hx:se s (s.base+d) sz dd (x.ev s))(hy:qm s (y.ev s)=some (ys,osz))(B6:osz.getD sz=sz)
  (Ae:(ys.all fun e=>e.all D.one)=true)(hb:(dd.length+ys.length)*b≤2^47)(hne:ys≠[])(h:∀s',Grown s s' d (s.base+d) sz (dd++ys)→l5 P r s' K):
  l5 P (⟨some d,.app sz b x y,none,af⟩::r) s K:=by
 rw[Lo];have hl:0<ys.length:=a1i.2 hne;rcases hx with ⟨rfl,hx⟩|⟨asm,hx,hblk⟩
 ·simp only[jv.og,hx,hy,B6,j6];rw[bm trivial,al (by omega),bm (by simpa using hb),Et];refine h _ ⟨?_,?_,?_,rfl,rfl⟩
  ·simp[lk.app,PS.put,PS.ta,ck]
  ·simp[lk.app,PS.put,PS.ta]
  intro j hj;simp[lk.app,PS.put,PS.ta,gu _ _ _ _ hj]
 have he:s.dd (s.base+d) (s.av (s.base+d))=some (sz,dd):=by
  unfold PS.dd;rw[bm rfl,hblk]
 simp only[jv.og,hx,hy,B6,j6,he];rw[bm trivial,bm ⟨Ae,trivial,trivial,hb⟩,Et];refine h _ ⟨?_,?_,?_,rfl,rfl⟩
 ·simp[lk.app,PS.put,PS.ta]
 ·simp[lk.app,PS.put,PS.ta]
 intro j hj;simp[lk.app,PS.put,PS.ta]
def ao0(M:PS→Prop)(Q:Exit→PS→Prop):Exit→PS→Prop
 | .normal,s=>M s
 |e,s=>Q e s
theorem aib{M:PS→Prop}:ao0 M Q .normal s=M s:=er rfl (fw _)
theorem as2{M:PS→Prop}{i:Nat}:ao0 M Q (.exit i) s=Q (.exit i) s:=er rfl (fw _)
theorem ax7{M:PS→Prop}:ao0 M Q .ret s=Q .ret s:=er rfl (fw _)
theorem aky{c b:di}(M:PS→Prop)(h1:ko P c (ao0 M Q) s)(h2:∀s',M s'→ko P b Q s'):ko P c (Vm P b Q) s:=
 Em (fun e s' h=>by cases e<;>first|exact h2 s' h|exact h) h1
theorem Xs{l:List RI}(M:PS→Prop)(h1:l5 P l s M)(h2:∀s',M s'→K s'):l5 P l s K:=a99 h2 h1
theorem r9{c b:di}{i:Nat}(M:PS→Prop)(h1:ko P c (Q6 i (ao0 M Q)) s)(h2:∀s',M s'→ko P b Q s'):ko P c (Q6 i (Vm P b Q)) s:=
 Em (fun e s' h=>by
  cases e with
  |exit j=>
   rw[S9]at h⊢;split
   ·rename_i hj;rw[bm hj]at h;exact h2 s' h
   rename_i hj;rw[al hj]at h;exact h
  |normal=>exact h2 s' h
  |_=>exact h) h1
def Ii(s:PS)(ids:List Nat)(j:Nat):Option B:=match s.da j with
 |some (.loc cs)=>some (.loc (cs.map (C.uu s ids)))
 |some (.qq sz dd)=>some (Y2 (.qq sz (dd.map fun e=>e.map (C.uu s ids))))
 |b=>b
def a9y(s:PS)(ids:List Nat)(j:Nat):Option (List (D×C)):=(s.mp j).map fun es=>es.map fun e=>(e.1,C.uu s ids e.2)
theorem alf(i:Nat):s.uu [i]={s with tmp:=fun t=>(s.tmp t).uu s [i],da:=lb (Ii s [i]) i none,mp:=lb (a9y s [i]) i none}:=rfl
theorem Yn{ids:List Nat}(h:ids≠[]):s.uu ids=PS.ta ids {s with tmp:=fun t=>(s.tmp t).uu s ids,da:=Ii s ids,mp:=a9y s ids}:=by
 cases ids with
 |nil=>exact absurd rfl h
 |cons i r=>rfl
theorem Jt{ids:List Nat}(h:ids≠[])(t:Nat):(s.uu ids).tmp t=(s.tmp t).uu s ids:=by rw[Yn h,a34]
theorem Le{ids:List Nat}(h:ids≠[]){i:Nat}(hi:i∉ids):(s.uu ids).da i=Ii s ids i:=by rw[Yn h,(Zg _ _ _).1,al hi]
theorem ac7{ids:List Nat}(h:ids≠[]){i:Nat}(hi:i∉ids):(s.uu ids).mp i=a9y s ids i:=by rw[Yn h,(Zg _ _ _).2,al hi]
theorem a30(ids:List Nat):∀(s:PS),(s.ta ids).av=s.av:=by
 induction ids with
 |nil=>intro s;rfl
 |cons i r ih=>intro s;exact ih _
theorem a3b{ids:List Nat}(h:ids≠[]):(s.uu ids).av=s.av:=by rw[Yn h,a30]
theorem an8{ops:List RI}{fz:List Nat}:ko P (.region ops true fz) Q s=l5 P ops ((s.uu (sh s.base fz)).ta (sh s.base (pt ops))) (Q .normal):=er rfl (fw _)
theorem iq.M7{f:Nat}{args:List D}{r r':D}(h:iq P f args r)(hw:∀G v,gj G r v→gj G r' v):iq P f args r':=by
 refine⟨h.1,fun G w vs hG hl hr=>(h.2 G w vs hG hl hr).mono ?_⟩;rintro e w' ⟨v,G',he,k1,k2,k3,k4,k5⟩;exact⟨v,G',he,k1,k2,k3,k4,hw _ _ k5⟩
theorem iq.split{f sz:Nat}{asL:List D}{r:D}(h1:iq P f (.cq::asL) r)(h2:iq P f (.Np::asL) r):iq P f (.ft sz []::asL) r:=by
 refine⟨h1.1,fun G w vs hG hl hr=>?_⟩
 have hl':vs.size=asL.length+1:=by simpa using hl
 have h0:=hr 0 (.ft sz []) vs[0] rfl (bd (by omega))
 have rest:∀y:D,gj G y vs[0]→∀(i:Nat) (x:D) (v:Value),(y::asL)[i]? =some x→vs[i]? =some v→gj G x v:=by
  intro y hy i x v hx hv
  cases i with
  |zero=>
   simp only[dm,aj]at hx;rw[bd (by omega)]at hv
   injection hv with hv
   subst hx hv;exact hy
  |succ i=>exact hr (i+1) x v hx hv
 generalize hv0:vs[0]=v0 at h0 rest
 cases h0 with
 |V6=>exact h1.2 G w vs hG (by simpa using hl) (rest _ .cq)
 |ft=>exact h2.2 G w vs hG (by simpa using hl) (rest _ .Np)
 |Xg=>exact h2.2 G w vs hG (by simpa using hl) (rest _ .Np)
theorem Ku{sz:Nat}:∀G v,gj G .cq v→gj G (.ft sz []) v:=by
 intro G v h;cases h;exact .V6
end
attribute [go_sem] aHb aHe aHd aHf aH4 aH8 aHg aHc aH7 aH6 aH5 aH2 aH9 aHa aH3 aHl aHm aHp aHh aHq azs List.getD_cons_succ aHn aHk aHj aHo aHi gf ni ae7 Tc ar1 a8n ad9 ada avc ar0 ab3 Lj ame adh acu S9 apa acd ajb Te Zk ans anr arn ai4 ars aep art arq aCy al2 aAo aAn aAm ax0 al1 awq aCu aAq aCw awt aCz aFt aAs awv aAu awp arl aru ark aAi aAj aCx aAw aAt aAv aAr aAp awr arp aAk aws aCv aro arx aAl arw awz awy aww aoz awx aeo a6b Ym Et a4a arb afx aEb ak ago ak9 RI.pt aA3 avl PS.ta ar3 a63 V7 Qp Yr PS.Iw B.Cz mkt V.ent PS.elc aF3 Li dm gl jv.og V.cells List.map a3h lk.app PS.put lk.rz R3 PS.cs PS.dd Option.getD aKx Option.bind Br ye O6 Jv aL7 aL9 mkv mkd Om C.toV V.toC acv a8k a0z aki Xt ahs a0q Xv aCb Int.le_refl Int.toNat_zero aly fj Bw and_self or_true true_or true_and and_true Jk Ly patch List.append xz N1 y0 Vi aJ5 C.one D.one aKb Gy uh ay ca ed aI9 alz List.drop_succ_cons aJa Ot Pv fk Bool.true_eq_false ne_eq not_false_eq_true not_true_eq_false decide_true decide_false alv Option.toList_none start gt_iff_lt ge_iff_le J0 snap V.isD D.flat D.scalar aj D.bool.injEq D.int.injEq V.live As O2 dj ee isNil a5p at5 ay3 aib as2 ax7 Nat.lt_irrefl Int.lt_irrefl eq_self s7 Nz Vu chunks aut aI8
def Pj:di:=
 rq [wx 3 2 0,wx 4 2 1,wx 5 2 2,wc 6 0] (rq [wa 7 2 1 4 0,rl 8 1 false 7,wa 9 2 1 3 0,
 rl 10 1 false 9,wb 11 .sub 8 10,wa 12 2 1 5 1,rl 13 1 false 12,wa 14 2 1 3 1,rl 15 1 false 14,
 wb 16 .sub 13 15,wb 17 .mul 11 16,wa 18 2 1 4 1,rl 19 1 false 18,wa 20 2 1 3 1,rl 21 1 false 20,
 wb 22 .sub 19 21,wa 23 2 1 5 0,rl 24 1 false 23,wa 25 2 1 3 0,rl 26 1 false 25,wb 27 .sub 24 26,
 wb 28 .mul 22 27,wb 29 .sub 17 28,rm 6 29] bo)
def J7:di:=
 rq [wc 2 0] (ar (cn 0 (rq [rm 4 0,wd 5 .lss 4 0,rm 3 5] (wt 3 (rq [wc 2 (-1)] bo) (rq [rm 7 0,
 wd 8 .gtr 7 0,rm 6 8] (wt 6 (rq [wc 2 1] bo) bn))))) (rq [wc 2 0] bo))
def Pf:di:=
 rq [wx 2 2 0,wx 3 2 1,ri 4 (.alloc [.int ab 0,.int ab 0])] (rq [wa 5 2 1 2 0,rl 6 1 false 5,
 wa 7 2 1 3 0,rl 8 1 false 7,wb 9 .sub 6 8,wa 10 2 1 2 1,rl 11 1 false 10,wa 12 2 1 3 1,
 rl 13 1 false 12,wb 14 .sub 11 13,ri 15 (.build [.int ab 0,.int ab 0] [(0,1,.t 9),(1,1,.t 14)]),ws 2 4 15] bo)
def Ev:di:=
 rq [wx 1 2 0,wf 2 false] (rq [wa 3 2 1 1 0,rl 4 1 false 3,wd 5 .geq 4 (-500),rm 6 5,
 rg 7 6 true (.ux 2 1 (.t 1) (ci 0)),wl 8 6 true 1 false 7,rg 9 6 true (.bin .leq (.t 8) (ci 500)),wp 10 6 9,rm 11 10,
 rg 12 11 true (.ux 2 1 (.t 1) (ci 1)),wl 13 11 true 1 false 12,rg 14 11 true (.bin .geq (.t 13) (ci (-500))),
 wp 15 11 14,rm 16 15,rg 17 16 true (.ux 2 1 (.t 1) (ci 1)),wl 18 16 true 1 false 17,
 rg 19 16 true (.bin .leq (.t 18) (ci 500)),wp 20 16 19,rm 2 20] bo)
def W7(my:Nat):di:=
 rq [wx 2 4 0,wx 3 2 1,wf 4 false] (ar (rq [rf 5 0 2,rl 6 2 true 5,rf 7 2 2,rl 8 2 true 7,rl 9 2 true 3,
 ri 10 (.call my [.t 6,.t 8,.t 9]),wd 11 .neq 10 0] (wt 11 (rq [wf 4 false] bo) bn)) (rq [rf 12 0 2,
 wa 13 2 1 12 0,rl 14 1 false 13,rf 15 2 2,wa 16 2 1 15 0,rl 17 1 false 16,ri 18 (.Ee false (.t 14) (.t 17)),
 wa 19 2 1 3 0,rl 20 1 false 19,wb 21 .leq 18 20,rm 22 21,rg 23 22 true (.ux 2 1 (.t 3) (ci 0)),wl 24 22 true 1 false 23,
 rg 25 22 true (.Fg 0 (.t 2)),rg 26 22 true (.ux 2 1 (.t 25) (ci 0)),wl 27 22 true 1 false 26,rg 28 22 true (.Fg 2 (.t 2)),
 rg 29 22 true (.ux 2 1 (.t 28) (ci 0)),wl 30 22 true 1 false 29,rg 31 22 true (.Ee true (.t 27) (.t 30)),rg 32 22 true (.bin .leq (.t 24) (.t 31)),
 wp 33 22 32,rm 34 33,rg 35 34 true (.Fg 0 (.t 2)),rg 36 34 true (.ux 2 1 (.t 35) (ci 1)),wl 37 34 true 1 false 36,
 rg 38 34 true (.Fg 2 (.t 2)),rg 39 34 true (.ux 2 1 (.t 38) (ci 1)),wl 40 34 true 1 false 39,rg 41 34 true (.Ee false (.t 37) (.t 40)),
 rg 42 34 true (.ux 2 1 (.t 3) (ci 1)),wl 43 34 true 1 false 42,rg 44 34 true (.bin .leq (.t 41) (.t 43)),wp 45 34 44,
 rm 46 45,rg 47 46 true (.ux 2 1 (.t 3) (ci 1)),wl 48 46 true 1 false 47,rg 49 46 true (.Fg 0 (.t 2)),rg 50 46 true (.ux 2 1 (.t 49) (ci 1)),
 wl 51 46 true 1 false 50,rg 52 46 true (.Fg 2 (.t 2)),rg 53 46 true (.ux 2 1 (.t 52) (ci 1)),wl 54 46 true 1 false 53,
 rg 55 46 true (.Ee true (.t 51) (.t 54)),rg 56 46 true (.bin .leq (.t 48) (.t 55)),wp 57 46 56,rm 4 57] bo))
def Kn(my Am:Nat):di:=
 rq [wx 2 4 0,wx 3 4 1,wf 4 false] (ar (bz [rf 5 0 2,rl 6 2 true 5,rf 7 2 2,rl 8 2 true 7,rf 9 0 3,rl 10 2 true 9,
 ri 11 (.call my [.t 6,.t 8,.t 10]),ri 12 (.call Am [.t 11]),rf 13 0 2,rl 14 2 true 13,rf 15 2 2,rl 16 2 true 15,rf 17 2 3,rl 18 2 true 17,
 ri 19 (.call my [.t 14,.t 16,.t 18]),ri 20 (.call Am [.t 19]),wb 21 .mul 12 20,wd 22 .lss 21 0,rm 23 22,
 rg 24 23 true (.Fg 0 (.t 3)),wl 25 23 true 2 true 24,rg 26 23 true (.Fg 2 (.t 3)),wl 27 23 true 2 true 26,rg 28 23 true (.Fg 0 (.t 2)),
 wl 29 23 true 2 true 28,rg 30 23 true (.call my [.t 25,.t 27,.t 29]),rg 31 23 true (.call Am [.t 30]),
 rg 32 23 true (.Fg 0 (.t 3)),wl 33 23 true 2 true 32,rg 34 23 true (.Fg 2 (.t 3)),wl 35 23 true 2 true 34,rg 36 23 true (.Fg 2 (.t 2)),
 wl 37 23 true 2 true 36,rg 38 23 true (.call my [.t 33,.t 35,.t 37]),rg 39 23 true (.call Am [.t 38]),
 rg 40 23 true (.bin .mul (.t 31) (.t 39)),rg 41 23 true (.bin .lss (.t 40) (ci 0)),wp 42 23 41,rm 4 42] true []) bo)
def J8:di:=
 rq [wx 2 2 0,wx 3 2 1,wc 4 0] (rq [wa 7 2 1 2 0,rl 8 1 false 7,wa 9 2 1 3 1,rl 10 1 false 9,
 wb 11 .mul 8 10,wa 12 2 1 2 1,rl 13 1 false 12,wa 14 2 1 3 0,rl 15 1 false 14,wb 16 .mul 13 15,
 wb 17 .sub 11 16,rm 5 17] (rq [wa 18 2 1 2 0,rl 19 1 false 18,wa 20 2 1 3 0,rl 21 1 false 20,
 wb 22 .mul 19 21,wa 23 2 1 2 1,rl 24 1 false 23,wa 25 2 1 3 1,rl 26 1 false 25,wb 27 .mul 24 26,
 wb 28 .add 22 27,rm 6 28] (ar (cn 0 (rq [rm 30 5,wd 31 .lss 30 0,
 rm 29 31] (wt 29 (rq [wc 4 0] bo) (rq [rm 33 5,wd 34 .gtr 33 0,
 rm 32 34] (wt 32 (rq [wc 4 2] bo) (rq [rm 36 6,wd 37 .lss 36 0,
 rm 35 37] (wt 35 (rq [wc 4 1] bo) bn))))))) (rq [wc 4 3] bo))))
def Nu(xj:Nat):di:=
 rq [wx 3 2 0,wx 4 2 1,wx 5 2 2,wf 6 false] (ar (bz [rl 9 2 true 3,rl 10 2 true 4,
 ri 11 (.call xj [.t 9,.t 10]),rl 12 2 true 3,rl 13 2 true 5,ri 14 (.call xj [.t 12,.t 13]),rm 7 11,
 rm 8 14] true []) (ar (rq [rm 15 7,rm 16 8,wb 17 .neq 15 16] (wt 17 (rq [rm 18 7,rm 19 8,wb 20 .lss 18 19,
 rm 6 20] bo) bn)) (rq [wa 21 2 1 4 0,rl 22 1 false 21,wa 23 2 1 5 1,rl 24 1 false 23,wb 25 .mul 22 24,
 wa 26 2 1 4 1,rl 27 1 false 26,wa 28 2 1 5 0,rl 29 1 false 28,wb 30 .mul 27 29,wb 31 .sub 25 30,
 wd 32 .lss 31 0,rm 6 32] bo)))
def Ph:di:=
 rq [wo 2] (rq [wo 3] (ar (rq [wc 4 0] (cn 0 (gz (ar (rq [rm 6 4,rm 7 0,wn 8 7,
 wb 9 .lss 6 8] (wt 9 bn (gn 0))) (ar (cn 1 (rq [wc 5 0] (cn 2 (gz (ar (rq [rm 12 5,rm 13 0,rm 14 4,
 wi 15 1 13 14,rl 16 1 false 15,wn 17 16,
 wb 18 .lss 12 17] (wt 18 bn (gn 2))) (ar (cn 3 (bz [rm 21 3,rm 22 0,rm 23 4,wi 24 1 22 23,rl 25 1 false 24,
 rm 26 5,wi 27 2 25 26,rl 28 2 true 27,rm 29 0,rm 30 4,wi 31 1 29 30,rl 32 1 false 31,rm 33 5,wd 34 .add 33 1,rm 35 0,
 rm 36 4,wi 37 1 35 36,rl 38 1 false 37,wn 39 38,wb 40 .rem 34 39,wi 41 2 32 40,rl 42 2 true 41,
 ri 43 (.build [.int ab 0,.int ab 0,.int ab 0,.int ab 0] [(0,2,.t 28),(2,2,.t 42)]),
 ri 44 (.yk false 1 4 [.int ab 0,.int ab 0,.int ab 0,.int ab 0] [(0,4,.t 43)]),ri 45 (.app 4 32 (.t 21) (.t 44)),rm 3 45] true [])) (bz [rm 19 5,
 wd 20 .add 19 1,rm 5 20] false []))))))) (bz [rm 10 4,wd 11 .add 10 1,rm 4 11] false [])))))) (rq [rm 46 3,rm 2 46] bo)))
def Rl(my:Nat):di:=
 rq [wc 4 0] (rq [rm 13 0,rm 14 1,wi 15 4 13 14,rl 16 4 true 15,ri 5 (.alloc [.int ab 0,.int ab 0,.int ab 0,.int ab 0]),
 ws 4 5 16] (ar (rq [rf 17 0 5,wa 18 2 1 17 0,rl 19 1 false 18,rf 20 2 5,wa 21 2 1 20 0,rl 22 1 false 21,
 wb 23 .eql 19 22] (wt 23 (rq [wo 6] (ar (rq [wc 7 0] (cn 0 (gz (ar (rq [rm 24 7,rm 25 0,
 wn 26 25,wb 27 .lss 24 26] (wt 27 bn (gn 0))) (ar (cn 1 (bz [rm 30 6,rm 31 0,rm 32 7,
 wi 33 4 31 32,rf 34 0 33,wa 35 2 1 34 1,rl 36 1 false 35,ri 37 (.un .neg (.t 36)),rm 38 0,rm 39 7,wi 40 4 38 39,
 rf 41 0 40,wa 42 2 1 41 0,rl 43 1 false 42,ri 44 (.build [.int ab 0,.int ab 0] [(0,1,.t 37),(1,1,.t 43)]),rm 45 0,rm 46 7,
 wi 47 4 45 46,rf 48 2 47,wa 49 2 1 48 1,rl 50 1 false 49,ri 51 (.un .neg (.t 50)),rm 52 0,rm 53 7,wi 54 4 52 53,
 rf 55 2 54,wa 56 2 1 55 0,rl 57 1 false 56,ri 58 (.build [.int ab 0,.int ab 0] [(0,1,.t 51),(1,1,.t 57)]),
 ri 59 (.build [.int ab 0,.int ab 0,.int ab 0,.int ab 0] [(0,2,.t 44),(2,2,.t 58)]),
 ri 60 (.yk false 1 4 [.int ab 0,.int ab 0,.int ab 0,.int ab 0] [(0,4,.t 59)]),ri 61 (.app 4 32 (.t 30) (.t 60)),rm 6 61] true [])) (bz [rm 28 7,
 wd 29 .add 28 1,rm 7 29] false [])))))) (bz [rm 62 6,rm 63 6,rm 64 1,wi 65 4 63 64,rl 66 4 true 65,rm 0 62,
 ws 4 5 66] true [61]))) bn)) (rq [rf 67 0 5,wa 68 2 1 67 0,rl 69 1 false 68,rf 70 2 5,wa 71 2 1 70 0,
 rl 72 1 false 71,wb 73 .add 69 72,rf 74 0 5,wa 75 2 1 74 1,rl 76 1 false 75,rf 77 2 5,wa 78 2 1 77 1,
 rl 79 1 false 78,wb 80 .add 76 79,ri 81 (.build [.int ab 0,.int ab 0] [(0,1,.t 73),(1,1,.t 80)]),ri 8 (.alloc [.int ab 0,.int ab 0]),
 ws 2 8 81] (rq [wc 9 0] (ar (rq [wc 10 0] (cn 2 (gz (ar (rq [rm 82 10,rm 83 0,wn 84 83,
 wb 85 .lss 82 84] (wt 85 bn (gn 2))) (ar (cn 3 (ar (bz [rm 88 0,rm 89 10,wi 90 4 88 89,rf 91 0 90,
 wa 92 2 1 91 0,rl 93 1 false 92,ri 94 (.bin .mul (ci 2) (.t 93)),rm 95 0,rm 96 10,wi 97 4 95 96,rf 98 0 97,
 wa 99 2 1 98 1,rl 100 1 false 99,ri 101 (.bin .mul (ci 2) (.t 100)),ri 102 (.build [.int ab 0,.int ab 0] [(0,1,.t 94),(1,1,.t 101)]),
 rm 103 0,rm 104 10,wi 105 4 103 104,rf 106 2 105,wa 107 2 1 106 0,rl 108 1 false 107,ri 109 (.bin .mul (ci 2) (.t 108)),rm 110 0,
 rm 111 10,wi 112 4 110 111,rf 113 2 112,wa 114 2 1 113 1,rl 115 1 false 114,ri 116 (.bin .mul (ci 2) (.t 115)),
 ri 117 (.build [.int ab 0,.int ab 0] [(0,1,.t 109),(1,1,.t 116)]),ri 11 (.ze 2),ri 12 (.ze 2),rn (.init 11 2 (.t 102)),
 rn (.init 12 2 (.t 117))] true []) (ar (rq [rm 118 10,rm 119 1,
 wb 120 .eql 118 119] (wt 120 (gn 3) bn)) (cn 4 (rq [wa 122 2 1 11 0,rl 123 1 false 122,
 wa 124 2 1 8 0,rl 125 1 false 124,wb 126 .leq 123 125,rm 127 126,rg 128 127 true (.ux 2 1 (.t 8) (ci 0)),
 wl 129 127 true 1 false 128,rg 130 127 true (.ux 2 1 (.t 12) (ci 0)),wl 131 127 true 1 false 130,
 rg 132 127 true (.bin .lss (.t 129) (.t 131)),wp 133 127 132,rm 134 133,wl 135 134 true 2 true 11,
 wl 136 134 true 2 true 12,wl 137 134 true 2 true 8,rg 138 134 true (.call my [.t 135,.t 136,.t 137]),
 rg 139 134 true (.bin .lss (.t 138) (ci 0)),wp 140 134 139,rm 121 140] (wt 121 (bz [rm 141 9,
 wd 142 .sub 141 1,rm 9 142] false []) (rq [wa 144 2 1 12 0,rl 145 1 false 144,wa 146 2 1 8 0,rl 147 1 false 146,
 wb 148 .leq 145 147,rm 149 148,rg 150 149 true (.ux 2 1 (.t 8) (ci 0)),wl 151 149 true 1 false 150,
 rg 152 149 true (.ux 2 1 (.t 11) (ci 0)),wl 153 149 true 1 false 152,rg 154 149 true (.bin .lss (.t 151) (.t 153)),
 wp 155 149 154,rm 156 155,wl 157 156 true 2 true 11,wl 158 156 true 2 true 12,
 wl 159 156 true 2 true 8,rg 160 156 true (.call my [.t 157,.t 158,.t 159]),rg 161 156 true (.bin .gtr (.t 160) (ci 0)),
 wp 162 156 161,rm 143 162] (wt 143 (bz [rm 163 9,wd 164 .add 163 1,
 rm 9 164] false []) bn)))))))) (bz [rm 86 10,wd 87 .add 86 1,rm 10 87] false [])))))) (ar (rq [rf 165 0 5,wa 166 2 1 165 0,
 rl 167 1 false 166,rf 168 2 5,wa 169 2 1 168 0,rl 170 1 false 169,wb 171 .gtr 167 170] (wt 171 (bz [rm 172 9,
 wd 173 .add 172 1,rm 9 173] false []) bn)) (rq [rm 174 9,rm 4 174] bo)))))))
def Pe(uo Dn:Nat):di:=
 rq [wf 4 false] (ar (rq [wc 5 0] (cn 0 (gz (ar (rq [rm 13 5,rm 14 0,wn 15 14,
 wb 16 .lss 13 15] (wt 16 bn (gn 0))) (ar (cn 1 (rq [rm 19 0,rm 20 5,wi 21 1 19 20,rl 22 1 false 21,
 wn 23 22,rm 6 23] (rq [wc 7 0] (cn 2 (gz (ar (rq [rm 24 7,rm 25 6,
 wb 26 .lss 24 25] (wt 26 bn (gn 2))) (ar (cn 3 (ar (bz [rm 29 0,rm 30 5,wi 31 1 29 30,rl 32 1 false 31,
 rm 33 7,wd 34 .add 33 1,rm 35 6,wb 36 .rem 34 35,wi 37 2 32 36,rl 38 2 true 37,rm 39 0,rm 40 5,
 wi 41 1 39 40,rl 42 1 false 41,rm 43 7,wd 44 .add 43 2,rm 45 6,wb 46 .rem 44 45,wi 47 2 42 46,
 rl 48 2 true 47,ri 8 (.ze 2),ri 9 (.ze 2),rn (.init 8 2 (.t 38)),rn (.init 9 2 (.t 48))] true []) (ar (bz [rm 49 0,rm 50 5,wi 51 1 49 50,
 rl 52 1 false 51,rm 53 7,wi 54 2 52 53,rl 55 2 true 54,rl 56 2 true 8,ri 57 (.call uo [.t 55,.t 56]),ri 10 (.ze 2),
 rn (.init 10 2 (.t 57))] true []) (rq [wc 11 0] (cn 4 (gz (ar (rq [rm 58 11,rm 59 1,wn 60 59,
 wb 61 .lss 58 60] (wt 61 bn (gn 4))) (ar (cn 5 (rq [ri 64 (.build [.int ab 0,.int ab 0] []),
 ri 12 (.alloc [.int ab 0,.int ab 0]),ws 2 12 64] (ar (rq [rl 65 2 true 8] (cn 6 (rq [rm 67 1,rm 68 11,wi 69 4 67 68,
 rf 70 0 69,rl 71 2 true 70,ri 72 (.eqs [.int,.int] false (.t 65) (.t 71)),rm 66 72] (wt 66 (bz [rm 73 1,rm 74 11,wi 75 4 73 74,rf 76 2 75,
 rl 77 2 true 76,rl 78 2 true 8,ri 79 (.call uo [.t 77,.t 78]),ws 2 12 79] true []) (rq [rm 81 1,rm 82 11,
 wi 83 4 81 82,rf 84 2 83,rl 85 2 true 84,ri 86 (.eqs [.int,.int] false (.t 65) (.t 85)),rm 80 86] (wt 80 (bz [rm 87 1,rm 88 11,
 wi 89 4 87 88,rf 90 0 89,rl 91 2 true 90,rl 92 2 true 8,ri 93 (.call uo [.t 91,.t 92]),
 ws 2 12 93] true []) (gn 5))))))) (ar (bz [rl 94 2 true 12,rl 95 2 true 10,ri 96 (.eqs [.int,.int] true (.t 94) (.t 95)),rm 97 96,
 wl 98 97 true 2 true 12,wl 99 97 true 2 true 9,wl 100 97 true 2 true 8,rg 101 97 true (.call uo [.t 99,.t 100]),
 rg 102 97 true (.eqs [.int,.int] true (.t 98) (.t 101)),wp 103 97 102,rm 104 103,wl 105 104 true 2 true 10,
 wl 106 104 true 2 true 12,wl 107 104 true 2 true 9,wl 108 104 true 2 true 8,
 rg 109 104 true (.call uo [.t 107,.t 108]),rg 110 104 true (.call Dn [.t 105,.t 106,.t 109]),
 wp 111 104 110] true []) (wt 111 (rq [wf 4 false] bo) bn))))) (bz [rm 62 11,
 wd 63 .add 62 1,rm 11 63] false []))))))))) (bz [rm 27 7,wd 28 .add 27 1,rm 7 28] false [])))))))) (bz [rm 17 5,
 wd 18 .add 17 1,rm 5 18] false [])))))) (rq [wf 4 true] bo))
def Pg(Ez Cr Kx B8 Gf Ey:Nat):di:=
 rq [wf 2 false] (rq [wc 3 0] (ar (rq [wc 4 0] (cn 0 (gz (ar (rq [rm 10 4,rm 11 0,wn 12 11,
 wb 13 .lss 10 12] (wt 13 bn (gn 0))) (ar (cn 1 (rq [rm 16 3,rm 17 0,rm 18 4,wi 19 1 17 18,rl 20 1 false 19,
 wn 21 20,wb 22 .add 16 21,rm 3 22] (ar (rq [rm 23 0,rm 24 4,wi 25 1 23 24,rl 26 1 false 25,
 wn 27 26,wd 28 .lss 27 3,rm 29 28,wm 30 29 false 3,rg 31 29 false (.bin .gtr (.t 30) (ci 60)),
 wq 32 29 31] (wt 32 (rq [wf 2 false] bo) bn)) (rq [wc 5 0] (cn 2 (gz (ar (rq [rm 33 5,
 rm 34 0,rm 35 4,wi 36 1 34 35,rl 37 1 false 36,wn 38 37,
 wb 39 .lss 33 38] (wt 39 bn (gn 2))) (ar (cn 3 (rq [rm 42 0,rm 43 4,wi 44 1 42 43,rl 45 1 false 44,rm 46 5,
 wi 47 2 45 46,rl 48 2 true 47,ri 49 (.call Ez [.t 48]),
 ri 50 (.un .not (.t 49))] (wt 50 (rq [wf 2 false] bo) bn))) (bz [rm 40 5,wd 41 .add 40 1,
 rm 5 41] false []))))))))) (bz [rm 14 4,wd 15 .add 14 1,rm 4 15] false [])))))) (rq [rm 51 0,ri 52 (.call Cr [.t 51]),
 rm 6 52] (ar (rq [wc 7 0] (cn 4 (gz (ar (rq [rm 53 7,rm 54 6,wn 55 54,
 wb 56 .lss 53 55] (wt 56 bn (gn 4))) (ar (cn 5 (ar (ar (bz [rm 59 6,rm 60 7,wi 61 4 59 60,rf 62 0 61,
 rl 63 2 true 62,rm 64 6,rm 65 7,wi 66 4 64 65,rf 67 2 66,rl 68 2 true 67,
 ri 69 (.eqs [.int,.int] false (.t 63) (.t 68))] true []) (wt 69 (rq [wf 2 false] bo) bn)) (rq [wc 8 0] (cn 6 (gz (ar (rq [rm 70 8,
 rm 71 6,wn 72 71,wb 73 .lss 70 72] (wt 73 bn (gn 6))) (ar (cn 7 (ar (ar (bz [rm 76 6,rm 77 8,
 wi 78 4 76 77,rf 79 0 78,rl 80 2 true 79,rm 81 6,rm 82 7,wi 83 4 81 82,rf 84 0 83,rl 85 2 true 84,
 ri 86 (.eqs [.int,.int] true (.t 80) (.t 85)),rm 87 86,wm 88 87 true 6,wm 89 87 true 8,rg 90 87 true (.sq 4 (.t 88) (.t 89)),
 rg 91 87 true (.Fg 0 (.t 90)),wl 92 87 true 2 true 91,wm 93 87 true 6,wm 94 87 true 7,rg 95 87 true (.sq 4 (.t 93) (.t 94)),
 rg 96 87 true (.Fg 2 (.t 95)),wl 97 87 true 2 true 96,rg 98 87 true (.eqs [.int,.int] true (.t 92) (.t 97)),
 wp 99 87 98,rm 100 99,wm 101 100 true 6,wm 102 100 true 7,rg 103 100 true (.sq 4 (.t 101) (.t 102)),
 wl 104 100 true 4 true 103,wm 105 100 true 6,wm 106 100 true 8,rg 107 100 true (.sq 4 (.t 105) (.t 106)),
 rg 108 100 true (.Fg 0 (.t 107)),wl 109 100 true 2 true 108,rg 110 100 true (.call Kx [.t 104,.t 109]),
 wp 111 100 110,rm 112 111,wm 113 112 false 6,wm 114 112 false 7,rg 115 112 false (.sq 4 (.t 113) (.t 114)),
 wl 116 112 false 4 true 115,wm 117 112 false 6,wm 118 112 false 8,rg 119 112 false (.sq 4 (.t 117) (.t 118)),
 wl 120 112 false 4 true 119,rg 121 112 false (.call B8 [.t 116,.t 120]),
 wq 122 112 121] true []) (wt 122 (rq [wf 2 false] bo) bn)) (ar (bz [rm 123 7,rm 124 8,
 wb 125 .neq 123 124,rm 126 125,wm 127 126 true 6,wm 128 126 true 7,rg 129 126 true (.sq 4 (.t 127) (.t 128)),
 wl 130 126 true 4 true 129,wm 131 126 true 6,wm 132 126 true 8,rg 133 126 true (.sq 4 (.t 131) (.t 132)),
 wl 134 126 true 4 true 133,rg 135 126 true (.eqs [.int,.int,.int,.int] false (.t 130) (.t 134)),wm 136 126 true 135,
 wm 137 136 false 6,wm 138 136 false 7,rg 139 136 false (.sq 4 (.t 137) (.t 138)),rg 140 136 false (.Fg 0 (.t 139)),
 wl 141 136 false 2 true 140,wm 142 136 false 6,wm 143 136 false 8,rg 144 136 false (.sq 4 (.t 142) (.t 143)),
 rg 145 136 false (.Fg 2 (.t 144)),wl 146 136 false 2 true 145,rg 147 136 false (.eqs [.int,.int] false (.t 141) (.t 146)),wm 148 136 false 147,
 wm 149 148 true 6,wm 150 148 true 7,rg 151 148 true (.sq 4 (.t 149) (.t 150)),rg 152 148 true (.Fg 2 (.t 151)),
 wl 153 148 true 2 true 152,wm 154 148 true 6,wm 155 148 true 8,rg 156 148 true (.sq 4 (.t 154) (.t 155)),
 rg 157 148 true (.Fg 0 (.t 156)),wl 158 148 true 2 true 157,rg 159 148 true (.eqs [.int,.int] false (.t 153) (.t 158)),
 rg 160 136 false (.pick (.t 148) (.t 159) (.c (.bool false))),rg 161 126 true (.pick (.t 136) (.c (.bool true)) (.t 160)),
 wp 162 126 161] true []) (wt 162 (rq [wf 2 false] bo) bn)))) (bz [rm 74 8,
 wd 75 .add 74 1,rm 8 75] false [])))))))) (bz [rm 57 7,wd 58 .add 57 1,
 rm 7 58] false [])))))) (ar (rq [wc 9 0] (cn 8 (gz (ar (rq [rm 163 9,rm 164 6,wn 165 164,
 wb 166 .lss 163 165] (wt 166 bn (gn 8))) (ar (cn 9 (rq [rm 169 6,rm 170 9,ri 171 (.call Gf [.t 169,.t 170]),
 wd 172 .neq 171 1] (wt 172 (rq [wf 2 false] bo) bn))) (bz [rm 167 9,wd 168 .add 167 1,
 rm 9 168] false [])))))) (rq [rm 173 0,rm 174 6,ri 175 (.call Ey [.t 173,.t 174]),rm 2 175] bo))))))
def J5:di:=
 rq [wf 2 false] (rq [rm 3 0,wd 4 .geq 3 (-1000000),rm 5 4,wm 6 5 true 0,rg 7 5 true (.bin .leq (.t 6) (ci 1000000)),
 wp 8 5 7,rm 2 8] bo)
def J6:di:=
 rq [wf 2 false] (ar (rq [rm 5 0,ri 6 (.len .str (.t 5)),wd 7 .lss 6 1,rm 8 7,wm 9 8 false 0,
 rg 10 8 false (.len .str (.t 9)),rg 11 8 false (.bin .gtr (.t 10) (ci 20)),
 wq 12 8 11] (wt 12 (rq [wf 2 false] bo) bn)) (ar (rq [wc 3 0] (cn 0 (gz (ar (rq [rm 13 3,
 rm 14 0,ri 15 (.len .str (.t 14)),wb 16 .lss 13 15] (wt 16 bn (gn 0))) (ar (cn 1 (rq [rm 19 0,rm 20 3,
 ri 21 (.Zr (.t 19) (.t 20)),ri 22 (.bin .geq (.t 21) (.c (.int .u8 97))),rm 23 22,wm 24 23 true 0,wm 25 23 true 3,
 rg 26 23 true (.Zr (.t 24) (.t 25)),rg 27 23 true (.bin .leq (.t 26) (.c (.int .u8 122))),wp 28 23 27,rm 4 28] (rq [rm 29 4,
 ri 30 (.un .not (.t 29)),rm 31 30,wm 32 31 true 3,rg 33 31 true (.bin .eql (.t 32) (ci 0)),wm 34 31 true 33,wm 35 34 false 0,
 wm 36 34 false 3,rg 37 34 false (.Zr (.t 35) (.t 36)),rg 38 34 false (.bin .lss (.t 37) (.c (.int .u8 48))),
 rg 39 31 true (.pick (.t 34) (.c (.bool true)) (.t 38)),wm 40 31 true 39,wm 41 40 false 0,wm 42 40 false 3,
 rg 43 40 false (.Zr (.t 41) (.t 42)),rg 44 40 false (.bin .gtr (.t 43) (.c (.int .u8 57))),rg 45 31 true (.pick (.t 40) (.c (.bool true)) (.t 44)),
 wp 46 31 45] (wt 46 (rq [wf 2 false] bo) bn)))) (bz [rm 17 3,
 wd 18 .add 17 1,rm 3 18] false [])))))) (rq [wf 2 true] bo)))
def D6(rv s8:Nat):di:=
 rq [wf 2 false] (ar (rq [rm 4 0,wn 5 4,
 wd 6 .gtr 5 20] (wt 6 (rq [wf 2 false] bo) bn)) (ar (rq [wc 3 0] (cn 0 (gz (ar (rq [rm 7 3,
 rm 8 0,wn 9 8,wb 10 .lss 7 9] (wt 10 bn (gn 0))) (ar (cn 1 (ar (bz [rm 13 0,rm 14 3,
 wi 15 2 13 14,rf 16 0 15,rl 17 1 false 16,ri 18 (.call rv [.t 17]),ri 19 (.un .not (.t 18)),rm 20 19,wm 21 20 false 0,
 wm 22 20 false 3,rg 23 20 false (.sq 2 (.t 21) (.t 22)),rg 24 20 false (.Fg 1 (.t 23)),wl 25 20 false 1 false 24,
 rg 26 20 false (.call s8 [.t 25]),rg 27 20 false (.un .not (.t 26)),wq 28 20 27,rm 29 28,wm 30 29 false 3,
 rg 31 29 false (.bin .gtr (.t 30) (ci 0)),wm 32 29 false 31,wm 33 32 true 0,wm 34 32 true 3,rg 35 32 true (.bin .sub (.t 34) (ci 1)),
 rg 36 32 true (.sq 2 (.t 33) (.t 35)),rg 37 32 true (.Fg 0 (.t 36)),wl 38 32 true 1 false 37,wm 39 32 true 0,wm 40 32 true 3,
 rg 41 32 true (.sq 2 (.t 39) (.t 40)),rg 42 32 true (.Fg 0 (.t 41)),wl 43 32 true 1 false 42,rg 44 32 true (.bin .geq (.t 38) (.t 43)),
 rg 45 29 false (.pick (.t 32) (.t 44) (.c (.bool false))),
 wq 46 29 45] true []) (wt 46 (rq [wf 2 false] bo) bn))) (bz [rm 11 3,
 wd 12 .add 11 1,rm 3 12] false [])))))) (rq [wf 2 true] bo)))
def Hs(s8 rv:Nat):di:=
 rq [wx 1 3 0,wf 2 false] (rq [rf 3 1 1,rl 4 1 false 3,ri 5 (.call s8 [.t 4]),rm 6 5,rg 7 6 true (.Fg 2 (.t 1)),
 wl 8 6 true 1 false 7,rg 9 6 true (.call s8 [.t 8]),wp 10 6 9,rm 11 10,rg 12 11 true (.Fg 0 (.t 1)),
 wl 13 11 true 1 false 12,rg 14 11 true (.call rv [.t 13]),wm 15 11 true 14,rg 16 15 false (.Fg 0 (.t 1)),
 wl 17 15 false 1 false 16,rg 18 15 false (.bin .eql (.t 17) (.c (.str ⟨#[]⟩))),wm 19 15 false 18,rg 20 19 true (.Fg 1 (.t 1)),
 wl 21 19 true 1 false 20,rg 22 19 true (.bin .eql (.t 21) (ci 0)),rg 23 15 false (.pick (.t 19) (.t 22) (.c (.bool false))),
 rg 24 11 true (.pick (.t 15) (.c (.bool true)) (.t 23)),wp 25 11 24,rm 2 25] bo)
def Pc:di:=
 rq [wo 0] (rq [ri 1 (.yk false 14 1 [.str ⟨#[]⟩] [(0,1,.c (.str ⟨#[98,111,120]⟩)),(1,1,.c (.str ⟨#[112,114,105,115,109]⟩)),(2,1,.c (.str ⟨#[115,108,97,110,116]⟩)),(3,1,.c (.str ⟨#[112,121,114,97,109,105,100]⟩)),(4,1,.c (.str ⟨#[117,110,105,111,110]⟩)),(5,1,.c (.str ⟨#[105,110,116,101,114,115,101,99,116]⟩)),(6,1,.c (.str ⟨#[115,117,98,116,114,97,99,116]⟩)),(7,1,.c (.str ⟨#[99,108,105,112]⟩)),(8,1,.c (.str ⟨#[115,104,105,102,116]⟩)),(9,1,.c (.str ⟨#[115,121,109,109,101,116,114,121]⟩)),(10,1,.c (.str ⟨#[115,99,97,108,101]⟩)),(11,1,.c (.str ⟨#[115,117,109]⟩)),(12,1,.c (.str ⟨#[99,111,114,101]⟩)),(13,1,.c (.str ⟨#[114,101,112,101,97,116]⟩))]),
 rm 0 1] bo)
def Ga(Cq:Nat):di:=
 rq [ri 2 (.j7 (.c (.str ⟨#[]⟩)))] (ar (rq [rm 3 0,wd 4 .lss 3 0,rm 5 4,wm 6 5 false 0,rg 7 5 false (.call Cq []),
 rg 8 5 false (.len .ft (.t 7)),rg 9 5 false (.bin .geq (.t 6) (.t 8)),
 wq 10 5 9] (wt 10 (rq [ri 2 (.j7 (.c (.str ⟨#[]⟩)))] bo) bn)) (rq [ri 11 (.call Cq []),rm 12 0,
 wi 13 1 11 12,rl 14 1 false 13,rm 2 14] bo))
def Nt:di:=
 rq [wc 2 0] (rq [ri 3 (.yk false 14 1 [.int ab 0] [(0,1,ci 6),(1,1,ci 2),(2,1,ci 4),(3,1,ci 4),(4,1,ci 0),(5,1,ci 0),(6,1,ci 0),(7,1,ci 4),(8,1,ci 3),(9,1,ci 1),(10,1,ci 2),(11,1,ci 6),(12,1,ci 6),(13,1,ci 4)]),
 rm 4 0,wi 5 1 3 4,rl 6 1 false 5,rm 2 6] bo)
def Ns:di:=
 rq [wc 2 0] (rq [ri 3 (.yk false 14 1 [.int ab 0] [(0,1,ci 0),(1,1,ci 0),(2,1,ci 0),(3,1,ci 0),(4,1,ci 2),(5,1,ci 2),(6,1,ci 2),(7,1,ci 1),(8,1,ci 1),(9,1,ci 1),(10,1,ci 1),(11,1,ci 1),(12,1,ci 1),(13,1,ci 1)]),
 rm 4 0,wi 5 1 3 4,rl 6 1 false 5,rm 2 6] bo)
def Pd(B7 Dm yn F0:Nat):di:=
 rq [wx 1 3 0,wf 2 false] (ar (ar (bz [rf 4 0 1,rl 5 1 false 4,ri 6 (.call B7 [.t 5]),
 ri 7 (.bin .eql (.t 6) (.c (.str ⟨#[]⟩))),rm 8 7,rg 9 8 false (.Fg 1 (.t 1)),wl 10 8 false 1 false 9,rg 11 8 false (.len .ft (.t 10)),
 rg 12 8 false (.Fg 0 (.t 1)),wl 13 8 false 1 false 12,rg 14 8 false (.call Dm [.t 13]),rg 15 8 false (.bin .neq (.t 11) (.t 14)),
 wq 16 8 15] true []) (wt 16 (rq [wf 2 false] bo) bn)) (ar (rq [wc 3 0] (cn 0 (gz (ar (rq [rm 17 3,
 rf 18 1 1,rl 19 1 false 18,wn 20 19,wb 21 .lss 17 20] (wt 21 bn (gn 0))) (ar (cn 1 (rq [rf 24 1 1,
 rl 25 1 false 24,rm 26 3,wi 27 3 25 26,rl 28 3 true 27,ri 29 (.call yn [.t 28]),
 ri 30 (.un .not (.t 29))] (wt 30 (rq [wf 2 false] bo) bn))) (bz [rm 22 3,wd 23 .add 22 1,
 rm 3 23] false [])))))) (ar (rq [rf 31 0 1,rl 32 1 false 31,wd 33 .eql 32 1,rm 34 33,rg 35 34 false (.Fg 0 (.t 1)),
 wl 36 34 false 1 false 35,rg 37 34 false (.bin .eql (.t 36) (ci 2)),wq 38 34 37,rm 39 38,rg 40 39 false (.Fg 0 (.t 1)),
 wl 41 39 false 1 false 40,rg 42 39 false (.bin .eql (.t 41) (ci 3)),wq 43 39 42] (wt 43 (rq [rf 44 2 1,
 rl 45 1 false 44,ri 46 (.call F0 [.t 45]),rm 2 46] bo) bn)) (rq [rf 47 2 1,rl 48 1 false 47,wn 49 48,
 wd 50 .eql 49 0,rm 2 50] bo))))
def Me(x8 ow:Nat):di:=
 rq [wx 2 3 0,wo 4,wc 5 0] (ar (cn 0 (rq [rl 13 3 true 2,ri 14 (.call x8 [.t 13]),ri 15 (.un .not (.t 14)),
 rm 12 15] (wt 12 (rq [wo 4,wc 5 220] bo) (rq [rm 17 1,ri 18 (.call ow [.t 17]),ri 19 (.un .not (.t 18)),
 rm 16 19] (wt 16 (rq [wo 4,
 wc 5 1] bo) bn))))) (rq [wo 6] (ar (rq [wc 7 0] (cn 1 (gz (ar (rq [rm 20 7,rf 21 1 2,rl 22 1 false 21,
 wn 23 22,wb 24 .lss 20 23] (wt 24 bn (gn 1))) (ar (cn 2 (rq [rf 27 1 2,rl 28 1 false 27,rm 29 7,
 wi 30 3 28 29,rl 31 3 true 30,ri 8 (.alloc [.str ⟨#[]⟩,.int ab 0,.int ab 0]),ws 3 8 31] (ar (bz [rf 32 2 8,
 rl 33 1 false 32,rf 34 0 8,rl 35 1 false 34,ri 36 (.bin .eql (.t 35) (.c (.str ⟨#[]⟩))),rm 9 33,
 rm 10 36] true []) (ar (rq [wc 11 0] (cn 3 (gz (ar (rq [rm 37 11,rm 38 1,wn 39 38,
 wb 40 .lss 37 39] (wt 40 bn (gn 3))) (ar (cn 4 (ar (bz [rm 43 1,rm 44 11,wi 45 2 43 44,rf 46 0 45,
 rl 47 1 false 46,rf 48 0 8,rl 49 1 false 48,wb 50 .eql 47 49] true []) (wt 50 (bz [rf 51 1 8,rl 52 1 false 51,rm 53 1,rm 54 11,
 wi 55 2 53 54,rf 56 1 55,rl 57 1 false 56,wb 58 .mul 52 57,rf 59 2 8,rl 60 1 false 59,wb 61 .add 58 60,rm 9 61,
 wf 10 true] true []) bn))) (bz [rm 41 11,wd 42 .add 41 1,rm 11 42] false [])))))) (ar (rq [rm 62 10,
 ri 63 (.un .not (.t 62))] (wt 63 (rq [wo 4,wc 5 4] bo) bn)) (bz [rm 64 6,rm 65 9,
 ri 66 (.yk false 1 1 [.int ab 0] [(0,1,.t 65)]),ri 67 (.app 1 8 (.t 64) (.t 66)),rm 6 67] false [])))))) (bz [rm 25 7,wd 26 .add 25 1,
 rm 7 26] false [])))))) (rq [rm 68 6,rm 4 68,wc 5 0] bo))))
def Pb:di:=
 rq [wx 2 2 0,wc 4 0] (ar (rq [wc 5 0] (cn 0 (gz (ar (rq [rm 6 5,rf 7 1 2,rl 8 1 false 7,wn 9 8,
 wb 10 .lss 6 9] (wt 10 bn (gn 0))) (ar (cn 1 (rq [rf 13 1 2,rl 14 1 false 13,rm 15 5,wi 16 5 14 15,rf 17 0 16,
 rl 18 1 false 17,rm 19 1,wb 20 .eql 18 19] (wt 20 (rq [rm 21 5,rm 4 21] bo) bn))) (bz [rm 11 5,wd 12 .add 11 1,
 rm 5 12] false [])))))) (rq [wc 4 (-1)] bo))
def Tf:di:=
 rq [wf 4 false] (ar (rq [wc 5 0] (cn 0 (gz (ar (rq [rm 6 5,rm 7 0,wn 8 7,
 wb 9 .lss 6 8] (wt 9 bn (gn 0))) (ar (cn 1 (rq [rm 12 0,rm 13 5,wi 14 1 12 13,rl 15 1 false 14,rm 16 1,
 wb 17 .eql 15 16] (wt 17 (rq [wf 4 true] bo) bn))) (bz [rm 10 5,wd 11 .add 10 1,
 rm 5 11] false [])))))) (rq [wf 4 false] bo))
def P7(tn:Nat):di:=
 rq [wx 2 5 0,wf 4 false] (ar (rq [wc 5 0] (cn 0 (gz (ar (rq [rm 6 5,rf 7 4 2,rl 8 1 false 7,
 wn 9 8,wb 10 .lss 6 9] (wt 10 bn (gn 0))) (ar (cn 1 (rq [rm 13 1,rf 14 4 2,rl 15 1 false 14,rm 16 5,
 wi 17 1 15 16,rl 18 1 false 17,ri 19 (.call tn [.t 13,.t 18]),
 ri 20 (.un .not (.t 19))] (wt 20 (rq [wf 4 false] bo) bn))) (bz [rm 11 5,wd 12 .add 11 1,
 rm 5 12] false [])))))) (rq [wf 4 true] bo))
def Pa(tn Ew:Nat):di:=
 rq [wx 1 2 0,
 wo 2] (rq [wo 3] (cn 0 (gz (cn 1 (rq [ri 4 (.j7 (.c (.str ⟨#[]⟩)))] (ar (rq [wc 5 0] (cn 2 (gz (ar (rq [rm 7 5,
 rf 8 1 1,rl 9 1 false 8,wn 10 9,wb 11 .lss 7 10] (wt 11 bn (gn 2))) (ar (cn 3 (rq [rf 14 1 1,rl 15 1 false 14,
 rm 16 5,wi 17 5 15 16,rl 18 5 true 17,ri 6 (.alloc [.str ⟨#[]⟩,.int ab 0,.cq,.cq,.cq]),ws 5 6 18] (rq [rm 19 3,rf 20 0 6,
 rl 21 1 false 20,ri 22 (.call tn [.t 19,.t 21]),ri 23 (.un .not (.t 22)),rm 24 23,wl 25 24 true 5 true 6,wm 26 24 true 3,
 rg 27 24 true (.call Ew [.t 25,.t 26]),wp 28 24 27,rm 29 28,wm 30 29 true 4,
 rg 31 29 true (.bin .eql (.t 30) (.c (.str ⟨#[]⟩))),wm 32 29 true 31,rg 33 32 false (.Fg 0 (.t 6)),wl 34 32 false 1 false 33,
 wm 35 32 false 4,rg 36 32 false (.bin .lss (.t 34) (.t 35)),rg 37 29 true (.pick (.t 32) (.c (.bool true)) (.t 36)),
 wp 38 29 37] (wt 38 (bz [rf 39 0 6,rl 40 1 false 39,rm 4 40] false []) bn)))) (bz [rm 12 5,
 wd 13 .add 12 1,rm 5 13] false [])))))) (ar (rq [rm 41 4,ri 42 (.bin .eql (.t 41) (.c (.str ⟨#[]⟩)))] (wt 42 (rq [rm 43 3,
 rm 2 43] bo) bn)) (bz [rm 44 3,rm 45 4,ri 46 (.yk false 1 1 [.str ⟨#[]⟩] [(0,1,.t 45)]),ri 47 (.app 1 16 (.t 44) (.t 46)),rm 3 47] false []))))))))
def P9(ow rv x8 Dl x7 zy Cp:Nat):di:=
 rq [wx 1 2 0,wf 2 false] (ar (rq [rf 8 0 1,rl 9 1 false 8,ri 10 (.call ow [.t 9]),ri 11 (.un .not (.t 10)),rm 12 11,
 rg 13 12 false (.Fg 1 (.t 1)),wl 14 12 false 1 false 13,rg 15 12 false (.len .ft (.t 14)),rg 16 12 false (.bin .gtr (.t 15) (ci 20)),
 wq 17 12 16] (wt 17 (rq [wf 2 false] bo) bn)) (ar (rq [wc 3 0] (cn 0 (gz (ar (rq [rm 18 3,
 rf 19 1 1,rl 20 1 false 19,wn 21 20,wb 22 .lss 18 21] (wt 22 bn (gn 0))) (ar (cn 1 (rq [rf 25 1 1,
 rl 26 1 false 25,rm 27 3,wi 28 5 26 27,rl 29 5 true 28,ri 4 (.alloc [.str ⟨#[]⟩,.int ab 0,.cq,.cq,.cq]),
 ws 5 4 29] (ar (ar (bz [rf 30 0 4,rl 31 1 false 30,ri 32 (.call rv [.t 31]),ri 33 (.un .not (.t 32)),rm 34 33,
 wm 35 34 false 3,rg 36 34 false (.bin .gtr (.t 35) (ci 0)),wm 37 34 false 36,rg 38 37 true (.Fg 1 (.t 1)),wl 39 37 true 1 false 38,
 wm 40 37 true 3,rg 41 37 true (.bin .sub (.t 40) (ci 1)),rg 42 37 true (.sq 5 (.t 39) (.t 41)),rg 43 37 true (.Fg 0 (.t 42)),
 wl 44 37 true 1 false 43,rg 45 37 true (.Fg 0 (.t 4)),wl 46 37 true 1 false 45,rg 47 37 true (.bin .geq (.t 44) (.t 46)),
 rg 48 34 false (.pick (.t 37) (.t 47) (.c (.bool false))),wq 49 34 48,rm 50 49,rg 51 50 false (.Fg 1 (.t 4)),
 wl 52 50 false 3 true 51,rg 53 50 false (.call x8 [.t 52]),rg 54 50 false (.un .not (.t 53)),wq 55 50 54,
 rm 56 55,rg 57 56 false (.Fg 4 (.t 4)),wl 58 56 false 1 false 57,rg 59 56 false (.len .ft (.t 58)),rg 60 56 false (.Fg 1 (.t 4)),
 rg 61 56 false (.Fg 0 (.t 60)),wl 62 56 false 1 false 61,rg 63 56 false (.call Dl [.t 62]),rg 64 56 false (.bin .neq (.t 59) (.t 63)),
 wq 65 56 64] true []) (wt 65 (rq [wf 2 false] bo) bn)) (ar (rq [wc 5 0] (cn 2 (gz (ar (rq [rm 66 5,
 rf 67 4 4,rl 68 1 false 67,wn 69 68,wb 70 .lss 66 69] (wt 70 bn (gn 2))) (ar (cn 3 (ar (bz [rl 73 2 true 1,
 rf 74 4 4,rl 75 1 false 74,rm 76 5,wi 77 1 75 76,rl 78 1 false 77,ri 79 (.call x7 [.t 73,.t 78]),
 wd 80 .lss 79 0] true []) (wt 80 (rq [wf 2 false] bo) bn))) (bz [rm 71 5,wd 72 .add 71 1,
 rm 5 72] false [])))))) (rq [rf 82 1 4,rl 83 3 true 82,rf 84 0 1,rl 85 1 false 84,ri 86 (.call zy [.t 83,.t 85]),rm 81 86,rx 87 81 0,rx 88 81 1,rm 6 87,
 rm 7 88] (rq [rm 89 7,wd 90 .neq 89 0] (wt 90 (rq [wf 2 false] bo) bn))))))) (bz [rm 23 3,
 wd 24 .add 23 1,rm 3 24] false [])))))) (ar (bz [rl 91 2 true 1,ri 92 (.call Cp [.t 91]),wn 93 92,rf 94 1 1,
 rl 95 1 false 94,wn 96 95,wb 97 .eql 93 96,rm 2 97] true []) bo)))
def Pq:di:=
 rq [wx 1 1 0,wo 2] (rq [wo 3] (ar (rq [wc 4 0] (cn 0 (gz (ar (rq [rm 7 4,rf 8 0 1,rl 9 1 false 8,
 wn 10 9,
 wb 11 .lss 7 10] (wt 11 bn (gn 0))) (ar (cn 1 (rq [wo 5] (ar (rq [wc 6 0] (cn 2 (gz (ar (rq [rm 14 6,
 rf 15 0 1,rl 16 1 false 15,rm 17 4,wi 18 1 16 17,rl 19 1 false 18,wn 20 19,
 wb 21 .lss 14 20] (wt 21 bn (gn 2))) (ar (cn 3 (bz [rm 24 5,rf 25 0 1,rl 26 1 false 25,rm 27 4,
 wi 28 1 26 27,rl 29 1 false 28,rm 30 6,wi 31 2 29 30,rl 32 2 true 31,
 ri 33 (.yk false 1 2 [.int ab 0,.int ab 0] [(0,2,.t 32)]),ri 34 (.app 2 16 (.t 24) (.t 33)),rm 5 34] false [])) (bz [rm 22 6,
 wd 23 .add 22 1,rm 6 23] false [])))))) (bz [rm 35 3,rm 36 5,ri 37 (.yk false 1 1 [.cq] [(0,1,.t 36)]),ri 38 (.app 1 24 (.t 35) (.t 37)),
 rm 3 38] false [])))) (bz [rm 12 4,wd 13 .add 12 1,rm 4 13] false [])))))) (rq [rm 39 3,rm 2 39] bo)))
def Ps:di:=
 rq [wx 1 1 0,wf 2 false] (rq [rf 5 0 1,rl 6 1 false 5,wn 7 6,
 rm 3 7] (ar (rq [wc 4 0] (cn 0 (gz (ar (rq [rm 8 4,rf 9 0 1,rl 10 1 false 9,wn 11 10,
 wb 12 .lss 8 11] (wt 12 bn (gn 0))) (ar (cn 1 (bz [rm 15 3,rf 16 0 1,rl 17 1 false 16,rm 18 4,wi 19 1 17 18,
 rl 20 1 false 19,wn 21 20,wb 22 .add 15 21,rm 3 22] false [])) (bz [rm 13 4,wd 14 .add 13 1,
 rm 4 14] false [])))))) (rq [rm 23 3,wd 24 .leq 23 100,rm 2 24] bo)))
def Po(Cu:Nat):di:=
 rq [wx 1 3 0,ri 2 (.alloc [.int ab 0,.cq,.cq])] (ar (bz [rf 7 0 1,rl 8 1 false 7,rf 9 2 1,rl 10 1 true 9,ri 11 (.call Cu [.t 10]),
 ri 12 (.build [.int ab 0,.cq,.cq] [(0,1,.t 8),(2,1,.t 11)]),ri 3 (.ze 3),
 rn (.init 3 3 (.t 12))] true []) (ar (rq [wc 4 0] (cn 0 (gz (ar (rq [rm 13 4,rf 14 1 1,rl 15 1 false 14,wn 16 15,
 wb 17 .lss 13 16] (wt 17 bn (gn 0))) (ar (cn 1 (rq [rf 20 1 1,rl 21 1 false 20,rm 22 4,wi 23 3 21 22,
 rl 24 3 true 23,ri 5 (.alloc [.str ⟨#[]⟩,.int ab 0,.int ab 0]),ws 3 5 24] (rq [rf 25 1 3,rl 26 1 false 25,rm 6 26] (bz [rm 27 6,
 rf 28 0 5,rl 29 1 false 28,rf 30 1 5,rl 31 1 false 30,rf 32 2 5,rl 33 1 false 32,
 ri 34 (.build [.str ⟨#[]⟩,.int ab 0,.int ab 0] [(0,1,.t 29),(1,1,.t 31),(2,1,.t 33)]),
 ri 35 (.yk false 1 3 [.str ⟨#[]⟩,.int ab 0,.int ab 0] [(0,3,.t 34)]),ri 36 (.app 3 32 (.t 27) (.t 35)),rf 37 1 3,
 ws 1 37 36] false [])))) (bz [rm 18 4,wd 19 .add 18 1,rm 4 19] false [])))))) (rq [rl 38 3 true 3,
 ws 3 2 38] bo)))
def Nx:di:=
 rq [wo 2] (rq [wo 3] (ar (rq [wc 4 0] (cn 0 (gz (ar (rq [rm 5 4,rm 6 0,wn 7 6,
 wb 8 .lss 5 7] (wt 8 bn (gn 0))) (ar (cn 1 (bz [rm 11 3,rm 12 0,rm 13 4,wi 14 2 12 13,rf 15 0 14,
 rl 16 1 false 15,rm 17 0,rm 18 4,wi 19 2 17 18,rf 20 1 19,rl 21 1 false 20,ri 22 (.build [.str ⟨#[]⟩,.int ab 0] [(0,1,.t 16),(1,1,.t 21)]),
 ri 23 (.yk false 1 2 [.str ⟨#[]⟩,.int ab 0] [(0,2,.t 22)]),ri 24 (.app 2 24 (.t 11) (.t 23)),rm 3 24] true [])) (bz [rm 9 4,
 wd 10 .add 9 1,rm 4 10] false [])))))) (rq [rm 25 3,rm 2 25] bo)))
def Pp(F2:Nat):di:=
 rq [wx 2 3 0,wf 4 false] (ar (rq [wc 5 0] (cn 0 (gz (ar (rq [rm 7 5,rm 8 1,wn 9 8,
 wb 10 .lss 7 9,rm 11 10,wm 12 11 true 5,rg 13 11 true (.bin .lss (.t 12) (ci 40)),
 wp 14 11 13] (wt 14 bn (gn 0))) (ar (cn 1 (rq [rm 17 1,rm 18 5,wi 19 2 17 18,rf 20 0 19,
 rl 21 1 false 20,ri 22 (.len .str (.t 21)),wd 23 .gtr 22 100] (wt 23 (rq [wf 4 false] bo) bn))) (bz [rm 15 5,
 wd 16 .add 15 1,rm 5 16] false [])))))) (ar (rq [wc 6 0] (cn 2 (gz (ar (rq [rm 24 6,rf 25 1 2,rl 26 1 false 25,
 wn 27 26,wb 28 .lss 24 27,rm 29 28,wm 30 29 true 6,rg 31 29 true (.bin .lss (.t 30) (ci 40)),
 wp 32 29 31] (wt 32 bn (gn 2))) (ar (cn 3 (rq [rf 35 1 2,rl 36 1 false 35,rm 37 6,
 wi 38 3 36 37,rf 39 0 38,rl 40 1 false 39,ri 41 (.len .str (.t 40)),
 wd 42 .gtr 41 100] (wt 42 (rq [wf 4 false] bo) bn))) (bz [rm 33 6,wd 34 .add 33 1,
 rm 6 34] false [])))))) (rq [rm 43 1,wn 44 43,wd 45 .leq 44 40,rm 46 45,rg 47 46 true (.Fg 1 (.t 2)),
 wl 48 46 true 1 false 47,rg 49 46 true (.len .ft (.t 48)),rg 50 46 true (.bin .leq (.t 49) (ci 40)),wp 51 46 50,
 rm 52 51,rg 53 52 true (.Fg 2 (.t 2)),wl 54 52 true 1 true 53,rg 55 52 true (.call F2 [.t 54]),
 wp 56 52 55,rm 4 56] bo)))
def Pn(Bm Gg:Nat):di:=
 rq [wx 1 2 0,ri 2 (.alloc [.cq,.cq])] (rq [rf 6 0 1,rl 7 1 false 6,ri 8 (.call Bm [.t 7]),ri 9 (.build [.cq,.cq] [(0,1,.t 8)]),
 ri 3 (.alloc [.cq,.cq]),ws 2 3 9] (ar (rq [wc 4 0] (cn 0 (gz (ar (rq [rm 10 4,rf 11 1 1,rl 12 1 false 11,
 wn 13 12,wb 14 .lss 10 13] (wt 14 bn (gn 0))) (ar (cn 1 (rq [rf 17 1 3,rl 18 1 false 17,
 rm 5 18] (bz [rm 19 5,rf 20 1 1,rl 21 1 false 20,rm 22 4,wi 23 5 21 22,rl 24 5 true 23,ri 25 (.call Gg [.t 24]),
 ri 26 (.yk false 1 5 [.str ⟨#[]⟩,.int ab 0,.cq,.cq,.cq] [(0,5,.t 25)]),ri 27 (.app 5 96 (.t 19) (.t 26)),rf 28 1 3,
 ws 1 28 27] false []))) (bz [rm 15 4,wd 16 .add 15 1,rm 4 16] false [])))))) (rq [rl 29 2 true 3,
 ws 2 2 29] bo)))
def Rn(Ct:Nat):di:=
 rq [wx 1 5 0,ri 2 (.alloc [.str ⟨#[]⟩,.int ab 0,.cq,.cq,.cq])] (ar (bz [rf 3 0 1,rl 4 1 false 3,rf 5 1 1,rl 6 3 true 5,
 ri 7 (.call Ct [.t 6]),rf 8 4 1,rl 9 1 false 8,ri 10 (.build [.str ⟨#[]⟩,.int ab 0,.cq,.cq,.cq] [(0,1,.t 4),(1,3,.t 7),(4,1,.t 9)]),
 ws 5 2 10] true []) bo)
def L9(F1:Nat):di:=
 rq [wx 1 2 0,wf 2 false] (ar (rq [rf 6 1 1,rl 7 1 false 6,wn 8 7,
 wd 9 .gtr 8 25] (wt 9 (rq [wf 2 false] bo) bn)) (ar (rq [wc 3 0] (cn 0 (gz (ar (rq [rm 10 3,
 rf 11 1 1,rl 12 1 false 11,wn 13 12,wb 14 .lss 10 13] (wt 14 bn (gn 0))) (ar (cn 1 (rq [rf 17 1 1,
 rl 18 1 false 17,rm 19 3,wi 20 5 18 19,rl 21 5 true 20,ri 4 (.alloc [.str ⟨#[]⟩,.int ab 0,.cq,.cq,.cq]),
 ws 5 4 21] (ar (rq [rf 22 1 4,rl 23 3 true 22,rf 24 0 1,rl 25 1 false 24,ri 26 (.call F1 [.t 23,.t 25]),ri 27 (.un .not (.t 26)),
 rm 28 27,rg 29 28 false (.Fg 0 (.t 4)),wl 30 28 false 1 false 29,rg 31 28 false (.len .str (.t 30)),rg 32 28 false (.bin .gtr (.t 31) (ci 100)),
 wq 33 28 32,rm 34 33,rg 35 34 false (.Fg 4 (.t 4)),wl 36 34 false 1 false 35,rg 37 34 false (.len .ft (.t 36)),
 rg 38 34 false (.bin .gtr (.t 37) (ci 10)),
 wq 39 34 38] (wt 39 (rq [wf 2 false] bo) bn)) (rq [wc 5 0] (cn 2 (gz (ar (rq [rm 40 5,
 rf 41 4 4,rl 42 1 false 41,wn 43 42,wb 44 .lss 40 43] (wt 44 bn (gn 2))) (ar (cn 3 (rq [rf 47 4 4,
 rl 48 1 false 47,rm 49 5,wi 50 1 48 49,rl 51 1 false 50,ri 52 (.len .str (.t 51)),
 wd 53 .gtr 52 100] (wt 53 (rq [wf 2 false] bo) bn))) (bz [rm 45 5,wd 46 .add 45 1,
 rm 5 46] false []))))))))) (bz [rm 15 3,wd 16 .add 15 1,rm 3 16] false [])))))) (rq [wf 2 true] bo)))
def Rm:di:=
 rq [ri 0 (.alloc [.cq,.cq])] (rq [ri 2 (.build [.str ⟨#[]⟩,.int ab 0,.int ab 0] []),ri 3 (.build [.str ⟨#[]⟩,.int ab 0,.int ab 0] []),
 ri 4 (.build [.str ⟨#[]⟩,.int ab 0,.int ab 0] []),ri 5 (.build [.str ⟨#[]⟩,.int ab 0,.int ab 0] [(0,1,.c (.str ⟨#[119]⟩)),(1,1,ci 1)]),
 ri 6 (.build [.str ⟨#[]⟩,.int ab 0,.int ab 0] [(2,1,ci 1)]),ri 7 (.build [.str ⟨#[]⟩,.int ab 0,.int ab 0] [(2,1,ci 1)]),
 ri 8 (.yk false 6 3 [.str ⟨#[]⟩,.int ab 0,.int ab 0] [(0,3,.t 2),(3,3,.t 3),(6,3,.t 4),(9,3,.t 5),(12,3,.t 6),(15,3,.t 7)]),
 rm 1 8] (rq [ri 9 (.build [.str ⟨#[]⟩,.int ab 0] [(0,1,.c (.str ⟨#[119]⟩)),(1,1,ci 2)]),ri 10 (.yk false 1 2 [.str ⟨#[]⟩,.int ab 0] [(0,2,.t 9)]),
 rm 11 1,ri 12 (.build [.int ab 0,.cq,.cq] [(0,1,ci 0),(1,1,.t 11)]),
 ri 13 (.build [.str ⟨#[]⟩,.int ab 0,.cq,.cq,.cq] [(0,1,.c (.str ⟨#[97]⟩)),(1,3,.t 12)]),ri 14 (.build [.str ⟨#[]⟩,.int ab 0,.int ab 0] []),
 ri 15 (.build [.str ⟨#[]⟩,.int ab 0,.int ab 0] []),ri 16 (.build [.str ⟨#[]⟩,.int ab 0,.int ab 0] []),
 ri 17 (.build [.str ⟨#[]⟩,.int ab 0,.int ab 0] [(2,1,ci 1)]),ri 18 (.build [.str ⟨#[]⟩,.int ab 0,.int ab 0] [(2,1,ci 1)]),
 ri 19 (.build [.str ⟨#[]⟩,.int ab 0,.int ab 0] [(2,1,ci 2)]),
 ri 20 (.yk false 6 3 [.str ⟨#[]⟩,.int ab 0,.int ab 0] [(0,3,.t 14),(3,3,.t 15),(6,3,.t 16),(9,3,.t 17),(12,3,.t 18),(15,3,.t 19)]),
 ri 21 (.build [.int ab 0,.cq,.cq] [(0,1,ci 0),(1,1,.t 20)]),
 ri 22 (.build [.str ⟨#[]⟩,.int ab 0,.cq,.cq,.cq] [(0,1,.c (.str ⟨#[98]⟩)),(1,3,.t 21)]),ri 23 (.build [.int ab 0,.cq,.cq] [(0,1,ci 4)]),
 ri 24 (.yk false 2 1 [.str ⟨#[]⟩] [(0,1,.c (.str ⟨#[98]⟩)),(1,1,.c (.str ⟨#[97]⟩))]),
 ri 25 (.build [.str ⟨#[]⟩,.int ab 0,.cq,.cq,.cq] [(0,1,.c (.str ⟨#[99]⟩)),(1,3,.t 23),(4,1,.t 24)]),
 ri 26 (.yk false 3 5 [.str ⟨#[]⟩,.int ab 0,.cq,.cq,.cq] [(0,5,.t 13),(5,5,.t 22),(10,5,.t 25)]),
 ri 27 (.build [.cq,.cq] [(0,1,.t 10),(1,1,.t 26)]),ws 2 0 27] bo))
def Gb:di:=
 rq [wf 2 false] (rq [rm 3 0,wd 4 .geq 3 (-1000000),rm 5 4,wm 6 5 true 0,rg 7 5 true (.bin .leq (.t 6) (ci 1000000)),
 wp 8 5 7,rm 2 8] bo)
def Dg:di:=
 rq [wf 2 false] (ar (rq [rm 5 0,ri 6 (.len .str (.t 5)),wd 7 .lss 6 1,rm 8 7,wm 9 8 false 0,
 rg 10 8 false (.len .str (.t 9)),rg 11 8 false (.bin .gtr (.t 10) (ci 20)),
 wq 12 8 11] (wt 12 (rq [wf 2 false] bo) bn)) (ar (rq [rm 13 0,ri 14 (.len .str (.t 13)),
 wc 15 0] (cn 0 (gz (rq [wb 16 .lss 15 14] (ar (wt 16 bn (gn 0)) (ar (cn 1 (rq [rm 17 15,rm 3 17] (rq [rm 18 0,
 rm 19 3,ri 20 (.Zr (.t 18) (.t 19)),rm 4 20] (rq [rm 21 4,ri 22 (.bin .lss (.t 21) (.c (.int .u8 97))),rm 23 22,wm 24 23 false 4,
 rg 25 23 false (.bin .gtr (.t 24) (.c (.int .u8 122))),wq 26 23 25,rm 27 26,wm 28 27 true 3,
 rg 29 27 true (.bin .eql (.t 28) (ci 0)),wm 30 27 true 29,wm 31 30 false 4,rg 32 30 false (.bin .lss (.t 31) (.c (.int .u8 48))),
 rg 33 27 true (.pick (.t 30) (.c (.bool true)) (.t 32)),wm 34 27 true 33,wm 35 34 false 4,rg 36 34 false (.bin .gtr (.t 35) (.c (.int .u8 57))),
 rg 37 27 true (.pick (.t 34) (.c (.bool true)) (.t 36)),
 wp 38 27 37] (wt 38 (rq [wf 2 false] bo) bn))))) (bz [wd 39 .add 15 1,
 rm 15 39] false []))))))) (rq [wf 2 true] bo)))
def Bv(ju qi:Nat):di:=
 rq [wc 2 0] (ar (rq [rm 5 0,wn 6 5,
 wd 7 .gtr 6 20] (wt 7 (rq [wc 2 1] bo) bn)) (ar (rq [rm 8 0,wn 9 8,
 wc 10 0] (cn 0 (gz (rq [wb 11 .lss 10 9] (ar (wt 11 bn (gn 0)) (ar (cn 1 (rq [rm 12 10,
 wi 13 2 8 10,rl 14 2 true 13,ri 4 (.alloc [.str ⟨#[]⟩,.int ab 0]),rm 3 12,ws 2 4 14] (ar (bz [rf 15 0 4,
 rl 16 1 false 15,ri 17 (.call ju [.t 16]),ri 18 (.un .not (.t 17)),rm 19 18,rg 20 19 false (.Fg 1 (.t 4)),wl 21 19 false 1 false 20,
 rg 22 19 false (.call qi [.t 21]),rg 23 19 false (.un .not (.t 22)),wq 24 19 23,rm 25 24,wm 26 25 false 3,
 rg 27 25 false (.bin .gtr (.t 26) (ci 0)),wm 28 25 false 27,wm 29 28 true 0,wm 30 28 true 3,rg 31 28 true (.bin .sub (.t 30) (ci 1)),
 rg 32 28 true (.sq 2 (.t 29) (.t 31)),rg 33 28 true (.Fg 0 (.t 32)),wl 34 28 true 1 false 33,rg 35 28 true (.Fg 0 (.t 4)),
 wl 36 28 true 1 false 35,rg 37 28 true (.bin .geq (.t 34) (.t 36)),rg 38 25 false (.pick (.t 28) (.t 37) (.c (.bool false))),
 wq 39 25 38] true []) (wt 39 (rq [wc 2 1] bo) bn)))) (bz [wd 40 .add 10 1,
 rm 10 40] false []))))))) (rq [wc 2 0] bo)))
def Mq(C2 mz:Nat):di:=
 rq [wx 2 3 0,wc 4 0] (ar (rq [rl 6 3 true 2,ri 7 (.call C2 [.t 6]),rm 5 7] (rq [rm 8 5,
 wd 9 .neq 8 0] (wt 9 (rq [rm 10 5,rm 4 10] bo) bn))) (rq [rm 11 1,ri 12 (.call mz [.t 11]),rm 4 12] bo))
def Jf(C1 zq:Nat):di:=
 rq [wx 2 3 0,wo 4,wc 5 0] (ar (rq [rl 7 3 true 2,rm 8 1,ri 9 (.call C1 [.t 7,.t 8]),rm 6 9] (rq [rm 10 6,
 wd 11 .neq 10 0] (wt 11 (rq [rm 12 6,wo 4,rm 5 12] bo) bn))) (rq [rl 13 3 true 2,rm 14 1,
 ri 15 (.call zq [.t 13,.t 14]),rx 16 15 0,rx 17 15 1,rm 4 16,rm 5 17] bo))
def Je:di:=
 rq [wx 2 3 0,wo 4,wc 5 0] (rq [ri 14 (.H9),rm 6 14] (ar (rq [rm 15 1,wn 16 15,
 wc 17 0] (cn 0 (gz (rq [wb 18 .lss 17 16] (ar (wt 18 bn (gn 0)) (ar (cn 1 (rq [wi 19 2 15 17,
 rl 20 2 true 19,ri 8 (.alloc [.str ⟨#[]⟩,.int ab 0]),ws 2 8 20] (bz [rm 21 6,rf 22 0 8,rl 23 1 false 22,rf 24 1 8,rl 25 1 false 24,
 rn (.Wd (.one .str) (.t 21) (.t 23) (.t 25))] false []))) (bz [wd 26 .add 17 1,
 rm 17 26] false []))))))) (rq [wo 9] (ar (rq [rf 27 1 2,rl 28 1 false 27,wn 29 28,
 wc 30 0] (cn 2 (gz (rq [wb 31 .lss 30 29] (ar (wt 31 bn (gn 2)) (ar (cn 3 (rq [wi 32 3 28 30,
 rl 33 3 true 32,ri 11 (.alloc [.str ⟨#[]⟩,.int ab 0,.int ab 0]),ws 3 11 33] (rq [rm 35 6,rf 36 0 11,rl 37 1 false 36,
 ri 38 (.lookup (.one .str) (.int ab 0) (.t 35) (.t 37) true),rm 34 38,rx 39 34 0,rx 40 34 1,rm 12 39,rm 13 40] (ar (rq [rf 41 0 11,rl 42 1 false 41,
 ri 43 (.bin .neq (.t 42) (.c (.str ⟨#[]⟩))),rm 44 43,wm 45 44 true 13,rg 46 44 true (.un .not (.t 45)),
 wp 47 44 46] (wt 47 (rq [wo 4,wc 5 4] bo) bn)) (ar (rq [rf 48 0 11,rl 49 1 false 48,
 ri 50 (.bin .eql (.t 49) (.c (.str ⟨#[]⟩)))] (wt 50 (bz [wc 12 0] false []) bn)) (bz [rm 51 9,rf 52 1 11,rl 53 1 false 52,rm 54 12,
 wb 55 .mul 53 54,rf 56 2 11,rl 57 1 false 56,wb 58 .add 55 57,ri 59 (.yk false 1 1 [.int ab 0] [(0,1,.t 58)]),
 ri 60 (.app 1 8 (.t 51) (.t 59)),rm 9 60] false [])))))) (bz [wd 61 .add 30 1,rm 30 61] false []))))))) (rq [rm 62 9,rm 4 62,
 wc 5 0] bo)))))
def C7(oe:Nat):di:=
 rq [wf 2 false] (rq [rm 3 0,wd 4 .geq 3 0,rm 5 4,wm 6 5 true 0,rg 7 5 true (.call oe []),
 rg 8 5 true (.j7 (ci 14)),rg 9 5 true (.bin .lss (.t 6) (.t 8)),wp 10 5 9,rm 2 10] bo)
def Mr(Ci Ch Cg Cf Ce Cd Cc G4 Cb Ca Bp Bo Bn Dq:Nat):di:=
 rq [ri 0 (.alloc [.str ⟨#[]⟩,.int ab 0,.int ab 0,.uw,.str ⟨#[]⟩,.int ab 0,.int ab 0,.uw,.str ⟨#[]⟩,.int ab 0,.int ab 0,.uw,.str ⟨#[]⟩,.int ab 0,.int ab 0,.uw,.str ⟨#[]⟩,.int ab 0,.int ab 0,.uw,.str ⟨#[]⟩,.int ab 0,.int ab 0,.uw,.str ⟨#[]⟩,.int ab 0,.int ab 0,.uw,.str ⟨#[]⟩,.int ab 0,.int ab 0,.uw,.str ⟨#[]⟩,.int ab 0,.int ab 0,.uw,.str ⟨#[]⟩,.int ab 0,.int ab 0,.uw,.str ⟨#[]⟩,.int ab 0,.int ab 0,.uw,.str ⟨#[]⟩,.int ab 0,.int ab 0,.uw,.str ⟨#[]⟩,.int ab 0,.int ab 0,.uw,.str ⟨#[]⟩,.int ab 0,.int ab 0,.uw])] (rq [ri 1 (.build [.str ⟨#[]⟩,.int ab 0,.int ab 0,.uw] [(0,1,.c (.str ⟨#[98,111,120]⟩)),(1,1,ci 0),(2,1,ci 6),(3,1,.c (.nu Ci []))]),
 ri 2 (.build [.str ⟨#[]⟩,.int ab 0,.int ab 0,.uw] [(0,1,.c (.str ⟨#[112,114,105,115,109]⟩)),(1,1,ci 0),(2,1,ci 2),(3,1,.c (.nu Ch []))]),
 ri 3 (.build [.str ⟨#[]⟩,.int ab 0,.int ab 0,.uw] [(0,1,.c (.str ⟨#[115,108,97,110,116]⟩)),(1,1,ci 0),(2,1,ci 4),(3,1,.c (.nu Cg []))]),
 ri 4 (.build [.str ⟨#[]⟩,.int ab 0,.int ab 0,.uw] [(0,1,.c (.str ⟨#[112,121,114,97,109,105,100]⟩)),(1,1,ci 0),(2,1,ci 4),(3,1,.c (.nu Cf []))]),
 ri 5 (.build [.str ⟨#[]⟩,.int ab 0,.int ab 0,.uw] [(0,1,.c (.str ⟨#[117,110,105,111,110]⟩)),(1,1,ci 2),(2,1,ci 0),(3,1,.c (.nu Ce []))]),
 ri 6 (.build [.str ⟨#[]⟩,.int ab 0,.int ab 0,.uw] [(0,1,.c (.str ⟨#[105,110,116,101,114,115,101,99,116]⟩)),(1,1,ci 2),(2,1,ci 0),(3,1,.c (.nu Cd []))]),
 ri 7 (.build [.str ⟨#[]⟩,.int ab 0,.int ab 0,.uw] [(0,1,.c (.str ⟨#[115,117,98,116,114,97,99,116]⟩)),(1,1,ci 2),(2,1,ci 0),(3,1,.c (.nu Cc []))]),
 ri 8 (.build [.str ⟨#[]⟩,.int ab 0,.int ab 0,.uw] [(0,1,.c (.str ⟨#[99,108,105,112]⟩)),(1,1,ci 1),(2,1,ci 4),(3,1,.c (.nu G4 []))]),
 ri 9 (.build [.str ⟨#[]⟩,.int ab 0,.int ab 0,.uw] [(0,1,.c (.str ⟨#[115,104,105,102,116]⟩)),(1,1,ci 1),(2,1,ci 3),(3,1,.c (.nu Cb []))]),
 ri 10 (.build [.str ⟨#[]⟩,.int ab 0,.int ab 0,.uw] [(0,1,.c (.str ⟨#[115,121,109,109,101,116,114,121]⟩)),(1,1,ci 1),(2,1,ci 1),(3,1,.c (.nu Ca []))]),
 ri 11 (.build [.str ⟨#[]⟩,.int ab 0,.int ab 0,.uw] [(0,1,.c (.str ⟨#[115,99,97,108,101]⟩)),(1,1,ci 1),(2,1,ci 2),(3,1,.c (.nu Bp []))]),
 ri 12 (.build [.str ⟨#[]⟩,.int ab 0,.int ab 0,.uw] [(0,1,.c (.str ⟨#[115,117,109]⟩)),(1,1,ci 1),(2,1,ci 6),(3,1,.c (.nu Bo []))]),
 ri 13 (.build [.str ⟨#[]⟩,.int ab 0,.int ab 0,.uw] [(0,1,.c (.str ⟨#[99,111,114,101]⟩)),(1,1,ci 1),(2,1,ci 6),(3,1,.c (.nu Bn []))]),
 ri 14 (.build [.str ⟨#[]⟩,.int ab 0,.int ab 0,.uw] [(0,1,.c (.str ⟨#[114,101,112,101,97,116]⟩)),(1,1,ci 1),(2,1,ci 4),(3,1,.c (.nu Dq []))]),
 ri 15 (.build [.str ⟨#[]⟩,.int ab 0,.int ab 0,.uw,.str ⟨#[]⟩,.int ab 0,.int ab 0,.uw,.str ⟨#[]⟩,.int ab 0,.int ab 0,.uw,.str ⟨#[]⟩,.int ab 0,.int ab 0,.uw,.str ⟨#[]⟩,.int ab 0,.int ab 0,.uw,.str ⟨#[]⟩,.int ab 0,.int ab 0,.uw,.str ⟨#[]⟩,.int ab 0,.int ab 0,.uw,.str ⟨#[]⟩,.int ab 0,.int ab 0,.uw,.str ⟨#[]⟩,.int ab 0,.int ab 0,.uw,.str ⟨#[]⟩,.int ab 0,.int ab 0,.uw,.str ⟨#[]⟩,.int ab 0,.int ab 0,.uw,.str ⟨#[]⟩,.int ab 0,.int ab 0,.uw,.str ⟨#[]⟩,.int ab 0,.int ab 0,.uw,.str ⟨#[]⟩,.int ab 0,.int ab 0,.uw] [(0,4,.t 1),(4,4,.t 2),(8,4,.t 3),(12,4,.t 4),(16,4,.t 5),(20,4,.t 6),(24,4,.t 7),(28,4,.t 8),(32,4,.t 9),(36,4,.t 10),(40,4,.t 11),(44,4,.t 12),(48,4,.t 13),(52,4,.t 14)]),
 ws 56 0 15] bo)
def Ks(o8 oe:Nat):di:=
 rq [wc 2 0,wc 3 0] (ar (rq [rm 4 0,ri 5 (.call o8 [.t 4]),ri 6 (.un .not (.t 5))] (wt 6 (rq [wc 2 0,
 wc 3 1] bo) bn)) (rq [ri 7 (.call oe []),rm 8 0,ri 9 (.a4z 14 4 true (.t 7) (.t 8)),ri 10 (.a2q 1 1 false (.t 9)),rm 2 10,
 wc 3 0] bo))
def Ms(o8 oe lx xk Bz:Nat):di:=
 rq [wx 1 3 0,wc 2 0] (ar (ar (bz [rf 3 0 1,rl 4 1 false 3,ri 5 (.call o8 [.t 4]),ri 6 (.un .not (.t 5)),rm 7 6,
 rg 8 7 false (.Fg 1 (.t 1)),wl 9 7 false 1 false 8,rg 10 7 false (.len .ft (.t 9)),rg 11 7 false (.call oe []),rg 12 7 false (.Fg 0 (.t 1)),
 wl 13 7 false 1 false 12,rg 14 7 false (.a4z 14 4 true (.t 11) (.t 13)),rg 15 7 false (.a2q 2 1 false (.t 14)),rg 16 7 false (.bin .neq (.t 10) (.t 15)),
 wq 17 7 16,rm 18 17,rg 19 18 false (.Fg 1 (.t 1)),wl 20 18 false 1 false 19,
 rg 21 18 false (.call lx [.t 20,.c (.nu xk [])]),
 wq 22 18 21] true []) (wt 22 (rq [wc 2 220] bo) bn)) (ar (rq [rf 23 0 1,
 rl 24 1 false 23] (cn 0 (ar (rq [wd 31 .eql 24 1,rm 30 31] (wt 30 bn (rq [wd 32 .eql 24 2,
 rm 30 32] (wt 30 bn (bz [wd 33 .eql 24 3,rm 30 33] false []))))) (wt 30 (rq [rf 34 2 1,rl 35 1 true 34,
 ri 36 (.call Bz [.t 35]),wd 37 .neq 36 0] (wt 37 (rq [wc 2 220] bo) bn)) (rq [rf 25 2 1,rf 26 0 25,
 rl 27 1 false 26,wn 28 27,
 wd 29 .gtr 28 0] (wt 29 (rq [wc 2 220] bo) bn)))))) (rq [wc 2 0] bo)))
def Jg(ue:Nat):di:=
 rq [wx 1 3 0,wf 2 false] (rq [rl 3 3 true 1,ri 4 (.call ue [.t 3]),ri 5 (.un .not (.t 4)),rm 2 5] bo)
def F8(qi ju:Nat):di:=
 rq [wx 1 3 0,wf 2 false] (ar (rq [rf 3 1 1,rl 4 1 false 3,ri 5 (.call qi [.t 4]),ri 6 (.un .not (.t 5)),rm 7 6,
 rg 8 7 false (.Fg 2 (.t 1)),wl 9 7 false 1 false 8,rg 10 7 false (.call qi [.t 9]),rg 11 7 false (.un .not (.t 10)),
 wq 12 7 11] (wt 12 (rq [wf 2 false] bo) bn)) (rq [rf 13 0 1,rl 14 1 false 13,
 ri 15 (.call ju [.t 14]),rm 16 15,rg 17 16 false (.Fg 0 (.t 1)),wl 18 16 false 1 false 17,
 rg 19 16 false (.bin .eql (.t 18) (.c (.str ⟨#[]⟩))),wm 20 16 false 19,rg 21 20 true (.Fg 1 (.t 1)),wl 22 20 true 1 false 21,
 rg 23 20 true (.bin .eql (.t 22) (ci 0)),rg 24 16 false (.pick (.t 20) (.t 23) (.c (.bool false))),wq 25 16 24,rm 2 25] bo))
def H8(ph:Nat):di:=
 rq [wf 4 false] (rq [rm 5 0,rm 6 1,ri 7 (.call ph [.t 5,.t 6]),wd 8 .geq 7 0,rm 4 8] bo)
def J3:di:=
 rq [wc 4 0] (ar (rq [rm 6 0,wn 7 6,
 wc 8 0] (cn 0 (gz (rq [wb 9 .lss 8 7] (ar (wt 9 bn (gn 0)) (ar (cn 1 (rq [rm 10 8,rm 5 10] (rq [rm 11 1,
 rm 12 0,rm 13 5,wi 14 3 12 13,rl 15 3 true 14,ri 16 (.wv (.t 11) [.t 15])] (wt 16 (rq [rm 17 5,
 rm 4 17] bo) bn)))) (bz [wd 18 .add 8 1,rm 8 18] false []))))))) (rq [wc 4 (-1)] bo))
def Mb(td:Nat):di:=
 rq [wf 4 false] (rq [rm 5 0,rm 6 1,ri 7 (.call td [.t 5,.t 6]),wd 8 .geq 7 0,rm 4 8] bo)
def Oh:di:=
 rq [wc 4 0] (ar (rq [rm 6 0,wn 7 6,
 wc 8 0] (cn 0 (gz (rq [wb 9 .lss 8 7] (ar (wt 9 bn (gn 0)) (ar (cn 1 (rq [rm 10 8,rm 5 10] (rq [rm 11 1,
 rm 12 0,rm 13 5,wi 14 1 12 13,rl 15 1 false 14,ri 16 (.wv (.t 11) [.t 15])] (wt 16 (rq [rm 17 5,
 rm 4 17] bo) bn)))) (bz [wd 18 .add 8 1,rm 8 18] false []))))))) (rq [wc 4 (-1)] bo))
def P6(yi:Nat):di:=
 rq [wf 4 false] (rq [rm 5 0,rm 6 1,ri 7 (.call yi [.t 5,.t 6]),wd 8 .geq 7 0,rm 4 8] bo)
def F4:di:=
 rq [wc 4 0] (ar (rq [rm 6 0,wn 7 6,
 wc 8 0] (cn 0 (gz (rq [wb 9 .lss 8 7] (ar (wt 9 bn (gn 0)) (ar (cn 1 (rq [rm 10 8,rm 5 10] (rq [rm 11 1,
 rm 12 0,rm 13 5,wi 14 1 12 13,rl 15 1 false 14,wb 16 .eql 11 15] (wt 16 (rq [rm 17 5,
 rm 4 17] bo) bn)))) (bz [wd 18 .add 8 1,rm 8 18] false []))))))) (rq [wc 4 (-1)] bo))
def K5:di:=
 rq [wc 4 0] (ar (rq [rm 6 0,wn 7 6,
 wc 8 0] (cn 0 (gz (rq [wb 9 .lss 8 7] (ar (wt 9 bn (gn 0)) (ar (cn 1 (rq [rm 10 8,rm 5 10] (rq [rm 11 1,
 rm 12 0,rm 13 5,wi 14 5 12 13,rl 15 5 true 14,ri 16 (.wv (.t 11) [.t 15])] (wt 16 (rq [rm 17 5,
 rm 4 17] bo) bn)))) (bz [wd 18 .add 8 1,rm 8 18] false []))))))) (rq [wc 4 (-1)] bo))
def Mf(mz ju pn Bb tp jy mg:Nat):di:=
 rq [wx 1 2 0,wc 2 0] (ar (rq [rf 11 0 1,rl 12 1 false 11,ri 13 (.call mz [.t 12]),wd 14 .neq 13 0,
 rm 15 14,rg 16 15 false (.Fg 1 (.t 1)),wl 17 15 false 1 false 16,rg 18 15 false (.len .ft (.t 17)),rg 19 15 false (.bin .gtr (.t 18) (ci 20)),
 wq 20 15 19] (wt 20 (rq [wc 2 230] bo) bn)) (ar (rq [rf 21 1 1,rl 22 1 false 21,
 wn 23 22,
 wc 24 0] (cn 0 (gz (rq [wb 25 .lss 24 23] (ar (wt 25 bn (gn 0)) (ar (cn 1 (rq [rm 26 24,
 wi 27 5 22 24,rl 28 5 true 27,ri 4 (.alloc [.str ⟨#[]⟩,.int ab 0,.cq,.cq,.cq]),rm 3 26,
 ws 5 4 28] (ar (bz [rf 29 0 4,rl 30 1 false 29,ri 31 (.call ju [.t 30]),ri 32 (.un .not (.t 31)),rm 33 32,
 wm 34 33 false 3,rg 35 33 false (.bin .gtr (.t 34) (ci 0)),wm 36 33 false 35,rg 37 36 true (.Fg 1 (.t 1)),wl 38 36 true 1 false 37,
 wm 39 36 true 3,rg 40 36 true (.bin .sub (.t 39) (ci 1)),rg 41 36 true (.sq 5 (.t 38) (.t 40)),rg 42 36 true (.Fg 0 (.t 41)),
 wl 43 36 true 1 false 42,rg 44 36 true (.Fg 0 (.t 4)),wl 45 36 true 1 false 44,rg 46 36 true (.bin .geq (.t 43) (.t 45)),
 rg 47 33 false (.pick (.t 36) (.t 46) (.c (.bool false))),
 wq 48 33 47] true []) (wt 48 (rq [wc 2 230] bo) bn)))) (bz [wd 49 .add 24 1,
 rm 24 49] false []))))))) (ar (rq [rf 50 1 1,rl 51 1 false 50,wn 52 51,
 wc 53 0] (cn 2 (gz (rq [wb 54 .lss 53 52] (ar (wt 54 bn (gn 2)) (ar (cn 3 (rq [wi 55 5 51 53,
 rl 56 5 true 55,ri 6 (.alloc [.str ⟨#[]⟩,.int ab 0,.cq,.cq,.cq]),ws 5 6 56] (ar (rq [rf 58 1 6,rl 59 3 true 58,rf 60 0 1,
 rl 61 1 false 60,ri 62 (.call pn [.t 59,.t 61]),rm 57 62,rx 63 57 0,rx 64 57 1,rm 7 63,rm 8 64] (rq [rm 65 8,
 wd 66 .neq 65 0] (wt 66 (rq [wc 2 230] bo) bn))) (ar (rq [rf 68 1 6,rf 69 0 68,rl 70 1 false 69,
 ri 71 (.call Bb [.t 70]),rm 67 71,rx 72 67 0,rx 73 67 1,rm 9 72,rm 10 73] (rq [rm 74 9,rf 75 4 6,rl 76 1 false 75,wn 77 76,
 wb 78 .neq 74 77] (wt 78 (rq [wc 2 230] bo) bn))) (rq [rf 79 4 6,rl 80 1 false 79,ri 81 (.Lr tp [.t 1]),
 ri 82 (.call jy [.t 80,.t 81])] (wt 82 (rq [wc 2 230] bo) bn)))))) (bz [wd 83 .add 53 1,
 rm 53 83] false []))))))) (ar (ar (bz [rl 84 2 true 1,ri 85 (.call mg [.t 84]),wn 86 85,rf 87 1 1,rl 88 1 false 87,
 wn 89 88,wb 90 .neq 86 89] true []) (wt 90 (rq [wc 2 230] bo) bn)) (rq [wc 2 0] bo)))))
def J9(oz:Nat):di:=
 rq [wf 3 false] (rq [rl 4 2 true 1,rm 5 0,ri 6 (.call oz [.t 4,.t 5]),ri 7 (.Jl .ptr false (.t 6)),rm 3 7] bo)
def Gm:di:=
 rq [wx 2 2 0,ri 4 (.j7 (.c .Wc))] (ar (rq [rf 6 1 2,rl 7 1 false 6,wn 8 7,
 wc 9 0] (cn 0 (gz (rq [wb 10 .lss 9 8] (ar (wt 10 bn (gn 0)) (ar (cn 1 (rq [rm 11 9,rm 5 11] (rq [rf 12 1 2,
 rl 13 1 false 12,rm 14 5,wi 15 5 13 14,rf 16 0 15,rl 17 1 false 16,rm 18 1,wb 19 .eql 17 18] (wt 19 (rq [rf 20 1 2,
 rl 21 1 false 20,rm 22 5,wi 23 5 21 22,rm 4 23] bo) bn)))) (bz [wd 24 .add 9 1,
 rm 9 24] false []))))))) (rq [ri 4 (.j7 (.c .Wc))] bo))
def Eb(lh pq jy:Nat):di:=
 rq [wx 2 5 0,wf 3 false] (rq [rl 4 1 false 1,rf 5 0 2,rl 6 1 false 5,ri 7 (.call lh [.t 4,.t 6]),
 ri 8 (.un .not (.t 7)),rm 9 8,rg 10 9 true (.Fg 4 (.t 2)),wl 11 9 true 1 false 10,rg 12 9 true (.Lr pq [.t 1]),
 rg 13 9 true (.call jy [.t 11,.t 12]),rg 14 9 true (.un .not (.t 13)),wp 15 9 14,rm 3 15] bo)
def Cm(lh:Nat):di:=
 rq [wf 3 false] (rq [rl 4 1 false 1,rm 5 0,ri 6 (.call lh [.t 4,.t 5]),ri 7 (.un .not (.t 6)),rm 3 7] bo)
def J4:di:=
 rq [wc 4 0] (ar (rq [rm 6 0,wn 7 6,
 wc 8 0] (cn 0 (gz (rq [wb 9 .lss 8 7] (ar (wt 9 bn (gn 0)) (ar (cn 1 (rq [rm 10 8,rm 5 10] (rq [rm 11 1,
 rm 12 0,rm 13 5,wi 14 2 12 13,rl 15 2 true 14,ri 16 (.wv (.t 11) [.t 15])] (wt 16 (rq [rm 17 5,
 rm 4 17] bo) bn)))) (bz [wd 18 .add 8 1,rm 8 18] false []))))))) (rq [wc 4 (-1)] bo))
def Ml(tu ml:Nat):di:=
 rq [wx 2 2 0,wx 3 1 1,wc 4 0] (rq [rf 5 0 2,rl 6 1 false 5,ri 7 (.Lr tu [.t 3]),
 ri 8 (.call ml [.t 6,.t 7]),rm 4 8] bo)
def Mk(tq j4:Nat):di:=
 rq [wx 2 2 0,wx 3 1 1,wc 4 0] (rq [rf 5 1 2,rl 6 1 false 5,ri 7 (.Lr tq [.t 3]),
 ri 8 (.call j4 [.t 6,.t 7]),rm 4 8] bo)
def Jc:di:=
 rq [wx 2 2 0,wf 3 false] (rq [rf 4 0 2,rl 5 1 false 4,rl 6 1 false 1,wb 7 .eql 5 6,rm 3 7] bo)
def Jb:di:=
 rq [wx 2 5 0,wf 3 false] (rq [rf 4 0 2,rl 5 1 false 4,rl 6 1 false 1,wb 7 .eql 5 6,rm 3 7] bo)
def Md:di:=
 rq [wo 2] (ar (rq [rm 3 0,
 ri 4 (.Jl .ft false (.t 3))] (wt 4 (rq [wo 2] bo) bn)) (rq [ri 5 (.yk false 0 2 [.str ⟨#[]⟩,.int ab 0] []),rm 6 0,
 ri 7 (.app 2 24 (.t 5) (.t 6)),rm 2 7] bo))
def Sr:di:=
 rq [wo 2] (ar (rq [rm 3 0,
 ri 4 (.Jl .ft false (.t 3))] (wt 4 (rq [wo 2] bo) bn)) (rq [ri 5 (.yk false 0 1 [.str ⟨#[]⟩] []),rm 6 0,
 ri 7 (.app 1 16 (.t 5) (.t 6)),rm 2 7] bo))
def Mc:di:=
 rq [wo 2] (ar (rq [rm 3 0,
 ri 4 (.Jl .ft false (.t 3))] (wt 4 (rq [wo 2] bo) bn)) (rq [ri 5 (.yk false 0 3 [.str ⟨#[]⟩,.int ab 0,.int ab 0] []),
 rm 6 0,ri 7 (.app 3 32 (.t 5) (.t 6)),rm 2 7] bo))
def N8:di:=
 rq [wo 2] (ar (rq [rm 3 0,
 ri 4 (.Jl .ft false (.t 3))] (wt 4 (rq [wo 2] bo) bn)) (rq [ri 5 (.yk false 0 2 [.int ab 0,.int ab 0] []),rm 6 0,
 ri 7 (.app 2 16 (.t 5) (.t 6)),rm 2 7] bo))
def yz:di:=
 rq [wo 4] (rq [wo 5] (ar (rq [rm 8 0,wn 9 8,
 wc 10 0] (cn 0 (gz (rq [wb 11 .lss 10 9] (ar (wt 11 bn (gn 0)) (ar (cn 1 (rq [wi 12 5 8 10,
 rl 13 5 true 12,ri 7 (.alloc [.str ⟨#[]⟩,.int ab 0,.cq,.cq,.cq]),ws 5 7 13] (bz [rm 14 5,rm 15 1,rl 16 5 true 7,
 ri 17 (.wv (.t 15) [.t 16]),ri 18 (.yk false 1 5 [.str ⟨#[]⟩,.int ab 0,.cq,.cq,.cq] [(0,5,.t 17)]),ri 19 (.app 5 96 (.t 14) (.t 18)),
 rm 5 19] false []))) (bz [wd 20 .add 10 1,rm 10 20] false []))))))) (rq [rm 21 5,rm 4 21] bo)))
def za:di:=
 rq [wo 4] (rq [wo 5] (ar (rq [rm 8 0,wn 9 8,
 wc 10 0] (cn 0 (gz (rq [wb 11 .lss 10 9] (ar (wt 11 bn (gn 0)) (ar (cn 1 (rq [wi 12 1 8 10,
 rl 13 1 false 12,rm 7 13] (bz [rm 14 5,rm 15 1,rm 16 7,ri 17 (.wv (.t 15) [.t 16]),ri 18 (.yk false 1 1 [.cq] [(0,1,.t 17)]),
 ri 19 (.app 1 24 (.t 14) (.t 18)),rm 5 19] false []))) (bz [wd 20 .add 10 1,rm 10 20] false []))))))) (rq [rm 21 5,rm 4 21] bo)))
def Ny(mu jz jh fl:Nat):di:=
 rq [wx 1 5 0,ri 2 (.alloc [.str ⟨#[]⟩,.int ab 0,.cq,.cq,.cq])] (rq [rf 3 4 1,rl 4 1 false 3,ri 5 (.call mu [.t 4]),rf 6 4 1,
 ws 1 6 5] (rq [rf 7 1 1,rf 8 1 7,rl 9 1 false 8,ri 10 (.call jz [.t 9]),rf 11 1 1,rf 12 1 11,
 ws 1 12 10] (rq [rf 13 1 1,rf 14 2 13,rf 15 0 14,rl 16 1 false 15,
 ri 17 (.call jh [.t 16,.c (.nu fl [])]),ri 18 (.build [.cq] [(0,1,.t 17)]),rf 19 1 1,rf 20 2 19,
 ws 1 20 18] (rq [rl 21 5 true 1,ws 5 2 21] bo))))
def Kr(fc dr jg:Nat):di:=
 rq [wx 1 2 0,ri 2 (.alloc [.cq,.cq])] (ar (bz [rf 3 0 1,rl 4 1 false 3,ri 5 (.call fc [.t 4]),rf 6 1 1,rl 7 1 false 6,
 ri 8 (.call dr [.t 7,.c (.nu jg [])]),ri 9 (.build [.cq,.cq] [(0,1,.t 5),(1,1,.t 8)]),
 ws 2 2 9] true []) bo)
def Kp(vq:Nat):di:=
 rq [wx 1 2 0,wf 2 false] (rq [rl 3 2 true 1,ri 4 (.call vq [.t 3]),ri 5 (.un .not (.t 4)),rm 2 5] bo)
def De:di:=
 rq [wx 1 1 0,wc 2 0] (rq [wc 3 0] (ar (rq [rf 6 0 1,rl 7 1 false 6,wn 8 7,
 wc 9 0] (cn 0 (gz (rq [wb 10 .lss 9 8] (ar (wt 10 bn (gn 0)) (ar (cn 1 (rq [wi 11 1 7 9,
 rl 12 1 false 11,rm 5 12] (bz [rm 13 3,rm 14 5,wn 15 14,wb 16 .add 13 15,
 rm 3 16] false []))) (bz [wd 17 .add 9 1,rm 9 17] false []))))))) (rq [rm 18 3,rm 2 18] bo)))
def Bg:di:=
 rq [wx 1 1 0,wo 2] (rq [wo 3] (ar (rq [rf 8 0 1,rl 9 1 false 8,wn 10 9,
 wc 11 0] (cn 0 (gz (rq [wb 12 .lss 11 10] (ar (wt 12 bn (gn 0)) (ar (cn 1 (rq [wi 13 1 9 11,
 rl 14 1 false 13,rm 5 14] (rq [rm 15 5,wn 16 15,
 wc 17 0] (cn 2 (gz (rq [wb 18 .lss 17 16] (ar (wt 18 bn (gn 2)) (ar (cn 3 (rq [rm 19 17,
 wi 20 2 15 17,rl 21 2 true 20,ri 7 (.alloc [.int ab 0,.int ab 0]),rm 6 19,ws 2 7 21] (bz [rm 22 3,rl 23 2 true 7,
 rm 24 5,rm 25 6,wd 26 .add 25 1,rm 27 5,wn 28 27,wb 29 .rem 26 28,wi 30 2 24 29,rl 31 2 true 30,
 ri 32 (.build [.int ab 0,.int ab 0,.int ab 0,.int ab 0] [(0,2,.t 23),(2,2,.t 31)]),
 ri 33 (.yk false 1 4 [.int ab 0,.int ab 0,.int ab 0,.int ab 0] [(0,4,.t 32)]),ri 34 (.app 4 32 (.t 22) (.t 33)),
 rm 3 34] true []))) (bz [wd 35 .add 17 1,rm 17 35] false []))))))))) (bz [wd 36 .add 11 1,
 rm 11 36] false []))))))) (rq [rm 37 3,rm 2 37] bo)))
def C6:di:=
 rq [wx 1 2 0,wf 2 false] (rq [wa 3 2 1 1 0,rl 4 1 false 3,wa 5 2 1 1 1,rl 6 1 false 5,
 ri 7 (.Ee true (.t 4) (.t 6)),wd 8 .leq 7 500,rm 9 8,rg 10 9 true (.ux 2 1 (.t 1) (ci 0)),wl 11 9 true 1 false 10,
 rg 12 9 true (.ux 2 1 (.t 1) (ci 1)),wl 13 9 true 1 false 12,rg 14 9 true (.Ee false (.t 11) (.t 13)),rg 15 9 true (.bin .geq (.t 14) (ci (-500))),
 wp 16 9 15,rm 2 16] bo)
def Fs:di:=
 rq [wx 2 2 0,wx 3 2 1,ri 4 (.alloc [.int ab 0,.int ab 0])] (rq [wa 5 2 1 2 0,rl 6 1 false 5,
 wa 7 2 1 3 0,rl 8 1 false 7,wb 9 .sub 6 8,wa 10 2 1 2 1,rl 11 1 false 10,wa 12 2 1 3 1,
 rl 13 1 false 12,wb 14 .sub 11 13,ri 15 (.build [.int ab 0,.int ab 0] [(0,1,.t 9),(1,1,.t 14)]),ws 2 4 15] bo)
def Hr(jw:Nat):di:=
 rq [wf 4 false] (rq [rm 5 0,rm 6 1,ri 7 (.call jw [.t 5,.t 6]),wd 8 .geq 7 0,rm 4 8] bo)
def K6:di:=
 rq [wc 4 0] (ar (rq [rm 6 0,wn 7 6,
 wc 8 0] (cn 0 (gz (rq [wb 9 .lss 8 7] (ar (wt 9 bn (gn 0)) (ar (cn 1 (rq [rm 10 8,rm 5 10] (rq [rm 11 1,
 rm 12 0,rm 13 5,wi 14 2 12 13,rl 15 2 true 14,ri 16 (.wv (.t 11) [.t 15])] (wt 16 (rq [rm 17 5,
 rm 4 17] bo) bn)))) (bz [wd 18 .add 8 1,rm 8 18] false []))))))) (rq [wc 4 (-1)] bo))
def Ko(ub qu:Nat):di:=
 rq [wf 2 false] (rq [ri 10 (.H9),rm 3 10] (ar (rq [rm 11 0,wn 12 11,
 wc 13 0] (cn 0 (gz (rq [wb 14 .lss 13 12] (ar (wt 14 bn (gn 0)) (ar (cn 1 (rq [wi 15 4 11 13,
 rl 16 4 true 15,ri 5 (.alloc [.int ab 0,.int ab 0,.int ab 0,.int ab 0]),ws 4 5 16] (ar (rq [wa 17 2 2 5 0,
 rl 18 2 true 17,wa 19 2 2 5 1,rl 20 2 true 19,ri 21 (.eqs [.int,.int] false (.t 18) (.t 20)),rm 22 21,wm 23 22 false 3,
 wl 24 22 false 4 true 5,rg 25 22 false (.lookup (.row [.int,.int,.int,.int]) (.bool false) (.t 23) (.t 24) false),
 wq 26 22 25,rm 27 26,wm 28 27 false 3,rg 29 27 false (.ux 2 2 (.t 5) (ci 1)),wl 30 27 false 2 true 29,
 rg 31 27 false (.ux 2 2 (.t 5) (ci 0)),wl 32 27 false 2 true 31,
 rg 33 27 false (.build [.int ab 0,.int ab 0,.int ab 0,.int ab 0] [(0,2,.t 30),(2,2,.t 32)]),
 rg 34 27 false (.lookup (.row [.int,.int,.int,.int]) (.bool false) (.t 28) (.t 33) false),
 wq 35 27 34] (wt 35 (rq [wf 2 false] bo) bn)) (bz [rm 36 3,rl 37 4 true 5,
 rn (.Wd (.row [.int,.int,.int,.int]) (.t 36) (.t 37) (.c (.bool true)))] false [])))) (bz [wd 38 .add 13 1,
 rm 13 38] false []))))))) (ar (rq [rm 39 0,wn 40 39,
 wc 41 0] (cn 2 (gz (rq [wb 42 .lss 41 40] (ar (wt 42 bn (gn 2)) (ar (cn 3 (rq [rm 43 41,
 wi 44 4 39 41,rl 45 4 true 44,ri 7 (.alloc [.int ab 0,.int ab 0,.int ab 0,.int ab 0]),rm 6 43,
 ws 4 7 45] (rq [rm 46 0,wn 47 46,
 wc 48 0] (cn 4 (gz (rq [wb 49 .lss 48 47] (ar (wt 49 bn (gn 4)) (ar (cn 5 (rq [rm 50 48,
 wi 51 4 46 48,rl 52 4 true 51,ri 9 (.alloc [.int ab 0,.int ab 0,.int ab 0,.int ab 0]),rm 8 50,
 ws 4 9 52] (rq [rl 53 4 true 7,wa 54 2 2 9 0,rl 55 2 true 54,ri 56 (.call ub [.t 53,.t 55]),rm 57 56,
 wm 58 57 false 8,wm 59 57 false 6,rg 60 57 false (.bin .lss (.t 58) (.t 59)),wm 61 57 false 60,wl 62 61 true 4 true 7,
 wl 63 61 true 4 true 9,rg 64 61 true (.call qu [.t 62,.t 63]),rg 65 57 false (.pick (.t 61) (.t 64) (.c (.bool false))),
 wq 66 57 65] (wt 66 (rq [wf 2 false] bo) bn)))) (bz [wd 67 .add 48 1,
 rm 48 67] false []))))))))) (bz [wd 68 .add 41 1,rm 41 68] false []))))))) (rq [wf 2 true] bo))))
def F6(fg je:Nat):di:=
 rq [wx 2 4 0,wx 3 2 1,wf 4 false] (ar (bz [wa 7 2 2 2 0,rl 8 2 true 7,rl 9 2 true 3,
 ri 10 (.call fg [.t 8,.t 9]),wa 11 2 2 2 1,rl 12 2 true 11,rl 13 2 true 3,ri 14 (.call fg [.t 12,.t 13]),
 ri 5 (.ze 2),ri 6 (.ze 2),rn (.init 5 2 (.t 10)),rn (.init 6 2 (.t 14))] true []) (rq [rl 15 2 true 5,rl 16 2 true 6,
 ri 17 (.call je [.t 15,.t 16]),wd 18 .eql 17 0,rm 19 18,rg 20 19 true (.ux 2 1 (.t 5) (ci 0)),wl 21 19 true 1 false 20,
 rg 22 19 true (.ux 2 1 (.t 6) (ci 0)),wl 23 19 true 1 false 22,rg 24 19 true (.bin .mul (.t 21) (.t 23)),rg 25 19 true (.ux 2 1 (.t 5) (ci 1)),
 wl 26 19 true 1 false 25,rg 27 19 true (.ux 2 1 (.t 6) (ci 1)),wl 28 19 true 1 false 27,rg 29 19 true (.bin .mul (.t 26) (.t 28)),
 rg 30 19 true (.bin .add (.t 24) (.t 29)),rg 31 19 true (.bin .lss (.t 30) (ci 0)),wp 32 19 31,rm 4 32] bo))
def Bx(pv:Nat):di:=
 rq [wx 2 4 0,wx 3 4 1,wf 4 false] (rq [ri 5 (.j7 (.c (.nu pv [])))] (ar (bz [rm 6 5,
 rl 7 4 true 2,wa 8 2 2 3 0,rl 9 2 true 8,ri 10 (.wv (.t 6) [.t 7,.t 9]),rm 11 5,rl 12 4 true 2,wa 13 2 2 3 1,rl 14 2 true 13,
 ri 15 (.wv (.t 11) [.t 12,.t 14]),wb 16 .mul 10 15,wd 17 .lss 16 0,rm 18 17,wm 19 18 true 5,
 wl 20 18 true 4 true 3,rg 21 18 true (.ux 2 2 (.t 2) (ci 0)),wl 22 18 true 2 true 21,rg 23 18 true (.wv (.t 19) [.t 20,.t 22]),
 wm 24 18 true 5,wl 25 18 true 4 true 3,rg 26 18 true (.ux 2 2 (.t 2) (ci 1)),wl 27 18 true 2 true 26,
 rg 28 18 true (.wv (.t 24) [.t 25,.t 27]),rg 29 18 true (.bin .mul (.t 23) (.t 28)),rg 30 18 true (.bin .lss (.t 29) (ci 0)),
 wp 31 18 30,rm 4 31] true []) bo))
def Ak(fg je:Nat):di:=
 rq [wx 2 4 0,wx 3 2 1,wc 4 0] (ar (bz [wa 5 2 2 2 1,rl 6 2 true 5,wa 7 2 2 2 0,
 rl 8 2 true 7,ri 9 (.call fg [.t 6,.t 8]),rl 10 2 true 3,wa 11 2 2 2 0,rl 12 2 true 11,
 ri 13 (.call fg [.t 10,.t 12]),ri 14 (.call je [.t 9,.t 13]),ri 15 (.Ee false (ci 1) (.t 14)),
 ri 16 (.Ee true (ci (-1)) (.t 15)),rm 4 16] true []) bo)
def Mh:di:=
 rq [wx 2 2 0,wx 3 2 1,wc 4 0] (rq [wa 5 2 1 2 0,rl 6 1 false 5,wa 7 2 1 3 1,rl 8 1 false 7,
 wb 9 .mul 6 8,wa 10 2 1 2 1,rl 11 1 false 10,wa 12 2 1 3 0,rl 13 1 false 12,wb 14 .mul 11 13,
 wb 15 .sub 9 14,rm 4 15] bo)
def Nv(fg je:Nat):di:=
 rq [wx 3 2 0,wx 4 2 1,wx 5 2 2,wc 6 0] (ar (bz [rl 8 2 true 4,rl 9 2 true 3,
 ri 10 (.call fg [.t 8,.t 9]),rl 11 2 true 5,rl 12 2 true 4,ri 13 (.call fg [.t 11,.t 12]),
 ri 14 (.call je [.t 10,.t 13]),rm 7 14] true []) (rq [rm 15 7,ri 16 (.Ee false (ci 1) (.t 15)),ri 17 (.Ee true (ci (-1)) (.t 16)),
 rm 6 17] bo))
def Kq(je:Nat):di:=
 rq [wf 2 false] (ar (rq [rm 16 0,wn 17 16,
 wc 18 0] (cn 0 (gz (rq [wb 19 .lss 18 17] (ar (wt 19 bn (gn 0)) (ar (cn 1 (rq [rm 20 18,
 wi 21 4 16 18,rl 22 4 true 21,ri 4 (.alloc [.int ab 0,.int ab 0,.int ab 0,.int ab 0]),rm 3 20,
 ws 4 4 22] (rq [wa 23 2 2 4 0,wa 24 2 1 23 0,rl 25 1 false 24,wa 26 2 2 4 1,
 wa 27 2 1 26 0,rl 28 1 false 27,wb 29 .add 25 28,wa 30 2 2 4 0,wa 31 2 1 30 1,rl 32 1 false 31,
 wa 33 2 2 4 1,wa 34 2 1 33 1,rl 35 1 false 34,wb 36 .add 32 35,
 ri 37 (.build [.int ab 0,.int ab 0] [(0,1,.t 29),(1,1,.t 36)]),ri 5 (.alloc [.int ab 0,.int ab 0]),
 ws 2 5 37] (rq [wc 6 0,wc 7 1] (ar (rq [wa 38 2 2 4 0,wa 39 2 1 38 1,rl 40 1 false 39,
 wa 41 2 2 4 1,wa 42 2 1 41 1,rl 43 1 false 42,wb 44 .eql 40 43] (wt 44 (bz [wc 6 1,
 wc 7 0] false []) bn)) (rq [wc 8 0] (ar (rq [rm 45 0,wn 46 45,
 wc 47 0] (cn 2 (gz (rq [wb 48 .lss 47 46] (ar (wt 48 bn (gn 2)) (ar (cn 3 (rq [rm 49 47,
 wi 50 4 45 47,rl 51 4 true 50,ri 10 (.alloc [.int ab 0,.int ab 0,.int ab 0,.int ab 0]),rm 9 49,
 ws 4 10 51] (ar (bz [rm 52 6,wa 53 2 2 10 0,ri 54 (.ux 2 1 (.t 53) (.t 52)),rl 55 1 false 54,
 ri 56 (.bin .mul (ci 2) (.t 55)),rm 57 6,ri 58 (.ux 2 1 (.t 5) (.t 57)),rl 59 1 false 58,wb 60 .sub 56 59,rm 61 7,wa 62 2 2 10 0,
 ri 63 (.ux 2 1 (.t 62) (.t 61)),rl 64 1 false 63,ri 65 (.bin .mul (ci 2) (.t 64)),rm 66 7,ri 67 (.ux 2 1 (.t 5) (.t 66)),rl 68 1 false 67,
 wb 69 .sub 65 68,ri 70 (.build [.int ab 0,.int ab 0] [(0,1,.t 60),(1,1,.t 69)]),rm 71 6,wa 72 2 2 10 1,
 ri 73 (.ux 2 1 (.t 72) (.t 71)),rl 74 1 false 73,ri 75 (.bin .mul (ci 2) (.t 74)),rm 76 6,ri 77 (.ux 2 1 (.t 5) (.t 76)),rl 78 1 false 77,
 wb 79 .sub 75 78,rm 80 7,wa 81 2 2 10 1,ri 82 (.ux 2 1 (.t 81) (.t 80)),rl 83 1 false 82,ri 84 (.bin .mul (ci 2) (.t 83)),rm 85 7,
 ri 86 (.ux 2 1 (.t 5) (.t 85)),rl 87 1 false 86,wb 88 .sub 84 87,ri 89 (.build [.int ab 0,.int ab 0] [(0,1,.t 79),(1,1,.t 88)]),
 ri 11 (.ze 2),ri 12 (.ze 2),rn (.init 11 2 (.t 70)),rn (.init 12 2 (.t 89))] true []) (ar (rq [rm 90 9,rm 91 3,wb 92 .eql 90 91,rm 93 92,
 rg 94 93 false (.ux 2 1 (.t 11) (ci 1)),wl 95 93 false 1 false 94,rg 96 93 false (.bin .gtr (.t 95) (ci 0)),rg 97 93 false (.ux 2 1 (.t 12) (ci 1)),
 wl 98 93 false 1 false 97,rg 99 93 false (.bin .gtr (.t 98) (ci 0)),rg 100 93 false (.beq false (.t 96) (.t 99)),
 wq 101 93 100] (wt 101 (gn 3) bn)) (rq [wa 102 2 1 12 1,rl 103 1 false 102,
 wa 104 2 1 11 1,rl 105 1 false 104,wb 106 .gtr 103 105,rm 13 106] (rq [rl 107 2 true 11,rl 108 2 true 12,
 ri 109 (.call je [.t 107,.t 108]),wd 110 .gtr 109 0,rm 111 13,
 ri 112 (.beq false (.t 110) (.t 111))] (wt 112 (rq [rm 113 13] (wt 113 (bz [rm 114 8,wd 115 .add 114 1,
 rm 8 115] false []) (bz [rm 116 8,wd 117 .sub 116 1,rm 8 117] false []))) bn))))))) (bz [wd 118 .add 47 1,
 rm 47 118] false []))))))) (ar (rq [rm 119 6,wd 120 .eql 119 1] (wt 120 (bz [rm 121 8,ri 122 (.un .neg (.t 121)),
 rm 8 122] false []) bn)) (rq [rm 123 8,rm 14 123] (ar (bz [rm 124 7,wa 125 2 2 4 1,ri 126 (.ux 2 1 (.t 125) (.t 124)),rl 127 1 false 126,
 rm 128 7,wa 129 2 2 4 0,ri 130 (.ux 2 1 (.t 129) (.t 128)),rl 131 1 false 130,wb 132 .gtr 127 131,
 rm 15 132] true []) (ar (rq [rm 133 15,rm 134 6,wd 135 .eql 134 0,ri 136 (.beq false (.t 133) (.t 135))] (wt 136 (bz [rm 137 14,
 wd 138 .add 137 1,rm 14 138] false []) bn)) (rq [rm 139 14,
 wd 140 .neq 139 1] (wt 140 (rq [wf 2 false] bo) bn))))))))))))) (bz [wd 141 .add 18 1,
 rm 18 141] false []))))))) (rq [wf 2 true] bo))
def Dd:di:=
 rq [wx 1 2 0,wc 2 0] (ar (rq [wa 3 2 1 1 1,rl 4 1 false 3,wd 5 .gtr 4 0,rm 6 5,
 rg 7 6 false (.ux 2 1 (.t 1) (ci 1)),wl 8 6 false 1 false 7,rg 9 6 false (.bin .eql (.t 8) (ci 0)),wm 10 6 false 9,
 rg 11 10 true (.ux 2 1 (.t 1) (ci 0)),wl 12 10 true 1 false 11,rg 13 10 true (.bin .gtr (.t 12) (ci 0)),
 rg 14 6 false (.pick (.t 10) (.t 13) (.c (.bool false))),
 wq 15 6 14] (wt 15 (rq [wc 2 0] bo) bn)) (rq [wc 2 1] bo))
def Mi(Bl je:Nat):di:=
 rq [wx 2 2 0,wx 3 2 1,wc 4 0] (ar (ar (bz [rl 7 2 true 2,ri 8 (.call Bl [.t 7]),rl 9 2 true 3,
 ri 10 (.call Bl [.t 9]),rm 5 8,rm 6 10] true []) (rq [rm 11 5,rm 12 6,wb 13 .neq 11 12] (wt 13 (rq [rm 14 5,rm 15 6,
 wb 16 .sub 14 15,rm 4 16] bo) bn))) (rq [rl 17 2 true 2,rl 18 2 true 3,ri 19 (.call je [.t 17,.t 18]),ri 20 (.un .neg (.t 19)),
 rm 4 20] bo))
structure Pr(P:Program)where
 mo:P.follows .mixedOrders=true
 my:Nat
 Am:Nat
 uo:Nat
 Ez:Nat
 Kx:Nat
 B8:Nat
 xj:Nat
 Dn:Nat
 Cr:Nat
 Gf:Nat
 Ey:Nat
 F0:Nat
 s8:Nat
 rv:Nat
 ow:Nat
 yn:Nat
 Cq:Nat
 B7:Nat
 Dm:Nat
 Dl:Nat
 x8:Nat
 zy:Nat
 x7:Nat
 tn:Nat
 Ew:Nat
 Cp:Nat
 Co:Nat
 Cu:Nat
 F2:Nat
 Ct:Nat
 Bm:Nat
 F1:Nat
 yx:Nat
 Gg:Nat
 Cs:Nat
 Eg:Nat
 qi:Nat
 ju:Nat
 mz:Nat
 C1:Nat
 C2:Nat
 pn:Nat
 zq:Nat
 o8:Nat
 oe:Nat
 Ci:Nat
 Ch:Nat
 Cg:Nat
 Cf:Nat
 Ce:Nat
 Cd:Nat
 Cc:Nat
 G4:Nat
 Cb:Nat
 Ca:Nat
 Bp:Nat
 Bo:Nat
 Bn:Nat
 Dq:Nat
 Bb:Nat
 lx:Nat
 xk:Nat
 Bz:Nat
 ue:Nat
 ph:Nat
 jy:Nat
 td:Nat
 lh:Nat
 yi:Nat
 j4:Nat
 jl:Nat
 tp:Nat
 mg:Nat
 oz:Nat
 ny:Nat
 pq:Nat
 ml:Nat
 xx:Nat
 tu:Nat
 xw:Nat
 tq:Nat
 fc:Nat
 mu:Nat
 jz:Nat
 fl:Nat
 dr:Nat
 jh:Nat
 jg:Nat
 la:Nat
 yo:Nat
 vq:Nat
 s6:Nat
 oh:Nat
 fg:Nat
 ly:Nat
 jw:Nat
 B9:Nat
 ub:Nat
 qu:Nat
 je:Nat
 pv:Nat
 Dp:Nat
 Ba:Nat
 Bl:Nat
 sj:Nat
 a88:ew P my {}=some (Pj,[.tmp 6],30)
 ac2:ew P Am {}=some (J7,[.tmp 2],9)
 a83:ew P uo {}=some (Pf,[.cell 4 2 true],16)
 a81:ew P Ez {}=some (Ev,[.tmp 2],21)
 aj0:ew P Kx {}=some (W7 my,[.tmp 4],58)
 Zv:ew P B8 {}=some (Kn my Am,[.tmp 4],43)
 Yc:ew P xj {}=some (J8,[.tmp 4],38)
 a5h:ew P Dn {}=some (Nu xj,[.tmp 6],33)
 a86:ew P Cr {}=some (Ph,[.tmp 2],47)
 ac3:ew P Gf {uu:=[(8,[61])]}=some (Rl my,[.tmp 4],175)
 a7z:ew P Ey {}=some (Pe uo Dn,[.tmp 4],112)
 a84:ew P F0 {}=some (Pg Ez Cr Kx B8 Gf Ey,[.tmp 2],176)
 a5e:ew P s8 {}=some (J5,[.tmp 2],9)
 ac1:ew P rv {}=some (J6,[.tmp 2],47)
 Vb:ew P ow {}=some (D6 rv s8,[.tmp 2],47)
 Wr:ew P yn {}=some (Hs s8 rv,[.tmp 2],26)
 a7x:ew P Cq {}=some (Pc,[.tmp 0],2)
 Zu:ew P B7 {}=some (Ga Cq,[.tmp 2],15)
 a5g:ew P Dm {}=some (Nt,[.tmp 2],7)
 a5f:ew P Dl {}=some (Ns,[.tmp 2],7)
 a7y:ew P x8 {}=some (Pd B7 Dm yn F0,[.tmp 2],51)
 a2a:ew P zy {}=some (Me x8 ow,[.tmp 4,.tmp 5],69)
 a7w:ew P x7 {}=some (Pb,[.tmp 4],22)
 afi:ew P tn {}=some (Tf,[.tmp 4],18)
 a7s:ew P Ew {}=some (P7 tn,[.tmp 4],21)
 a7v:ew P Cp {}=some (Pa tn Ew,[.tmp 2],48)
 a7u:ew P Co {}=some (P9 ow rv x8 Dl x7 zy Cp,[.tmp 2],98)
 a8f:ew P Cu {}=some (Pq,[.tmp 2],40)
 a8g:ew P F2 {}=some (Ps,[.tmp 2],25)
 a8d:ew P Ct {}=some (Po Cu,[.cell 2 3 true],39)
 a5l:ew P Bm {}=some (Nx,[.tmp 2],26)
 a8e:ew P F1 {}=some (Pp F2,[.tmp 4],57)
 a8b:ew P yx {}=some (Pn Bm Gg,[.cell 2 2 true],30)
 ac5:ew P Gg {}=some (Rn Ct,[.cell 2 5 true],11)
 a8c:ew P Cs {}=some (L9 F1,[.tmp 2],54)
 ac4:ew P Eg {}=some (Rm,[.cell 0 2 true],28)
 a00:ew P qi {}=some (Gb,[.tmp 2],9)
 a01:ew P ju {}=some (Dg,[.tmp 2],40)
 T3:ew P mz {}=some (Bv ju qi,[.tmp 2],41)
 a2m:ew P C1 {}=some (Mq C2 mz,[.tmp 4],13)
 Yj:ew P pn {}=some (Jf C1 zq,[.tmp 4,.tmp 5],18)
 Yi:ew P zq {}=some (Je,[.tmp 4,.tmp 5],63)
 Tv:ew P o8 {}=some (C7 oe,[.tmp 2],11)
 a2n:ew P oe {}=some (Mr Ci Ch Cg Cf Ce Cd Cc G4 Cb Ca Bp Bo Bn Dq,[.cell 0 56 true],16)
 a02:ew P Bb {}=some (Ks o8 oe,[.tmp 2,.tmp 3],11)
 a2o:ew P C2 {}=some (Ms o8 oe lx xk Bz,[.tmp 2],38)
 Yk:ew P xk {}=some (Jg ue,[.tmp 2],6)
 T0:ew P ue {}=some (F8 qi ju,[.tmp 2],26)
 He:ew P lx {}=some (H8 ph,[.tmp 4],9)
 Jn:ew P ph {}=some (J3,[.tmp 4],19)
 Mx:ew P jy {}=some (Mb td,[.tmp 4],9)
 Oj:ew P td {}=some (Oh,[.tmp 4],19)
 Q1:ew P lh {}=some (P6 yi,[.tmp 4],9)
 Su:ew P yi {}=some (F4,[.tmp 4],19)
 K8:ew P j4 {}=some (K5,[.tmp 4],19)
 a2b:ew P jl {}=some (Mf mz ju pn Bb tp jy mg,[.tmp 2],91)
 Yd:ew P tp {}=some (J9 oz,[.tmp 3],8)
 Vc:ew P oz {}=some (Gm,[.tmp 4],25)
 Rv:ew P ny {}=some (Eb lh pq jy,[.tmp 3],16)
 Q2:ew P pq {}=some (Cm lh,[.tmp 3],8)
 Jo:ew P ml {}=some (J4,[.tmp 4],19)
 a2h:ew P xx {}=some (Ml tu ml,[.tmp 4],9)
 a2g:ew P xw {}=some (Mk tq j4,[.tmp 4],9)
 Yg:ew P tu {}=some (Jc,[.tmp 3],8)
 Yf:ew P tq {}=some (Jb,[.tmp 3],8)
 Es:ew P fc {}=some (Md,[.tmp 2],8)
 Kf:ew P mu {}=some (Sr,[.tmp 2],8)
 zx:ew P jz {}=some (Mc,[.tmp 2],8)
 Al:ew P fl {}=some (N8,[.tmp 2],8)
 Lv:ew P dr {}=some (yz,[.tmp 4],22)
 Lw:ew P jh {}=some (za,[.tmp 4],22)
 a5m:ew P jg {}=some (Ny mu jz jh fl,[.cell 2 5 true],22)
 Zz:ew P la {}=some (Kr fc dr jg,[.cell 2 2 true],10)
 Zx:ew P yo {}=some (Kp vq,[.tmp 2],6)
 Qw:ew P s6 {}=some (De,[.tmp 2],19)
 O5:ew P oh {}=some (Bg,[.tmp 2],38)
 Tt:ew P vq {}=some (C6,[.tmp 2],17)
 Tu:ew P fg {}=some (Fs,[.cell 4 2 true],16)
 Ig:ew P ly {}=some (Hr jw,[.tmp 4],9)
 K9:ew P jw {}=some (K6,[.tmp 4],19)
 Zw:ew P B9 {}=some (Ko ub qu,[.tmp 2],69)
 Sx:ew P ub {}=some (F6 fg je,[.tmp 4],33)
 Ol:ew P qu {}=some (Bx pv,[.tmp 4],32)
 Nf:ew P pv {}=some (Ak fg je,[.tmp 4],17)
 a2d:ew P je {}=some (Mh,[.tmp 4],16)
 a5i:ew P Dp {}=some (Nv fg je,[.tmp 6],18)
 Zy:ew P Ba {}=some (Kq je,[.tmp 2],142)
 a5k:ew P Bl {}=some (Dd,[.tmp 2],16)
 a2e:ew P sj {}=some (Mi Bl je,[.tmp 4],21)
def Fo(ny j4:Nat):di:=
 rq [wx 1 2 0,wo 2] (rq [ri 3 (.alloc [.cq])] (cn 0 (gz (cn 1 (rq [rf 5 1 1,rl 6 1 false 5,
 ri 7 (.Lr ny [.t 3]),ri 8 (.call j4 [.t 6,.t 7]),rm 4 8] (ar (rq [rm 9 4,
 wd 10 .lss 9 0] (wt 10 (rq [rl 11 1 false 3,rm 2 11] bo) bn)) (bz [rl 12 1 false 3,rf 13 1 1,rl 14 1 false 13,rm 15 4,
 wi 16 5 14 15,rf 17 0 16,rl 18 1 false 17,ri 19 (.yk true 1 1 [.str ⟨#[]⟩] [(0,1,.t 18)]),ri 20 (.app 1 16 (.t 12) (.t 19)),
 ws 1 3 20] true [])))))))
structure Pr2(P:Program)extends Pr P where
 Tp:ew P mg {imm:=[19]}=some (Fo ny j4,[.tmp 2],21)
def Mg:di:=
 rq [ri 2 (.alloc [.I0,.I0])] (rq [ri 6 (.H9),ri 7 (.H9),ri 8 (.build [.I0,.I0] [(0,1,.t 6),(1,1,.t 7)]),ri 3 (.alloc [.I0,.I0]),
 ws 2 3 8] (ar (rq [rm 9 0,wn 10 9,
 wc 11 0] (cn 0 (gz (rq [wb 12 .lss 11 10] (ar (wt 12 bn (gn 0)) (ar (cn 1 (rq [wi 13 4 9 11,
 rl 14 4 true 13,ri 5 (.alloc [.int ab 0,.int ab 0,.int ab 0,.int ab 0]),ws 4 5 14] (rq [rf 15 0 3,rl 16 1 false 15,
 wa 17 2 2 5 0,rl 18 2 true 17,wa 20 2 2 5 1,rl 21 2 true 20,ri 22 (.yk false 1 2 [.int ab 0,.int ab 0] [(0,2,.t 21)]),
 rn (.a04 (.row [.int,.int]) 2 16 (.t 16) (.t 18) (.t 22) [23,19,24,25])] (bz [rf 26 1 3,rl 27 1 false 26,wa 28 2 2 5 1,rl 29 2 true 28,
 wa 31 2 2 5 0,rl 32 2 true 31,ri 33 (.yk false 1 2 [.int ab 0,.int ab 0] [(0,2,.t 32)]),
 rn (.a04 (.row [.int,.int]) 2 16 (.t 27) (.t 29) (.t 33) [34,30,35,36])] false [])))) (bz [wd 37 .add 11 1,
 rm 11 37] false []))))))) (ar (ar (.freeze) (bz [rl 38 2 true 3,ws 2 2 38] false [])) bo)))
def Fq(Dp:Nat):di:=
 rq [wx 2 2 0,wx 3 2 1,wf 4 false] (ar (bz [rf 5 0 2,rl 6 1 false 5,rl 7 2 true 3,
 ri 8 (.lookup (.row [.int,.int]) .cq (.t 6) (.t 7) false),wn 9 8,wd 10 .neq 9 1,rm 11 10,rg 12 11 false (.Fg 1 (.t 2)),
 wl 13 11 false 1 false 12,wl 14 11 false 2 true 3,rg 15 11 false (.lookup (.row [.int,.int]) .cq (.t 13) (.t 14) false),
 rg 16 11 false (.sq 2 (.t 15) (ci 0)),wl 17 11 false 2 true 16,wl 18 11 false 2 true 3,rg 19 11 false (.Fg 0 (.t 2)),
 wl 20 11 false 1 false 19,wl 21 11 false 2 true 3,rg 22 11 false (.lookup (.row [.int,.int]) .cq (.t 20) (.t 21) false),
 rg 23 11 false (.sq 2 (.t 22) (ci 0)),wl 24 11 false 2 true 23,rg 25 11 false (.call Dp [.t 17,.t 18,.t 24]),
 rg 26 11 false (.bin .neq (.t 25) (ci 0)),wq 27 11 26,rm 4 27] true []) bo)
def Hu(fg qp sj:Nat):di:=
 rq [wx 3 2 0,wx 4 2 1,wx 5 2 2,ri 6 (.alloc [.int ab 0,.int ab 0])] (rq [rf 15 0 3,rl 16 1 false 15,rl 17 2 true 5,
 ri 18 (.lookup (.row [.int,.int]) .cq (.t 16) (.t 17) false),rm 7 18] (rq [rm 19 7,ri 20 (.sq 2 (.t 19) (ci 0)),rl 21 2 true 20,
 ri 8 (.alloc [.int ab 0,.int ab 0]),ws 2 8 21] (rq [rl 22 2 true 4,rl 23 2 true 5,ri 24 (.call fg [.t 22,.t 23]),
 ri 9 (.alloc [.int ab 0,.int ab 0]),ws 2 9 24] (rq [ri 25 (.Lr qp [.t 5,.t 9]),rm 10 25] (ar (rq [rm 26 7,
 ri 27 (.slice 2 (.t 26) (some (ci 1)) none),wn 28 27,
 wc 29 0] (cn 0 (gz (rq [wb 30 .lss 29 28] (ar (wt 30 bn (gn 0)) (ar (cn 1 (rq [wi 31 2 27 29,
 rl 32 2 true 31,ri 12 (.alloc [.int ab 0,.int ab 0]),ws 2 12 32] (ar (bz [rm 33 10,rl 34 2 true 12,ri 35 (.wv (.t 33) [.t 34]),
 rm 36 10,rl 37 2 true 8,ri 38 (.wv (.t 36) [.t 37]),rm 13 35,rm 14 38] true []) (ar (bz [rm 39 13,rm 40 39,wm 41 40 true 14,
 rg 42 40 true (.un .not (.t 41)),wp 43 40 42,rm 44 43,wm 45 44 false 13,wm 46 44 false 14,
 rg 47 44 false (.beq false (.t 45) (.t 46)),wm 48 44 false 47,wl 49 48 true 2 true 12,wl 50 48 true 2 true 5,
 rg 51 48 true (.call fg [.t 49,.t 50]),wl 52 48 true 2 true 8,wl 53 48 true 2 true 5,
 rg 54 48 true (.call fg [.t 52,.t 53]),rg 55 48 true (.call sj [.t 51,.t 54]),rg 56 48 true (.bin .gtr (.t 55) (ci 0)),
 rg 57 44 false (.pick (.t 48) (.t 56) (.c (.bool false))),wq 58 44 57] true []) (wt 58 (bz [rl 59 2 true 12,
 ws 2 8 59] false []) bn))))) (bz [wd 60 .add 29 1,rm 29 60] false []))))))) (rq [rl 61 2 true 8,
 ws 2 6 61] bo))))))
def Fp(fg sj:Nat):di:=
 rq [wx 3 2 0,wf 4 false] (ar (bz [rl 5 2 true 3,rl 6 2 true 1,ri 7 (.call fg [.t 5,.t 6]),rl 8 2 true 2,
 ri 9 (.call sj [.t 7,.t 8]),wd 10 .lss 9 0,rm 4 10] true []) bo)
def Gn(fl uc ll pa j3 sg:Nat):di:=
 rq [wx 2 2 0,wo 4] (rq [rm 8 1,ri 9 (.yr fl [.t 8]),ri 10 (.Lr uc [.t 2]),
 ri 11 (.yr ll [.t 9,.t 10]),rm 1 11] (ar (ar (.freeze) (bz [rm 12 1,rm 5 12] false [])) (ar (rq [rm 13 1,
 wn 14 13,
 wc 15 0] (cn 0 (gz (rq [wb 16 .lss 15 14] (ar (wt 16 bn (gn 0)) (ar (cn 1 (rq [rm 17 15,
 rm 6 17] (ar (bz [rm 18 1,rm 19 6,ri 20 (.slice 2 (.t 18) (some (.t 19)) none),rm 21 1,rm 22 6,ri 23 (.slice 2 (.t 21) none (some (.t 22))),
 ri 24 (.yk true 2 1 [.cq] [(0,1,.t 20),(1,1,.t 23)]),ri 25 (.call pa [.t 24]),rm 7 25] true []) (rq [rm 26 7,rm 27 5,
 ri 28 (.call j3 [.t 26,.t 27,.c (.nu sg [])]),wd 29 .lss 28 0] (wt 29 (bz [rm 30 7,
 rm 5 30] false []) bn))))) (bz [wd 31 .add 15 1,rm 15 31] false []))))))) (rq [rm 32 5,ri 33 (.call fl [.t 32]),
 rm 4 33] bo))))
def F7(vp:Nat):di:=
 rq [wx 2 2 0,wf 3 false] (rq [rl 4 2 true 1,rl 5 2 true 2,ri 6 (.call vp [.t 4,.t 5]),ri 7 (.un .not (.t 6)),
 rm 3 7] bo)
def x9(jw:Nat):di:=
 rq [wo 4] (rq [rm 8 0,rm 9 1,ri 10 (.call jw [.t 8,.t 9]),rm 5 10] (ar (rq [rm 11 5,
 wd 12 .eql 11 (-1)] (wt 12 (rq [rm 13 0,rm 4 13] bo) bn)) (ar (rq [rm 14 5,wd 15 .add 14 1,
 rm 6 15] (cn 0 (gz (ar (rq [rm 16 6,rm 17 0,wn 18 17,
 wb 19 .lss 16 18] (wt 19 bn (gn 0))) (ar (cn 1 (rq [rm 22 0,rm 23 6,wi 24 2 22 23,rl 25 2 true 24,
 ri 7 (.alloc [.int ab 0,.int ab 0]),ws 2 7 25] (rq [rm 26 1,rl 27 2 true 7,ri 28 (.wv (.t 26) [.t 27]),
 ri 29 (.un .not (.t 28))] (wt 29 (rq [rm 30 0,rm 31 5,rl 32 2 true 7,wi 33 2 30 31,ws 2 33 32] (bz [rm 34 5,
 wd 35 .add 34 1,rm 5 35] false [])) bn)))) (bz [rm 20 6,wd 21 .add 20 1,rm 6 21] false [])))))) (rq [rm 36 0,rm 37 5,
 ri 38 (.Qb 2 (.t 36) (some (.t 37)) none none),rn (.clr [.int ab 0,.int ab 0] (.t 38))] (rq [rm 39 0,rm 40 5,ri 41 (.No 2 (.t 39) (.t 40)),
 rm 4 41] bo)))))
def Bf:di:=
 rq [wo 4] (ar (rq [rm 5 1,wd 6 .lss 5 0] (wt 6 (bz [ri 7 (.bad),rn (.bad)] false []) bn)) (ar (rq [rm 8 1,rm 9 0,
 ri 10 (.acn (.t 9)),rm 11 0,wn 12 11,wb 13 .sub 10 12,wb 14 .sub 8 13,rm 1 14] (rq [rm 15 1,
 wd 16 .gtr 15 0] (wt 16 (bz [rm 17 0,rm 18 0,ri 19 (.acn (.t 18)),ri 20 (.slice 2 (.t 17) none (some (.t 19))),rm 21 1,
 ri 22 (.a2t 2 16 [.int ab 0,.int ab 0] (.t 20) (.t 21)),rm 23 0,wn 24 23,ri 25 (.No 2 (.t 22) (.t 24)),
 rm 0 25] false []) bn))) (rq [rm 26 0,rm 4 26] bo)))
def zu(qh:Nat):di:=
 rq [wo 2] (rq [wc 3 0] (ar (rq [rm 9 0,wn 10 9,
 wc 11 0] (cn 0 (gz (rq [wb 12 .lss 11 10] (ar (wt 12 bn (gn 0)) (ar (cn 1 (rq [wi 13 1 9 11,
 rl 14 1 false 13,rm 5 14] (rq [rm 15 3,rm 16 5,wn 17 16,wb 18 .add 15 17,rm 3 18] (rq [rm 19 3,
 wd 20 .lss 19 0] (wt 20 (bz [ri 21 (.bad),rn (.bad)] false []) bn))))) (bz [wd 22 .add 11 1,
 rm 11 22] false []))))))) (rq [rm 23 3,ri 24 (.yr qh [.c .cq,.t 23]),rm 6 24] (ar (rq [rm 25 0,wn 26 25,
 wc 27 0] (cn 2 (gz (rq [wb 28 .lss 27 26] (ar (wt 28 bn (gn 2)) (ar (cn 3 (rq [wi 29 1 25 27,
 rl 30 1 false 29,rm 8 30] (bz [rm 31 6,rm 32 8,ri 33 (.app 2 16 (.t 31) (.t 32)),rm 6 33] false []))) (bz [wd 34 .add 27 1,
 rm 27 34] false []))))))) (rq [rm 35 6,rm 2 35] bo)))))
def E9(xt:Nat):di:=
 rq [wc 4 0] (ar (rq [rm 9 0,wn 10 9,
 wc 11 0] (cn 0 (gz (rq [wb 12 .lss 11 10] (ar (wt 12 bn (gn 0)) (ar (cn 1 (rq [rm 13 11,
 wi 14 1 9 11,rl 15 1 false 14,rm 5 13,rm 6 15] (ar (rq [rm 16 5,rm 17 1,wn 18 17,
 wb 19 .geq 16 18] (wt 19 (rq [wc 4 1] bo) bn)) (rq [rm 20 1,rm 21 5,wi 22 1 20 21,rl 23 1 false 22,
 rm 7 23] (rq [rm 24 6,rm 25 7,ri 26 (.call xt [.t 24,.t 25]),rm 8 26] (rq [rm 27 8,wd 28 .neq 27 0] (wt 28 (rq [rm 29 8,
 rm 4 29] bo) bn))))))) (bz [wd 30 .add 11 1,rm 11 30] false []))))))) (ar (rq [rm 31 0,wn 32 31,rm 33 1,
 wn 34 33,wb 35 .lss 32 34] (wt 35 (rq [wc 4 (-1)] bo) bn)) (rq [wc 4 0] bo)))
def v8:di:=
 rq [wc 6 0] (ar (rq [rm 11 0,wn 12 11,
 wc 13 0] (cn 0 (gz (rq [wb 14 .lss 13 12] (ar (wt 14 bn (gn 0)) (ar (cn 1 (rq [rm 15 13,
 wi 16 2 11 13,rl 17 2 true 16,ri 8 (.alloc [.int ab 0,.int ab 0]),rm 7 15,ws 2 8 17] (ar (rq [rm 18 7,rm 19 1,
 wn 20 19,wb 21 .geq 18 20] (wt 21 (rq [wc 6 1] bo) bn)) (rq [rm 22 1,rm 23 7,
 wi 24 2 22 23,rl 25 2 true 24,ri 9 (.alloc [.int ab 0,.int ab 0]),ws 2 9 25] (rq [rm 26 2,rl 27 2 true 8,rl 28 2 true 9,
 ri 29 (.wv (.t 26) [.t 27,.t 28]),rm 10 29] (rq [rm 30 10,wd 31 .neq 30 0] (wt 31 (rq [rm 32 10,
 rm 6 32] bo) bn))))))) (bz [wd 33 .add 13 1,rm 13 33] false []))))))) (ar (rq [rm 34 0,wn 35 34,rm 36 1,
 wn 37 36,wb 38 .lss 35 37] (wt 38 (rq [wc 6 (-1)] bo) bn)) (rq [wc 6 0] bo)))
def Pk(sr:Nat):di:=
 rq [wx 2 2 0,wx 3 2 1,wc 4 0] (ar (bz [ri 5 (.acw 2 1 (.t 2)),ri 6 (.acw 2 1 (.t 3)),
 ri 7 (.call sr [.t 5,.t 6]),rm 4 7] true []) bo)
def Gr(xl:Nat):di:=
 rq [wc 4 0] (rq [rm 7 0,ri 8 (.call xl [.t 7]),rm 5 8] (rq [rm 9 1,ri 10 (.call xl [.t 9]),
 rm 6 10] (ar (rq [rm 11 5] (wt 11 (ar (rq [rm 12 6] (wt 12 (rq [wc 4 0] bo) bn)) (rq [wc 4 (-1)] bo)) bn)) (ar (rq [rm 13 6] (wt 13 (rq [wc 4 1] bo) bn)) (ar (rq [rm 14 0,
 rm 15 1,wb 16 .lss 14 15] (wt 16 (rq [wc 4 (-1)] bo) bn)) (ar (rq [rm 17 0,rm 18 1,
 wb 19 .gtr 17 18] (wt 19 (rq [wc 4 1] bo) bn)) (rq [wc 4 0] bo)))))))
def Jh:di:=
 rq [wf 2 false] (rq [rm 3 0,rm 4 0,wb 5 .neq 3 4,rm 2 5] bo)
def Dc(ec lz:Nat):di:=
 rq [wo 2] (rq [rm 3 0,ri 4 (.yr ec [.t 3,.c (.nu lz [])])] (rq [rm 5 0,rm 2 5] bo))
def Ht(j3 sg:Nat):di:=
 rq [wc 4 0] (rq [rm 5 0,rm 6 1,ri 7 (.call j3 [.t 5,.t 6,.c (.nu sg [])]),rm 4 7] bo)
def Gp(sf yp nq lu:Nat):di:=
 rq [ri 2 (.alloc [.cq])] (rq [rm 10 0,ri 11 (.call sf [.t 10]),ri 3 (.alloc [.I0,.I0]),ws 2 3 11] (rq [ri 12 (.H9),
 rm 4 12] (rq [wo 5] (ar bn (ar (rq [rm 13 0,wn 14 13,
 wc 15 0] (cn 0 (gz (rq [wb 16 .lss 15 14] (ar (wt 16 bn (gn 0)) (ar (cn 1 (rq [wi 17 4 13 15,
 rl 18 4 true 17,ri 7 (.alloc [.int ab 0,.int ab 0,.int ab 0,.int ab 0]),ws 4 7 18] (ar (rq [rm 19 4,rl 20 4 true 7,
 ri 21 (.lookup (.row [.int,.int,.int,.int]) (.bool false) (.t 19) (.t 20) false)] (wt 21 (gn 1) bn)) (rq [wo 8] (ar (rq [rl 22 4 true 7,
 ri 9 (.alloc [.int ab 0,.int ab 0,.int ab 0,.int ab 0]),ws 4 9 22] (cn 2 (gz (ar (rq [rm 23 4,rl 24 4 true 9,
 ri 25 (.lookup (.row [.int,.int,.int,.int]) (.bool false) (.t 23) (.t 24) false),
 ri 26 (.un .not (.t 25))] (wt 26 bn (gn 2))) (ar (cn 3 (rq [rm 36 4,rl 37 4 true 9,
 rn (.Wd (.row [.int,.int,.int,.int]) (.t 36) (.t 37) (.c (.bool true)))] (bz [rm 38 8,wa 39 2 2 9 0,rl 40 2 true 39,
 ri 41 (.yk false 1 2 [.int ab 0,.int ab 0] [(0,2,.t 40)]),ri 42 (.app 2 16 (.t 38) (.t 41)),
 rm 8 42] false []))) (ar (rq [rl 43 4 true 9] (bz [ri 9 (.alloc [.int ab 0,.int ab 0,.int ab 0,.int ab 0]),
 ws 4 9 43] false [])) (bz [wa 27 2 2 9 1,rl 28 2 true 27,rl 29 2 true 3,wa 30 2 2 9 0,rl 31 2 true 30,
 wa 32 2 2 9 1,rl 33 2 true 32,ri 34 (.call yp [.t 29,.t 31,.t 33]),
 ri 35 (.build [.int ab 0,.int ab 0,.int ab 0,.int ab 0] [(0,2,.t 28),(2,2,.t 34)]),
 ws 4 9 35] true []))))))) (ar (.freeze) (bz [rm 44 5,rl 45 2 true 3,rm 46 8,ri 47 (.call nq [.t 45,.t 46]),
 ri 48 (.yk false 1 1 [.cq] [(0,1,.t 47)]),ri 49 (.app 1 24 (.t 44) (.t 48)),rm 5 49] false []))))))) (bz [wd 50 .add 15 1,
 rm 15 50] false []))))))) (rq [rm 51 5,ri 52 (.yr lu [.t 51]),ri 53 (.build [.cq] [(0,1,.t 52)]),ws 1 2 53] bo))))))
def w9:di:=
 rq [wf 4 false] (ar (rq [rm 6 0,wn 7 6,rm 8 1,wn 9 8,
 wb 10 .neq 7 9] (wt 10 (rq [wf 4 false] bo) bn)) (ar (rq [rm 11 0,wn 12 11,
 wc 13 0] (cn 0 (gz (rq [wb 14 .lss 13 12] (ar (wt 14 bn (gn 0)) (ar (cn 1 (rq [rm 15 13,
 rm 5 15] (ar (bz [rm 16 0,rm 17 5,wi 18 2 16 17,rl 19 2 true 18,rm 20 1,rm 21 5,wi 22 2 20 21,rl 23 2 true 22,
 ri 24 (.eqs [.int,.int] true (.t 19) (.t 23))] true []) (wt 24 (rq [wf 4 false] bo) bn)))) (bz [wd 25 .add 13 1,
 rm 13 25] false []))))))) (rq [wf 4 true] bo)))
def lq:di:=
 rq [wf 6 false] (ar (rq [rm 10 0,wn 11 10,rm 12 1,wn 13 12,
 wb 14 .neq 11 13] (wt 14 (rq [wf 6 false] bo) bn)) (ar (rq [rm 15 0,wn 16 15,
 wc 17 0] (cn 0 (gz (rq [wb 18 .lss 17 16] (ar (wt 18 bn (gn 0)) (ar (cn 1 (rq [rm 19 17,
 wi 20 1 15 17,rl 21 1 false 20,rm 7 19,rm 8 21] (rq [rm 22 1,rm 23 7,wi 24 1 22 23,rl 25 1 false 24,rm 9 25] (rq [rm 26 2,rm 27 8,
 rm 28 9,ri 29 (.wv (.t 26) [.t 27,.t 28]),
 ri 30 (.un .not (.t 29))] (wt 30 (rq [wf 6 false] bo) bn))))) (bz [wd 31 .add 17 1,
 rm 17 31] false []))))))) (rq [wf 6 true] bo)))
def Nw(s6 ly yo oh B9 Ba ti sf nq lu gd iu:Nat):di:=
 rq [wx 1 1 0,ri 2 (.alloc [.cq]),wc 3 0] (ar (rq [rl 12 1 true 1,ri 13 (.call s6 [.t 12]),
 wd 14 .gtr 13 60,rm 15 14,rg 16 15 false (.Fg 0 (.t 1)),wl 17 15 false 1 false 16,rg 18 15 false (.len .ft (.t 17)),
 rg 19 15 false (.bin .gtr (.t 18) (ci 60)),wq 20 15 19] (wt 20 (rq [ri 21 (.build [.cq] []),ws 1 2 21,
 wc 3 170] bo) bn)) (ar (rq [rf 22 0 1,rl 23 1 false 22,wn 24 23,
 wc 25 0] (cn 0 (gz (rq [wb 26 .lss 25 24] (ar (wt 26 bn (gn 0)) (ar (cn 1 (rq [wi 27 1 23 25,
 rl 28 1 false 27,rm 5 28] (rq [rm 29 5,wn 30 29,wd 31 .lss 30 3,rm 32 31,wm 33 32 false 5,
 rg 34 32 false (.call ly [.t 33,.c (.nu yo [])]),
 wq 35 32 34] (wt 35 (rq [ri 36 (.build [.cq] []),ws 1 2 36,
 wc 3 170] bo) bn)))) (bz [wd 37 .add 25 1,rm 25 37] false []))))))) (rq [rl 38 1 true 1,
 ri 39 (.call oh [.t 38]),rm 6 39] (ar (rq [rm 40 6,ri 41 (.call B9 [.t 40]),ri 42 (.un .not (.t 41)),rm 43 42,
 wm 44 43 false 6,rg 45 43 false (.call Ba [.t 44]),rg 46 43 false (.un .not (.t 45)),
 wq 47 43 46] (wt 47 (rq [ri 48 (.build [.cq] []),ws 1 2 48,
 wc 3 170] bo) bn)) (rq [rm 49 6,ri 50 (.call ti [.t 49]),ri 7 (.alloc [.cq]),ws 1 7 50] (rq [rm 51 6,
 ri 52 (.call sf [.t 51]),ri 8 (.alloc [.I0,.I0]),ws 2 8 52] (rq [wo 9] (ar (rq [rf 53 0 1,rl 54 1 false 53,
 wn 55 54,
 wc 56 0] (cn 2 (gz (rq [wb 57 .lss 56 55] (ar (wt 57 bn (gn 2)) (ar (cn 3 (rq [wi 58 1 54 56,
 rl 59 1 false 58,rm 11 59] (bz [rm 60 9,rl 61 2 true 8,rm 62 11,ri 63 (.call nq [.t 61,.t 62]),ri 64 (.yk false 1 1 [.cq] [(0,1,.t 63)]),
 ri 65 (.app 1 24 (.t 60) (.t 64)),rm 9 65] false []))) (bz [wd 66 .add 56 1,
 rm 56 66] false []))))))) (ar (ar (Km (rq [rm 67 9] (Km (rq [ri 68 (.yr lu [.t 67])] (rq [rf 69 0 7] (rq [rl 70 1 false 69] (rq [ri 71 (.call gd [.t 68,.t 70,.c (.nu iu [])])] (rq [ri 72 (.un .not (.t 71))] bn))))) (rq [rf 69 0 7] (Km (rq [ri 68 (.yr lu [.t 67])] (rq [rl 70 1 false 69] (rq [ri 71 (.call gd [.t 68,.t 70,.c (.nu iu [])])] (rq [ri 72 (.un .not (.t 71))] bn)))) (rq [rl 70 1 false 69] (rq [ri 68 (.yr lu [.t 67])] (rq [ri 71 (.call gd [.t 68,.t 70,.c (.nu iu [])])] (rq [ri 72 (.un .not (.t 71))] bn)))))))) (rq [rf 69 0 7] (Km (rq [rm 67 9] (Km (rq [ri 68 (.yr lu [.t 67])] (rq [rl 70 1 false 69] (rq [ri 71 (.call gd [.t 68,.t 70,.c (.nu iu [])])] (rq [ri 72 (.un .not (.t 71))] bn)))) (rq [rl 70 1 false 69] (rq [ri 68 (.yr lu [.t 67])] (rq [ri 71 (.call gd [.t 68,.t 70,.c (.nu iu [])])] (rq [ri 72 (.un .not (.t 71))] bn)))))) (rq [rl 70 1 false 69] (rq [rm 67 9] (rq [ri 68 (.yr lu [.t 67])] (rq [ri 71 (.call gd [.t 68,.t 70,.c (.nu iu [])])] (rq [ri 72 (.un .not (.t 71))] bn)))))))) (wt 72 (rq [ri 73 (.build [.cq] []),
 ws 1 2 73,wc 3 170] bo) bn)) (rq [rl 74 1 true 7,ws 1 2 74,wc 3 0] bo))))))))))
def Mj(uq:Nat):di:=
 rq [wx 1 1 0,wc 2 0] (rq [rl 6 1 true 1,ri 7 (.call uq [.t 6]),rm 5 7,rx 8 5 0,rx 9 5 1,ri 3 (.alloc [.cq]),
 ws 1 3 8,rm 4 9] (rq [rm 10 4,rm 2 10] bo))
structure Pr3(P:Program)extends Pr2 P where
 sf:Nat
 vp:Nat
 yp:Nat
 qp:Nat
 nq:Nat
 uc:Nat
 ll:Nat
 pa:Nat
 j3:Nat
 sg:Nat
 qh:Nat
 sr:Nat
 xt:Nat
 xl:Nat
 lu:Nat
 ec:Nat
 lz:Nat
 ti:Nat
 iu:Nat
 gd:Nat
 uq:Nat
 a2c:ew P sf {dyn:=[8]}=some (Mg,[.cell 2 2 true],39)
 Ts:ew P vp {}=some (Fq Dp,[.tmp 4],28)
 Wt:ew P yp {}=some (Hu fg qp sj,[.cell 6 2 true],62)
 Tq:ew P qp {}=some (Fp fg sj,[.tmp 4],11)
 Ve:ew P nq {imm:=[24],ce:=[9,11],dyn:=[2]}=some (Gn fl uc ll pa j3 sg,[.tmp 4],34)
 Sy:ew P uc {}=some (F7 vp,[.tmp 3],8)
 Jp:ew P ll {kp:=[38],cv:=[41]}=some (x9 jw,[.tmp 4],42)
 O4:ew P qh {cv:=[25]}=some (Bf,[.tmp 4],27)
 My:ew P pa {ce:=[24]}=some (zu qh,[.tmp 2],36)
 Rt:ew P sr {}=some (E9 xt,[.tmp 4],36)
 Ih:ew P j3 {}=some (v8,[.tmp 6],39)
 a89:ew P sg {}=some (Pk sr,[.tmp 4],8)
 Vh:ew P xt {}=some (Gr xl,[.tmp 4],20)
 Yl:ew P xl {}=some (Jh,[.tmp 2],6)
 Qv:ew P lu {ce:=[4]}=some (Dc ec lz,[.tmp 2],6)
 Ws:ew P lz {}=some (Ht j3 sg,[.tmp 4],8)
 Vf:ew P ti {ce:=[52],dyn:=[16]}=some (Gp sf yp nq lu,[.cell 2 1 true],54)
 Nc:ew P iu {}=some (w9,[.tmp 4],26)
 Ah:ew P gd {}=some (lq,[.tmp 6],32)
 a5j:ew P uq {ce:=[68],od:=[20]}=some (Nw s6 ly yo oh B9 Ba ti sf nq lu gd iu,[.cell 2 1 true,.tmp 3],75)
 a2f:ew P Bz {}=some (Mj uq,[.tmp 2],11)
def Mm(mu jz jh fl:Nat):di:=
 rq [wx 1 5 0,ri 2 (.alloc [.str ⟨#[]⟩,.int ab 0,.cq,.cq,.cq])] (rq [rf 3 4 1,rl 4 1 false 3,ri 5 (.qb mu [.t 4]),rf 6 4 1,
 ws 1 6 5] (rq [rf 7 1 1,rf 8 1 7,rl 9 1 false 8,ri 10 (.qb jz [.t 9]),rf 11 1 1,rf 12 1 11,
 ws 1 12 10] (rq [rf 13 1 1,rf 14 2 13,rf 15 0 14,rl 16 1 false 15,
 ri 17 (.call jh [.t 16,.c (.nu fl [])]),ri 18 (.build [.cq] [(0,1,.t 17)]),rf 19 1 1,rf 20 2 19,
 ws 1 20 18] (rq [rl 21 5 true 1,ws 5 2 21] bo))))
def yl:di:=
 rq [wo 4] (rq [wo 5] (ar (rq [rm 8 0,wn 9 8,
 wc 10 0] (cn 0 (gz (rq [wb 11 .lss 10 9] (ar (wt 11 bn (gn 0)) (ar (cn 1 (rq [wi 12 5 8 10,
 rl 13 5 true 12,ri 7 (.alloc [.str ⟨#[]⟩,.int ab 0,.cq,.cq,.cq]),ws 5 7 13] (bz [rm 14 5,rm 15 1,rl 16 5 true 7,
 ri 17 (.O9 (.t 15) [.t 16]),ri 18 (.a09 1 5 [.str ⟨#[]⟩,.int ab 0,.cq,.cq,.cq] [(0,5,.t 17)]),ri 19 (.app 5 96 (.t 14) (.t 18)),
 rm 5 19] false []))) (bz [wd 20 .add 10 1,rm 10 20] false []))))))) (rq [rm 21 5,rm 4 21] bo)))
def Jd(fc dr jg:Nat):di:=
 rq [wx 1 2 0,
 ri 2 (.alloc [.cq,.cq])] (ar (Km (rq [rf 3 0 1] (Km (rq [rl 4 1 false 3] (Km (rq [ri 5 (.qb fc [.t 4])] (rq [rf 6 1 1] (rq [rl 7 1 false 6] (rq [ri 8 (.qb dr [.t 7,.c (.nu jg [])])] (rq [ri 9 (.build [.cq,.cq] [(0,1,.t 5),(1,1,.t 8)])] (rq [ws 2 2 9] bn)))))) (rq [rf 6 1 1] (Km (rq [ri 5 (.qb fc [.t 4])] (rq [rl 7 1 false 6] (rq [ri 8 (.qb dr [.t 7,.c (.nu jg [])])] (rq [ri 9 (.build [.cq,.cq] [(0,1,.t 5),(1,1,.t 8)])] (rq [ws 2 2 9] bn))))) (rq [rl 7 1 false 6] (rq [ri 5 (.qb fc [.t 4])] (rq [ri 8 (.qb dr [.t 7,.c (.nu jg [])])] (rq [ri 9 (.build [.cq,.cq] [(0,1,.t 5),(1,1,.t 8)])] (rq [ws 2 2 9] bn))))))))) (rq [rf 6 1 1] (Km (rq [rl 4 1 false 3] (Km (rq [ri 5 (.qb fc [.t 4])] (rq [rl 7 1 false 6] (rq [ri 8 (.qb dr [.t 7,.c (.nu jg [])])] (rq [ri 9 (.build [.cq,.cq] [(0,1,.t 5),(1,1,.t 8)])] (rq [ws 2 2 9] bn))))) (rq [rl 7 1 false 6] (rq [ri 5 (.qb fc [.t 4])] (rq [ri 8 (.qb dr [.t 7,.c (.nu jg [])])] (rq [ri 9 (.build [.cq,.cq] [(0,1,.t 5),(1,1,.t 8)])] (rq [ws 2 2 9] bn))))))) (rq [rl 7 1 false 6] (rq [rl 4 1 false 3] (rq [ri 5 (.qb fc [.t 4])] (rq [ri 8 (.qb dr [.t 7,.c (.nu jg [])])] (rq [ri 9 (.build [.cq,.cq] [(0,1,.t 5),(1,1,.t 8)])] (rq [ws 2 2 9] bn)))))))))) (rq [rf 6 1 1] (Km (rq [rf 3 0 1] (Km (rq [rl 4 1 false 3] (Km (rq [ri 5 (.qb fc [.t 4])] (rq [rl 7 1 false 6] (rq [ri 8 (.qb dr [.t 7,.c (.nu jg [])])] (rq [ri 9 (.build [.cq,.cq] [(0,1,.t 5),(1,1,.t 8)])] (rq [ws 2 2 9] bn))))) (rq [rl 7 1 false 6] (rq [ri 5 (.qb fc [.t 4])] (rq [ri 8 (.qb dr [.t 7,.c (.nu jg [])])] (rq [ri 9 (.build [.cq,.cq] [(0,1,.t 5),(1,1,.t 8)])] (rq [ws 2 2 9] bn))))))) (rq [rl 7 1 false 6] (rq [rl 4 1 false 3] (rq [ri 5 (.qb fc [.t 4])] (rq [ri 8 (.qb dr [.t 7,.c (.nu jg [])])] (rq [ri 9 (.build [.cq,.cq] [(0,1,.t 5),(1,1,.t 8)])] (rq [ws 2 2 9] bn)))))))) (rq [rl 7 1 false 6] (rq [rf 3 0 1] (rq [rl 4 1 false 3] (rq [ri 5 (.qb fc [.t 4])] (rq [ri 8 (.qb dr [.t 7,.c (.nu jg [])])] (rq [ri 9 (.build [.cq,.cq] [(0,1,.t 5),(1,1,.t 8)])] (rq [ws 2 2 9] bn)))))))))) bo)
def Mn(ql zp zo zn qk vt ud:Nat):di:=
 rq [ri 0 (.alloc [.uw,.uw,.uw,.uw,.uw,.uw,.uw])] (rq [ri 1 (.build [.uw,.uw,.uw,.uw,.uw,.uw,.uw] [(0,1,.c (.nu ql [])),(1,1,.c (.nu zp [])),(2,1,.c (.nu zo [])),(3,1,.c (.nu zn [])),(4,1,.c (.nu qk [])),(5,1,.c (.nu vt [])),(6,1,.c (.nu ud []))]),
 ws 7 0 1] bo)
def rr(xx:Nat):di:=
 rq [wx 3 9 1,wc 4 0] (ar (bz [rm 6 0,rk 7 6,rl 8 2 true 7,rf 9 1 3,rl 10 1 false 9,ri 11 (.call xx [.t 8,.t 10]),
 rm 5 11] true []) (ar (rq [rm 12 5,wd 13 .lss 12 0] (wt 13 (rq [wc 4 4] bo) bn)) (ar (bz [rm 14 0,rk 15 14,
 rf 16 0 15,rl 17 1 false 16,rm 18 5,rf 19 3 3,rl 20 1 false 19,wi 21 2 17 18,rf 22 1 21,
 ws 1 22 20] true []) (rq [wc 4 0] bo))))
def rp(xw ng:Nat):di:=
 rq [wx 3 9 1,wc 4 0] (ar (bz [rm 6 0,rk 7 6,rl 8 2 true 7,rf 9 1 3,rl 10 1 false 9,ri 11 (.call xw [.t 8,.t 10]),
 rm 5 11] true []) (ar (rq [rm 12 5,wd 13 .lss 12 0] (wt 13 (rq [wc 4 4] bo) bn)) (rq [rm 14 0,rm 15 0,rk 16 15,rf 17 1 16,
 rl 18 1 false 17,rm 19 5,rm 20 5,wd 21 .add 20 1,ri 22 (.yr ng [.t 18,.t 19,.t 21]),rk 23 14,rf 24 1 23,
 ws 1 24 22] (rq [wc 4 0] bo))))
def Ma:di:=
 rq [wo 6] (rq [rm 8 0,rm 9 1,rm 10 2,rm 11 0,wn 12 11,
 ri 13 (.Qb 5 (.t 8) (some (.t 9)) (some (.t 10)) (some (.t 12)))] (ar (rq [rm 14 1,rm 15 2,wb 16 .eql 14 15] (wt 16 (rq [rm 17 0,
 rm 6 17] bo) bn)) (rq [rm 18 0,wn 19 18,rm 7 19] (ar (bz [rm 20 0,rm 21 1,ri 22 (.Qb 5 (.t 20) none (some (.t 21)) none),rm 23 0,
 rm 24 2,ri 25 (.Qb 5 (.t 23) (some (.t 24)) none none),ri 26 (.app 5 96 (.t 22) (.t 25)),rm 0 26] true []) (rq [rm 27 0,rm 28 0,wn 29 28,rm 30 7,
 ri 31 (.Qb 5 (.t 27) (some (.t 29)) (some (.t 30)) none),rn (.clr [.str ⟨#[]⟩,.int ab 0,.cq,.cq,.cq] (.t 31))] (rq [ri 32 (.trim (.t 0)),
 rm 6 32] bo))))))
def M9:di:=
 rq [wo 6] (rq [rm 8 0,rm 9 1,rm 10 2,rm 11 0,wn 12 11,
 ri 13 (.Qb 2 (.t 8) (some (.t 9)) (some (.t 10)) (some (.t 12)))] (ar (rq [rm 14 1,rm 15 2,wb 16 .eql 14 15] (wt 16 (rq [rm 17 0,
 rm 6 17] bo) bn)) (rq [rm 18 0,wn 19 18,rm 7 19] (ar (bz [rm 20 0,rm 21 1,ri 22 (.Qb 2 (.t 20) none (some (.t 21)) none),rm 23 0,
 rm 24 2,ri 25 (.Qb 2 (.t 23) (some (.t 24)) none none),ri 26 (.app 2 48 (.t 22) (.t 25)),rm 0 26] true []) (rq [rm 27 0,rm 28 0,wn 29 28,rm 30 7,
 ri 31 (.Qb 2 (.t 27) (some (.t 29)) (some (.t 30)) none),rn (.clr [.cq,.cq] (.t 31))] (rq [ri 32 (.trim (.t 0)),rm 6 32] bo))))))
def sl(ma om iz oi j1:Nat):di:=
 rq [wx 1 2 0,ri 2 (.alloc [.cq,.cq])] (rq [ri 3 (.alloc [.uw]),rn (.store 1 (.t 3) (.c (.nu ma [])))] (rq [rf 4 0 1,rl 5 1 false 4,
 ri 6 (.Lr om [.t 3]),ri 7 (.qb iz [.t 5,.t 6])] (rq [rf 8 1 1,rl 9 1 false 8,
 ri 10 (.Lr oi [.t 3]),ri 11 (.qb j1 [.t 9,.t 10])] (rq [rl 12 2 true 1,
 ws 2 2 12] bo))))
def Bh:di:=
 rq [wc 4 0] (ar (cn 0 (rq [rm 6 0,rm 7 1,wb 8 .lss 6 7,rm 5 8] (wt 5 (rq [wc 4 (-1)] bo) (rq [rm 10 0,rm 11 1,
 wb 12 .gtr 10 11,rm 9 12] (wt 9 (rq [wc 4 1] bo) bn))))) (rq [wc 4 0] bo))
def Hx:di:=
 rq [wx 3 2 0,wx 4 2 1,wc 5 0] (rq [rl 6 1 false 2,rf 7 0 3,rl 8 1 false 7,rf 9 0 4,rl 10 1 false 9,
 ri 11 (.wv (.t 6) [.t 8,.t 10]),rm 5 11] bo)
def Hw:di:=
 rq [wx 3 5 0,wx 4 5 1,wc 5 0] (rq [rl 6 1 false 2,rf 7 0 3,rl 8 1 false 7,rf 9 0 4,rl 10 1 false 9,
 ri 11 (.wv (.t 6) [.t 8,.t 10]),rm 5 11] bo)
def mj(lr:Nat):di:=
 bz [rm 4 0,rm 5 0,wn 6 5,rm 7 1,ri 8 (.qb lr [.t 4,.t 6,.t 7])] false []
def nk(lv:Nat):di:=
 bz [rm 4 0,rm 5 0,wn 6 5,rm 7 1,ri 8 (.qb lv [.t 4,.t 6,.t 7])] false []
def Gl(jb gp:Nat):di:=
 rq [wc 6 20] (rq [rm 10 6,wc 7 0,rm 8 10] (ar (cn 0 (gz (ar (rq [rm 11 8,rm 12 1,
 wb 13 .leq 11 12] (wt 13 bn (gn 0))) (cn 1 (rq [rm 14 0,rm 15 7,rm 16 8,rm 17 2,
 ri 18 (.qb jb [.t 14,.t 15,.t 16,.t 17])] (rq [rm 19 8,rm 7 19] (bz [rm 20 8,rm 21 6,
 wb 22 .add 20 21,rm 8 22] false []))))))) (rq [rm 23 0,rm 24 7,rm 25 1,rm 26 2,
 ri 27 (.qb jb [.t 23,.t 24,.t 25,.t 26])] (cn 2 (gz (ar (rq [rm 28 6,rm 29 1,
 wb 30 .lss 28 29] (wt 30 bn (gn 2))) (cn 3 (rq [rm 31 6,ri 32 (.bin .mul (ci 2) (.t 31)),wc 7 0,
 rm 8 32] (ar (cn 4 (gz (ar (rq [rm 33 8,rm 34 1,wb 35 .leq 33 34] (wt 35 bn (gn 4))) (cn 5 (rq [rm 36 0,rm 37 7,rm 38 7,
 rm 39 6,wb 40 .add 38 39,rm 41 8,rm 42 2,ri 43 (.qb gp [.t 36,.t 37,.t 40,.t 41,.t 42])] (rq [rm 44 8,
 rm 7 44] (bz [rm 45 8,rm 46 6,ri 47 (.bin .mul (ci 2) (.t 46)),wb 48 .add 45 47,rm 8 48] false []))))))) (ar (rq [rm 49 7,rm 50 6,
 wb 51 .add 49 50,rm 9 51] (rq [rm 52 9,rm 53 1,wb 54 .lss 52 53] (wt 54 (bz [rm 55 0,rm 56 7,rm 57 9,rm 58 1,rm 59 2,
 ri 60 (.qb gp [.t 55,.t 56,.t 57,.t 58,.t 59])] false []) bn))) (bz [rm 61 6,wd 62 .mul 61 2,
 rm 6 62] false [])))))))))))
def H7(jj i7:Nat):di:=
 rq [wc 6 20] (rq [rm 10 6,wc 7 0,rm 8 10] (ar (cn 0 (gz (ar (rq [rm 11 8,rm 12 1,
 wb 13 .leq 11 12] (wt 13 bn (gn 0))) (cn 1 (rq [rm 14 0,rm 15 7,rm 16 8,rm 17 2,
 ri 18 (.qb jj [.t 14,.t 15,.t 16,.t 17])] (rq [rm 19 8,rm 7 19] (bz [rm 20 8,rm 21 6,
 wb 22 .add 20 21,rm 8 22] false []))))))) (rq [rm 23 0,rm 24 7,rm 25 1,rm 26 2,
 ri 27 (.qb jj [.t 23,.t 24,.t 25,.t 26])] (cn 2 (gz (ar (rq [rm 28 6,rm 29 1,
 wb 30 .lss 28 29] (wt 30 bn (gn 2))) (cn 3 (rq [rm 31 6,ri 32 (.bin .mul (ci 2) (.t 31)),wc 7 0,
 rm 8 32] (ar (cn 4 (gz (ar (rq [rm 33 8,rm 34 1,wb 35 .leq 33 34] (wt 35 bn (gn 4))) (cn 5 (rq [rm 36 0,rm 37 7,rm 38 7,
 rm 39 6,wb 40 .add 38 39,rm 41 8,rm 42 2,ri 43 (.qb i7 [.t 36,.t 37,.t 40,.t 41,.t 42])] (rq [rm 44 8,
 rm 7 44] (bz [rm 45 8,rm 46 6,ri 47 (.bin .mul (ci 2) (.t 46)),wb 48 .add 45 47,rm 8 48] false []))))))) (ar (rq [rm 49 7,rm 50 6,
 wb 51 .add 49 50,rm 9 51] (rq [rm 52 9,rm 53 1,wb 54 .lss 52 53] (wt 54 (bz [rm 55 0,rm 56 7,rm 57 9,rm 58 1,rm 59 2,
 ri 60 (.qb i7 [.t 55,.t 56,.t 57,.t 58,.t 59])] false []) bn))) (bz [rm 61 6,wd 62 .mul 61 2,
 rm 6 62] false [])))))))))))
def Dr:di:=
 rq [rm 10 1,wd 11 .add 10 1,rm 8 11] (cn 0 (gz (ar (rq [rm 12 8,rm 13 2,
 wb 14 .lss 12 13] (wt 14 bn (gn 0))) (ar (cn 1 (rq [rm 17 8,rm 9 17] (cn 2 (gz (ar (ar (bz [rm 18 9,rm 19 1,
 wb 20 .gtr 18 19,rm 21 20,wm 22 21 true 3,wm 23 21 true 0,wm 24 21 true 9,rg 25 21 true (.sq 2 (.t 23) (.t 24)),
 wl 26 21 true 2 true 25,wm 27 21 true 0,wm 28 21 true 9,rg 29 21 true (.bin .sub (.t 28) (ci 1)),
 rg 30 21 true (.sq 2 (.t 27) (.t 29)),wl 31 21 true 2 true 30,rg 32 21 true (.wv (.t 22) [.t 26,.t 31]),rg 33 21 true (.bin .lss (.t 32) (ci 0)),
 wp 34 21 33] true []) (wt 34 bn (gn 2))) (ar (cn 3 (bz [rm 37 0,rm 38 9,rm 39 0,rm 40 9,
 wd 41 .sub 40 1,rm 42 0,rm 43 9,wd 44 .sub 43 1,wi 45 2 42 44,rl 46 2 true 45,rm 47 0,rm 48 9,
 wi 49 2 47 48,rl 50 2 true 49,wi 51 2 37 38,ws 2 51 46,wi 52 2 39 41,
 ws 2 52 50] true [])) (bz [rm 35 9,wd 36 .sub 35 1,rm 9 36] false []))))))) (bz [rm 15 8,wd 16 .add 15 1,
 rm 8 16] false [])))))
def Dz:di:=
 rq [rm 10 1,wd 11 .add 10 1,rm 8 11] (cn 0 (gz (ar (rq [rm 12 8,rm 13 2,
 wb 14 .lss 12 13] (wt 14 bn (gn 0))) (ar (cn 1 (rq [rm 17 8,rm 9 17] (cn 2 (gz (ar (ar (bz [rm 18 9,rm 19 1,
 wb 20 .gtr 18 19,rm 21 20,wm 22 21 true 3,wm 23 21 true 0,wm 24 21 true 9,rg 25 21 true (.sq 5 (.t 23) (.t 24)),
 wl 26 21 true 5 true 25,wm 27 21 true 0,wm 28 21 true 9,rg 29 21 true (.bin .sub (.t 28) (ci 1)),
 rg 30 21 true (.sq 5 (.t 27) (.t 29)),wl 31 21 true 5 true 30,rg 32 21 true (.wv (.t 22) [.t 26,.t 31]),rg 33 21 true (.bin .lss (.t 32) (ci 0)),
 wp 34 21 33] true []) (wt 34 bn (gn 2))) (ar (cn 3 (bz [rm 37 0,rm 38 9,rm 39 0,rm 40 9,
 wd 41 .sub 40 1,rm 42 0,rm 43 9,wd 44 .sub 43 1,wi 45 5 42 44,rl 46 5 true 45,rm 47 0,rm 48 9,
 wi 49 5 47 48,rl 50 5 true 49,wi 51 5 37 38,ws 5 51 46,wi 52 5 39 41,
 ws 5 52 50] true [])) (bz [rm 35 9,wd 36 .sub 35 1,rm 9 36] false []))))))) (bz [rm 15 8,wd 16 .add 15 1,
 rm 8 16] false [])))))
def Fm(th gp:Nat):di:=
 ar (rq [rm 25 2,rm 26 1,wb 27 .sub 25 26,wd 28 .eql 27 1] (wt 28 (rq [rm 29 2,rm 10 29] (rq [rm 30 3,
 rm 11 30] (ar (cn 0 (gz (ar (rq [rm 31 10,rm 32 11,wb 33 .lss 31 32] (wt 33 bn (gn 0))) (cn 1 (rq [rm 34 10,rm 35 11,
 wb 36 .add 34 35,ri 37 (.conv .u64 (.t 36)),ri 38 (.bin .shr (.t 37) (.c (.int .u64 1))),ri 39 (.conv ab (.t 38)),rm 12 39] (ar (bz [rm 40 4,
 rm 41 0,rm 42 12,wi 43 2 41 42,rl 44 2 true 43,rm 45 0,rm 46 1,wi 47 2 45 46,rl 48 2 true 47,ri 49 (.wv (.t 40) [.t 44,.t 48]),
 wd 50 .lss 49 0] true []) (wt 50 (bz [rm 51 12,wd 52 .add 51 1,rm 10 52] false []) (bz [rm 53 12,
 rm 11 53] false [])))))))) (ar (rq [rm 54 1,rm 13 54] (cn 2 (gz (ar (rq [rm 55 13,rm 56 10,wd 57 .sub 56 1,
 wb 58 .lss 55 57] (wt 58 bn (gn 2))) (ar (cn 3 (bz [rm 61 0,rm 62 13,rm 63 0,rm 64 13,wd 65 .add 64 1,
 rm 66 0,rm 67 13,wd 68 .add 67 1,wi 69 2 66 68,rl 70 2 true 69,rm 71 0,rm 72 13,wi 73 2 71 72,rl 74 2 true 73,
 wi 75 2 61 62,ws 2 75 70,wi 76 2 63 65,ws 2 76 74] true [])) (bz [rm 59 13,
 wd 60 .add 59 1,rm 13 60] false [])))))) bo)))) bn)) (ar (rq [rm 77 3,rm 78 2,wb 79 .sub 77 78,
 wd 80 .eql 79 1] (wt 80 (rq [rm 81 1,rm 14 81] (rq [rm 82 2,rm 15 82] (ar (cn 4 (gz (ar (rq [rm 83 14,rm 84 15,
 wb 85 .lss 83 84] (wt 85 bn (gn 4))) (cn 5 (rq [rm 86 14,rm 87 15,wb 88 .add 86 87,ri 89 (.conv .u64 (.t 88)),
 ri 90 (.bin .shr (.t 89) (.c (.int .u64 1))),ri 91 (.conv ab (.t 90)),rm 16 91] (ar (bz [rm 92 4,rm 93 0,rm 94 2,wi 95 2 93 94,rl 96 2 true 95,
 rm 97 0,rm 98 16,wi 99 2 97 98,rl 100 2 true 99,ri 101 (.wv (.t 92) [.t 96,.t 100]),wd 102 .lss 101 0,
 ri 103 (.un .not (.t 102))] true []) (wt 103 (bz [rm 104 16,wd 105 .add 104 1,rm 14 105] false []) (bz [rm 106 16,
 rm 15 106] false [])))))))) (ar (rq [rm 107 2,rm 17 107] (cn 6 (gz (ar (rq [rm 108 17,rm 109 14,
 wb 110 .gtr 108 109] (wt 110 bn (gn 6))) (ar (cn 7 (bz [rm 113 0,rm 114 17,rm 115 0,rm 116 17,
 wd 117 .sub 116 1,rm 118 0,rm 119 17,wd 120 .sub 119 1,wi 121 2 118 120,rl 122 2 true 121,rm 123 0,rm 124 17,
 wi 125 2 123 124,rl 126 2 true 125,wi 127 2 113 114,ws 2 127 122,wi 128 2 115 117,
 ws 2 128 126] true [])) (bz [rm 111 17,wd 112 .sub 111 1,rm 17 112] false [])))))) bo)))) bn)) (rq [rm 129 1,rm 130 3,
 wb 131 .add 129 130,ri 132 (.conv .u64 (.t 131)),ri 133 (.bin .shr (.t 132) (.c (.int .u64 1))),ri 134 (.conv ab (.t 133)),rm 18 134] (rq [rm 135 18,
 rm 136 2,wb 137 .add 135 136,rm 19 137] (rq [wc 20 0,wc 21 0] (ar (rq [rm 138 2,rm 139 18,
 wb 140 .gtr 138 139] (wt 140 (rq [rm 141 19,rm 142 3,wb 143 .sub 141 142,rm 20 143] (bz [rm 144 18,
 rm 21 144] false [])) (rq [rm 145 1,rm 20 145] (bz [rm 146 2,rm 21 146] false [])))) (rq [rm 147 19,wd 148 .sub 147 1,
 rm 22 148] (ar (cn 8 (gz (ar (rq [rm 149 20,rm 150 21,wb 151 .lss 149 150] (wt 151 bn (gn 8))) (cn 9 (rq [rm 152 20,
 rm 153 21,wb 154 .add 152 153,ri 155 (.conv .u64 (.t 154)),ri 156 (.bin .shr (.t 155) (.c (.int .u64 1))),ri 157 (.conv ab (.t 156)),
 rm 23 157] (ar (bz [rm 158 4,rm 159 0,rm 160 22,rm 161 23,wb 162 .sub 160 161,wi 163 2 159 162,rl 164 2 true 163,rm 165 0,
 rm 166 23,wi 167 2 165 166,rl 168 2 true 167,ri 169 (.wv (.t 158) [.t 164,.t 168]),wd 170 .lss 169 0,
 ri 171 (.un .not (.t 170))] true []) (wt 171 (bz [rm 172 23,wd 173 .add 172 1,rm 20 173] false []) (bz [rm 174 23,
 rm 21 174] false [])))))))) (rq [rm 175 19,rm 176 20,wb 177 .sub 175 176,rm 24 177] (ar (rq [rm 178 20,rm 179 2,wb 180 .lss 178 179,
 rm 181 180,wm 182 181 true 2,wm 183 181 true 24,rg 184 181 true (.bin .lss (.t 182) (.t 183)),
 wp 185 181 184] (wt 185 (bz [rm 186 0,rm 187 20,rm 188 2,rm 189 24,rm 190 4,
 ri 191 (.call th [.t 186,.t 187,.t 188,.t 189,.t 190])] false []) bn)) (ar (rq [rm 192 1,rm 193 20,
 wb 194 .lss 192 193,rm 195 194,wm 196 195 true 20,wm 197 195 true 18,rg 198 195 true (.bin .lss (.t 196) (.t 197)),
 wp 199 195 198] (wt 199 (bz [rm 200 0,rm 201 1,rm 202 20,rm 203 18,rm 204 4,
 ri 205 (.call gp [.t 200,.t 201,.t 202,.t 203,.t 204])] false []) bn)) (rq [rm 206 18,rm 207 24,
 wb 208 .lss 206 207,rm 209 208,wm 210 209 true 24,wm 211 209 true 3,rg 212 209 true (.bin .lss (.t 210) (.t 211)),
 wp 213 209 212] (wt 213 (bz [rm 214 0,rm 215 18,rm 216 24,rm 217 3,rm 218 4,
 ri 219 (.call gp [.t 214,.t 215,.t 216,.t 217,.t 218])] false []) bn))))))))))))
def G9(um i7:Nat):di:=
 ar (rq [rm 25 2,rm 26 1,wb 27 .sub 25 26,wd 28 .eql 27 1] (wt 28 (rq [rm 29 2,rm 10 29] (rq [rm 30 3,
 rm 11 30] (ar (cn 0 (gz (ar (rq [rm 31 10,rm 32 11,wb 33 .lss 31 32] (wt 33 bn (gn 0))) (cn 1 (rq [rm 34 10,rm 35 11,
 wb 36 .add 34 35,ri 37 (.conv .u64 (.t 36)),ri 38 (.bin .shr (.t 37) (.c (.int .u64 1))),ri 39 (.conv ab (.t 38)),rm 12 39] (ar (bz [rm 40 4,
 rm 41 0,rm 42 12,wi 43 5 41 42,rl 44 5 true 43,rm 45 0,rm 46 1,wi 47 5 45 46,rl 48 5 true 47,ri 49 (.wv (.t 40) [.t 44,.t 48]),
 wd 50 .lss 49 0] true []) (wt 50 (bz [rm 51 12,wd 52 .add 51 1,rm 10 52] false []) (bz [rm 53 12,
 rm 11 53] false [])))))))) (ar (rq [rm 54 1,rm 13 54] (cn 2 (gz (ar (rq [rm 55 13,rm 56 10,wd 57 .sub 56 1,
 wb 58 .lss 55 57] (wt 58 bn (gn 2))) (ar (cn 3 (bz [rm 61 0,rm 62 13,rm 63 0,rm 64 13,wd 65 .add 64 1,
 rm 66 0,rm 67 13,wd 68 .add 67 1,wi 69 5 66 68,rl 70 5 true 69,rm 71 0,rm 72 13,wi 73 5 71 72,rl 74 5 true 73,
 wi 75 5 61 62,ws 5 75 70,wi 76 5 63 65,ws 5 76 74] true [])) (bz [rm 59 13,
 wd 60 .add 59 1,rm 13 60] false [])))))) bo)))) bn)) (ar (rq [rm 77 3,rm 78 2,wb 79 .sub 77 78,
 wd 80 .eql 79 1] (wt 80 (rq [rm 81 1,rm 14 81] (rq [rm 82 2,rm 15 82] (ar (cn 4 (gz (ar (rq [rm 83 14,rm 84 15,
 wb 85 .lss 83 84] (wt 85 bn (gn 4))) (cn 5 (rq [rm 86 14,rm 87 15,wb 88 .add 86 87,ri 89 (.conv .u64 (.t 88)),
 ri 90 (.bin .shr (.t 89) (.c (.int .u64 1))),ri 91 (.conv ab (.t 90)),rm 16 91] (ar (bz [rm 92 4,rm 93 0,rm 94 2,wi 95 5 93 94,rl 96 5 true 95,
 rm 97 0,rm 98 16,wi 99 5 97 98,rl 100 5 true 99,ri 101 (.wv (.t 92) [.t 96,.t 100]),wd 102 .lss 101 0,
 ri 103 (.un .not (.t 102))] true []) (wt 103 (bz [rm 104 16,wd 105 .add 104 1,rm 14 105] false []) (bz [rm 106 16,
 rm 15 106] false [])))))))) (ar (rq [rm 107 2,rm 17 107] (cn 6 (gz (ar (rq [rm 108 17,rm 109 14,
 wb 110 .gtr 108 109] (wt 110 bn (gn 6))) (ar (cn 7 (bz [rm 113 0,rm 114 17,rm 115 0,rm 116 17,
 wd 117 .sub 116 1,rm 118 0,rm 119 17,wd 120 .sub 119 1,wi 121 5 118 120,rl 122 5 true 121,rm 123 0,rm 124 17,
 wi 125 5 123 124,rl 126 5 true 125,wi 127 5 113 114,ws 5 127 122,wi 128 5 115 117,
 ws 5 128 126] true [])) (bz [rm 111 17,wd 112 .sub 111 1,rm 17 112] false [])))))) bo)))) bn)) (rq [rm 129 1,rm 130 3,
 wb 131 .add 129 130,ri 132 (.conv .u64 (.t 131)),ri 133 (.bin .shr (.t 132) (.c (.int .u64 1))),ri 134 (.conv ab (.t 133)),rm 18 134] (rq [rm 135 18,
 rm 136 2,wb 137 .add 135 136,rm 19 137] (rq [wc 20 0,wc 21 0] (ar (rq [rm 138 2,rm 139 18,
 wb 140 .gtr 138 139] (wt 140 (rq [rm 141 19,rm 142 3,wb 143 .sub 141 142,rm 20 143] (bz [rm 144 18,
 rm 21 144] false [])) (rq [rm 145 1,rm 20 145] (bz [rm 146 2,rm 21 146] false [])))) (rq [rm 147 19,wd 148 .sub 147 1,
 rm 22 148] (ar (cn 8 (gz (ar (rq [rm 149 20,rm 150 21,wb 151 .lss 149 150] (wt 151 bn (gn 8))) (cn 9 (rq [rm 152 20,
 rm 153 21,wb 154 .add 152 153,ri 155 (.conv .u64 (.t 154)),ri 156 (.bin .shr (.t 155) (.c (.int .u64 1))),ri 157 (.conv ab (.t 156)),
 rm 23 157] (ar (bz [rm 158 4,rm 159 0,rm 160 22,rm 161 23,wb 162 .sub 160 161,wi 163 5 159 162,rl 164 5 true 163,rm 165 0,
 rm 166 23,wi 167 5 165 166,rl 168 5 true 167,ri 169 (.wv (.t 158) [.t 164,.t 168]),wd 170 .lss 169 0,
 ri 171 (.un .not (.t 170))] true []) (wt 171 (bz [rm 172 23,wd 173 .add 172 1,rm 20 173] false []) (bz [rm 174 23,
 rm 21 174] false [])))))))) (rq [rm 175 19,rm 176 20,wb 177 .sub 175 176,rm 24 177] (ar (rq [rm 178 20,rm 179 2,wb 180 .lss 178 179,
 rm 181 180,wm 182 181 true 2,wm 183 181 true 24,rg 184 181 true (.bin .lss (.t 182) (.t 183)),
 wp 185 181 184] (wt 185 (bz [rm 186 0,rm 187 20,rm 188 2,rm 189 24,rm 190 4,
 ri 191 (.call um [.t 186,.t 187,.t 188,.t 189,.t 190])] false []) bn)) (ar (rq [rm 192 1,rm 193 20,
 wb 194 .lss 192 193,rm 195 194,wm 196 195 true 20,wm 197 195 true 18,rg 198 195 true (.bin .lss (.t 196) (.t 197)),
 wp 199 195 198] (wt 199 (bz [rm 200 0,rm 201 1,rm 202 20,rm 203 18,rm 204 4,
 ri 205 (.call i7 [.t 200,.t 201,.t 202,.t 203,.t 204])] false []) bn)) (rq [rm 206 18,rm 207 24,
 wb 208 .lss 206 207,rm 209 208,wm 210 209 true 24,wm 211 209 true 3,rg 212 209 true (.bin .lss (.t 210) (.t 211)),
 wp 213 209 212] (wt 213 (bz [rm 214 0,rm 215 18,rm 216 24,rm 217 3,rm 218 4,
 ri 219 (.call i7 [.t 214,.t 215,.t 216,.t 217,.t 218])] false []) bn))))))))))))
def Mo(zz la ra jl:Nat):di:=
 rq [wx 2 2 0,wx 3 9 1,ri 4 (.alloc [.cq,.cq]),wc 5 0] (ar (ar (bz [rf 8 0 3,rl 9 1 false 8,
 wd 10 .lss 9 0,rm 11 10,rg 12 11 false (.Fg 0 (.t 3)),wl 13 11 false 1 false 12,rg 14 11 false (.call zz []),
 rg 15 11 false (.j7 (ci 7)),rg 16 11 false (.bin .geq (.t 13) (.t 15)),
 wq 17 11 16] true []) (wt 17 (rq [ri 18 (.build [.cq,.cq] []),ws 2 4 18,
 wc 5 1] bo) bn)) (rq [rl 19 2 true 2,ri 20 (.qb la [.t 19]),ri 6 (.alloc [.cq,.cq]),
 ws 2 6 20] (ar (ar (ar (.freeze) (bz [ri 21 (.call zz []),rf 22 0 3,rl 23 1 false 22,ri 24 (.a4z 7 1 false (.t 21) (.t 23)),
 rl 25 9 true 3,ri 26 (.N0 (.t 24) [.t 6,.t 25]),rm 7 26] true [])) (rq [rm 27 7,
 wd 28 .neq 27 0] (wt 28 (rq [ri 29 (.build [.cq,.cq] []),rm 30 7,ws 2 4 29,
 rm 5 30] bo) bn))) (ar (ar (.freeze) (bz [rl 31 2 true 6,ri 32 (.qb ra [.t 31]),
 ws 2 6 32] false [])) (ar (rq [rl 33 2 true 6,ri 34 (.call jl [.t 33]),
 wd 35 .neq 34 0] (wt 35 (rq [ri 36 (.build [.cq,.cq] []),ws 2 4 36,
 wc 5 230] bo) bn)) (rq [rl 37 2 true 6,ws 2 4 37,wc 5 0] bo))))))
def Pt(jl la:Nat):di:=
 rq [wx 1 2 0,ri 2 (.j7 (.c .Wc)),wc 3 0] (ar (rq [rl 4 2 true 1,ri 5 (.call jl [.t 4]),
 wd 6 .neq 5 0] (wt 6 (rq [ri 2 (.j7 (.c .Wc)),wc 3 230] bo) bn)) (rq [rl 7 2 true 1,
 ri 8 (.call la [.t 7]),ri 9 (.H9),ri 10 (.build [.cq,.cq,.cq,.cq,.I0] [(0,2,.t 8),(4,1,.t 9)]),wx 11 5 10,rm 2 11,
 wc 3 0] bo))
def xc(la:Nat):di:=
 rq [ri 2 (.alloc [.cq,.cq])] (ar (rq [rm 3 0,ri 4 (.Jl .ptr false (.t 3))] (wt 4 (rq [ri 5 (.build [.cq,.cq] []),
 ws 2 2 5] bo) bn)) (rq [rm 6 0,rk 7 6,rf 8 0 7,rl 9 2 true 8,ri 10 (.call la [.t 9]),ws 2 2 10] bo))
def zb(qd rh:Nat):di:=
 rq [wx 3 9 1,wc 4 0] (ar (rq [rm 7 0,
 ri 8 (.Jl .ptr false (.t 7))] (wt 8 (rq [wc 4 3] bo) bn)) (ar (bz [rm 10 0,rk 11 10,rf 12 0 11,rl 13 2 true 12,rl 14 9 true 3,
 ri 15 (.call qd [.t 13,.t 14]),rm 9 15,rx 16 9 0,rx 17 9 1,ri 5 (.ze 2),rn (.init 5 2 (.t 16)),rm 6 17] true []) (ar (rq [rm 18 6,
 wd 19 .eql 18 0] (wt 19 (bz [rm 20 0,rl 21 2 true 5,
 ri 22 (.yr rh [.t 20,.t 21])] false []) bn)) (rq [rm 23 6,rm 4 23] bo))))
def Ec(ke:Nat):di:=
 rq [wc 2 0] (ar (rq [rm 3 0,ri 4 (.Jl .ptr false (.t 3))] (wt 4 (rq [wc 2 3] bo) bn)) (ar (bz [rm 5 0,rm 6 0,rk 7 6,
 rf 8 2 7,rm 9 0,rk 10 9,rf 11 3 10,ri 12 (.yr ke [.t 5,.t 8,.t 11]),rm 2 12] true []) bo))
def xd(ke:Nat):di:=
 rq [wc 2 0] (ar (rq [rm 3 0,ri 4 (.Jl .ptr false (.t 3))] (wt 4 (rq [wc 2 3] bo) bn)) (ar (bz [rm 5 0,rm 6 0,rk 7 6,
 rf 8 3 7,rm 9 0,rk 10 9,rf 11 2 10,ri 12 (.yr ke [.t 5,.t 8,.t 11]),rm 2 12] true []) bo))
def Df:di:=
 rq [wc 2 0,wc 3 0] (ar (rq [rm 4 0,ri 5 (.Jl .ptr false (.t 4))] (wt 5 (rq [wc 2 0,
 wc 3 0] bo) bn)) (ar (bz [rm 6 0,rk 7 6,rf 8 2 7,rl 9 1 false 8,wn 10 9,rm 11 0,rk 12 11,rf 13 3 12,rl 14 1 false 13,
 wn 15 14,rm 2 10,rm 3 15] true []) bo))
def xe(ju:Nat):di:=
 rq [wc 4 0] (ar (rq [rm 7 0,ri 8 (.Jl .ptr false (.t 7))] (wt 8 (rq [wc 4 3] bo) bn)) (rq [rm 10 0,rk 11 10,rf 12 4 11,
 rl 13 1 false 12,rm 14 1,ri 15 (.lookup (.one .str) (.agg [.cq,.cq]) (.t 13) (.t 14) true),rm 9 15,rx 16 9 0,rx 17 9 1,ri 5 (.alloc [.cq,.cq]),
 ws 2 5 16,rm 6 17] (ar (cn 0 (rq [rm 19 1,ri 20 (.call ju [.t 19]),ri 21 (.un .not (.t 20)),
 rm 18 21] (wt 18 (rq [wc 4 240] bo) (rq [rm 23 6,rm 24 23,wm 25 24 false 0,rg 26 24 false (.Y4 (.t 25)),
 rg 27 24 false (.Fg 4 (.t 26)),wl 28 24 false 1 false 27,rg 29 24 false (.len .map (.t 28)),rg 30 24 false (.bin .geq (.t 29) (ci 20)),
 wq 31 24 30,rm 22 31] (wt 22 (rq [wc 4 7] bo) bn))))) (ar (bz [rm 32 0,rk 33 32,rf 34 4 33,
 rl 35 1 false 34,rm 36 1,rm 37 0,rk 38 37,rf 39 0 38,rl 40 2 true 39,rn (.Wd (.one .str) (.t 35) (.t 36) (.t 40))] true []) (rq [wc 4 0] bo)))))
def yh(p9:Nat):di:=
 rq [wx 3 2 1] (ar (bz [rm 4 0,rm 5 0,rk 6 5,rf 7 2 6,rl 8 1 false 7,rm 9 0,rk 10 9,rf 11 0 10,rl 12 2 true 11,
 ri 13 (.yk true 1 2 [.cq,.cq] [(0,2,.t 12)]),ri 14 (.app 2 48 (.t 8) (.t 13)),rk 15 4,rf 16 2 15,ws 1 16 14] true []) (ar (rq [rm 17 0,
 rk 18 17,rf 19 2 18,rl 20 1 false 19,wn 21 20,wd 22 .gtr 21 50] (wt 22 (bz [rm 23 0,rm 24 0,rk 25 24,rf 26 2 25,
 rl 27 1 false 26,ri 28 (.yr p9 [.t 27,ci 0,ci 1]),rk 29 23,rf 30 2 29,
 ws 1 30 28] false []) bn)) (bz [rm 31 0,rm 32 0,rl 33 2 true 3,rk 34 31,rf 35 0 34,ws 2 35 33,rk 36 32,rf 37 3 36,
 rn (.store 1 (.t 37) (.c .cq))] false [])))
def ku:di:=
 rq [wc 6 0] (rq [rm 8 1,rk 9 8,rl 10 1 false 9,wn 11 10,rm 7 11] (ar (rq [rm 12 7,
 wd 13 .eql 12 0] (wt 13 (rq [wc 6 7] bo) bn)) (ar (bz [rm 14 2,rm 15 2,rk 16 15,rl 17 1 false 16,rm 18 0,rk 19 18,
 rf 20 0 19,rl 21 2 true 20,ri 22 (.yk true 1 2 [.cq,.cq] [(0,2,.t 21)]),ri 23 (.app 2 48 (.t 17) (.t 22)),rk 24 14,
 ws 1 24 23] true []) (ar (bz [rm 25 0,rm 26 1,rm 27 1,rk 28 27,rl 29 1 false 28,rm 30 7,wd 31 .sub 30 1,
 wi 32 2 29 31,rl 33 2 true 32,rm 34 1,rk 35 34,rl 36 1 false 35,rm 37 7,wd 38 .sub 37 1,rm 39 7,wd 40 .sub 39 1,
 ri 41 (.Hg 2 (.t 36) (.t 38) (.t 40)),rk 42 25,rf 43 0 42,ws 2 43 33,rk 44 26,
 ws 1 44 41] true []) (rq [wc 6 0] bo)))))
structure Pr4(P:Program)extends Pr3 P where
 zz:Nat
 ql:Nat
 zp:Nat
 zo:Nat
 zn:Nat
 qk:Nat
 vt:Nat
 ud:Nat
 a16:Nat
 ng:Nat
 p9:Nat
 ra:Nat
 ma:Nat
 om:Nat
 iz:Nat
 oi:Nat
 j1:Nat
 lr:Nat
 lv:Nat
 jb:Nat
 gp:Nat
 jj:Nat
 i7:Nat
 th:Nat
 um:Nat
 qd:Nat
 Cv:Nat
 lp:Nat
 pk:Nat
 rh:Nat
 qy:Nat
 ke:Nat
 o6:Nat
 ou:Nat
 pj:Nat
 a2i:ew P jg {cr:=[5,10]}=some (Mm mu jz jh fl,[.cell 2 5 true],22)
 Kv:ew P dr {cr:=[17],kp:=[18]}=some (yl,[.tmp 4],22)
 Yh:ew P la {cr:=[5,8],od:=[1]}=some (Jd fc dr jg,[.cell 2 2 true],10)
 a2j:ew P zz {}=some (Mn ql zp zo zn qk vt ud,[.cell 0 7 true],2)
 Oy:ew P ql {}=some (rr xx,[.tmp 4],23)
 Ox:ew P qk {ce:=[22]}=some (rp xw ng,[.tmp 4],25)
 Mw:ew P ng {kp:=[13,22,25,31,32]}=some (Ma,[.tmp 6],33)
 a29:ew P p9 {kp:=[13,22,25,31,32]}=some (M9,[.tmp 6],33)
 Ge:ew P ra {cr:=[7,11]}=some (sl ma om iz oi j1,[.cell 2 2 true],13)
 Ww:ew P ma {}=some (Bh,[.tmp 4],13)
 Wv:ew P om {}=some (Hx,[.tmp 5],12)
 Wu:ew P oi {}=some (Hw,[.tmp 5],12)
 zi:ew P iz {cr:=[8]}=some (mj lr,[],9)
 Ag:ew P j1 {cr:=[8]}=some (nk lv,[],9)
 Af:ew P lr {cr:=[18,27,43,60]}=some (Gl jb gp,[],63)
 Ay:ew P lv {cr:=[18,27,43,60]}=some (H7 jj i7,[],63)
 wh:ew P jb {}=some (Dr,[],53)
 xg:ew P jj {}=some (Dz,[],53)
 Fw:ew P gp {}=some (Fm th gp,[],220)
 Gd:ew P i7 {}=some (G9 um i7,[],220)
 a2k:ew P qd {ce:=[26],cr:=[20,32],dyn:=[4,7]}=some (Mo zz la ra jl,[.cell 4 2 true,.tmp 5],38)
 a8h:ew P Cv {}=some (Pt jl la,[.tmp 2,.tmp 3],12)
 Jq:ew P lp {}=some (xc la,[.cell 2 2 true],11)
 Lx:ew P pk {ce:=[22]}=some (zb qd rh,[.tmp 4],24)
 Rw:ew P qy {ce:=[12]}=some (Ec ke,[.tmp 2],13)
 Jr:ew P o6 {ce:=[12]}=some (xd ke,[.tmp 2],13)
 Qx:ew P ou {}=some (Df,[.tmp 2,.tmp 3],16)
 Js:ew P pj {}=some (xe ju,[.tmp 4],41)
 Kg:ew P rh {imm:=[13],ce:=[28]}=some (yh p9,[],38)
 xh:ew P ke {imm:=[22],cv:=[41]}=some (ku,[.tmp 6],45)
def Pl(Eg Cv pk lp qy ou o6 pj:Nat):di:=
 rq [wf 0 false] (rq [ri 6 (.call Eg []),ri 7 (.yr Cv [.t 6]),rm 5 7,rx 8 5 0,rx 9 5 1,rm 1 8,rm 2 9] (ar (rq [rm 10 2,
 wd 11 .neq 10 0,rm 12 11,wm 13 12 false 1,
 rg 14 12 false (.build [.int ab 0,.str ⟨#[]⟩,.str ⟨#[]⟩,.int ab 0,.str ⟨#[]⟩,.int ab 0,.cq,.cq,.cq] [(1,1,.c (.str ⟨#[119]⟩)),(3,1,ci 5)]),
 rg 15 12 false (.yr pk [.t 13,.t 14]),rg 16 12 false (.bin .neq (.t 15) (ci 0)),wq 17 12 16,rm 18 17,
 wm 19 18 false 1,rg 20 18 false (.Vw lp [.t 19]),rg 21 18 false (.a2q 0 1 false (.t 20)),rg 22 18 false (.sq 2 (.t 21) (ci 0)),
 rg 23 18 false (.Fg 1 (.t 22)),wl 24 18 false 1 false 23,rg 25 18 false (.bin .neq (.t 24) (ci 5)),wq 26 18 25,rm 27 26,
 wm 28 27 false 1,rg 29 27 false (.yr qy [.t 28]),rg 30 27 false (.bin .neq (.t 29) (ci 0)),
 wq 31 27 30] (wt 31 (rq [wf 0 false] bo) bn)) (rq [rm 33 1,
 ri 34 (.call ou [.t 33]),rm 32 34,rx 35 32 0,rx 36 32 1,rm 3 35,rm 4 36] (rq [rm 37 3,wd 38 .eql 37 0,rm 39 38,
 wm 40 39 true 4,rg 41 39 true (.bin .eql (.t 40) (ci 1)),wp 42 39 41,rm 43 42,wm 44 43 true 1,
 rg 45 43 true (.Vw lp [.t 44]),rg 46 43 true (.a2q 0 1 false (.t 45)),rg 47 43 true (.sq 2 (.t 46) (ci 0)),rg 48 43 true (.Fg 1 (.t 47)),
 wl 49 43 true 1 false 48,rg 50 43 true (.bin .eql (.t 49) (ci 2)),wp 51 43 50,rm 52 51,wm 53 52 true 1,
 rg 54 52 true (.yr o6 [.t 53]),rg 55 52 true (.bin .eql (.t 54) (ci 0)),wp 56 52 55,rm 57 56,
 wm 58 57 true 1,rg 59 57 true (.yr o6 [.t 58]),rg 60 57 true (.bin .eql (.t 59) (ci 7)),
 wp 61 57 60,rm 62 61,wm 63 62 true 1,
 rg 64 62 true (.build [.int ab 0,.str ⟨#[]⟩,.str ⟨#[]⟩,.int ab 0,.str ⟨#[]⟩,.int ab 0,.cq,.cq,.cq] [(0,1,ci 4),(1,1,.c (.str ⟨#[97]⟩))]),
 rg 65 62 true (.yr pk [.t 63,.t 64]),rg 66 62 true (.bin .eql (.t 65) (ci 230)),wp 67 62 66,rm 68 67,
 wm 69 68 true 1,rg 70 68 true (.yr pj [.t 69,.c (.str ⟨#[109]⟩)]),rg 71 68 true (.bin .eql (.t 70) (ci 0)),
 wp 72 68 71,rm 73 72,wm 74 73 true 1,rg 75 73 true (.yr pj [.t 74,.c (.str ⟨#[109]⟩)]),
 rg 76 73 true (.bin .eql (.t 75) (ci 7)),wp 77 73 76,rm 0 77] bo))))
structure Pr5(P:Program)extends Pr4 P where
 yw:Nat
 a8a:ew P yw {ce:=[7,15,29,54,59,65,70,75],cf:=[20,45]}=some (Pl Eg Cv pk lp qy ou o6 pj,[.tmp 0],78)
def Bu:di:=
 rq [wc 4 0] (rq [rm 8 0,rm 9 1,ri 10 (.lookup (.one .str) (.int ab 0) (.t 8) (.t 9) true),rm 7 10,rx 11 7 0,rx 12 7 1,rm 5 11,rm 6 12] (ar (rq [rm 13 6,
 ri 14 (.un .not (.t 13))] (wt 14 (rq [rm 15 0,ri 16 (.len .map (.t 15)),rm 5 16] (bz [rm 17 0,rm 18 1,rm 19 5,
 rn (.Wd (.one .str) (.t 17) (.t 18) (.t 19))] false [])) bn)) (rq [rm 20 5,rm 4 20] bo)))
def Gq(uq:Nat):di:=
 rq [wx 1 1 0,ri 2 (.alloc [.cq]),wc 3 0] (rq [rl 4 1 true 1,ri 5 (.call uq [.t 4]),rx 6 5 0,rx 7 5 1,ws 1 2 6,
 rm 3 7] bo)
def Ea(mg oz pn xr ss u9:Nat):di:=
 rq [wx 2 2 0,ri 4 (.j7 (.c .I0))] (rq [ri 16 (.H9),rm 5 16] (ar (rq [rl 17 2 true 2,ri 18 (.call mg [.t 17]),
 wn 19 18,
 wc 20 0] (cn 0 (gz (rq [wb 21 .lss 20 19] (ar (wt 21 bn (gn 0)) (ar (cn 1 (rq [wi 22 1 18 20,
 rl 23 1 false 22,rm 7 23] (rq [rl 24 2 true 2,rm 25 7,ri 26 (.call oz [.t 24,.t 25]),rm 8 26] (ar (bz [rm 28 8,rk 29 28,rf 30 1 29,
 rl 31 3 true 30,rf 32 0 2,rl 33 1 false 32,ri 34 (.call pn [.t 31,.t 33]),rm 27 34,rx 35 27 0,rx 36 27 1,rm 9 35,rm 10 36] true []) (rq [rm 38 8,
 rk 39 38,rf 40 1 39,rf 41 2 40,rl 42 1 true 41,ri 43 (.call xr [.t 42]),rm 37 43,rx 44 37 0,rx 45 37 1,ri 11 (.alloc [.cq]),
 ws 1 11 44,rm 12 45] (rq [wo 13] (ar (rq [rm 46 8,rk 47 46,rf 48 4 47,rl 49 1 false 48,wn 50 49,
 wc 51 0] (cn 2 (gz (rq [wb 52 .lss 51 50] (ar (wt 52 bn (gn 2)) (ar (cn 3 (rq [wi 53 1 49 51,
 rl 54 1 false 53,rm 15 54] (bz [rm 55 13,rm 56 5,rm 57 15,ri 58 (.lookup (.one .str) (.int ab 0) (.t 56) (.t 57) false),
 ri 59 (.yk false 1 1 [.int ab 0] [(0,1,.t 58)]),ri 60 (.app 1 8 (.t 55) (.t 59)),rm 13 60] false []))) (bz [wd 61 .add 51 1,
 rm 51 61] false []))))))) (bz [rm 62 5,rm 63 7,rm 64 1,rm 65 8,rk 66 65,rf 67 1 66,rf 68 0 67,rl 69 1 false 68,rm 70 9,rl 71 1 true 11,rm 72 13,
 ri 73 (.call ss [.t 69,.t 70,.t 71,.t 72]),ri 74 (.yr u9 [.t 64,.t 73]),
 rn (.Wd (.one .str) (.t 62) (.t 63) (.t 74))] true [])))))))) (bz [wd 75 .add 20 1,rm 20 75] false []))))))) (rq [rm 76 5,rm 4 76] bo)))
def F5:di:=
 rq [wx 2 2 0,wo 4] (rq [wo 5] (ar (rq [rf 8 1 2,rl 9 1 false 8,wn 10 9,
 wc 11 0] (cn 0 (gz (rq [wb 12 .lss 11 10] (ar (wt 12 bn (gn 0)) (ar (cn 1 (rq [wi 13 5 9 11,
 rl 14 5 true 13,ri 7 (.alloc [.str ⟨#[]⟩,.int ab 0,.cq,.cq,.cq]),ws 5 7 14] (rq [rm 15 1,rl 16 5 true 7,
 ri 17 (.wv (.t 15) [.t 16])] (wt 17 (bz [rm 18 5,rf 19 0 7,rl 20 1 false 19,ri 21 (.yk false 1 1 [.str ⟨#[]⟩] [(0,1,.t 20)]),
 ri 22 (.app 1 16 (.t 18) (.t 21)),rm 5 22] false []) bn)))) (bz [wd 23 .add 11 1,rm 11 23] false []))))))) (rq [rm 24 5,rm 4 24] bo)))
def Ad:di:=
 rq [wx 3 5 0,wf 4 false] (rq [rl 8 1 false 1,rf 9 0 3,rl 10 1 false 9,ri 11 (.lookup (.one .str) (.int ab 0) (.t 8) (.t 10) true),
 rm 7 11,rx 12 7 0,rx 13 7 1,rm 5 12,rm 6 13] (rq [rm 14 6,ri 15 (.un .not (.t 14)),rm 16 15,wm 17 16 false 5,wl 18 16 false 1 false 2,
 rg 19 16 false (.Fg 0 (.t 3)),wl 20 16 false 1 false 19,rg 21 16 false (.lookup (.one .str) (.int ab 0) (.t 18) (.t 20) false),
 rg 22 16 false (.bin .neq (.t 17) (.t 21)),wq 23 16 22,rm 4 23] bo))
def Ja(jl nw xq ua:Nat):di:=
 rq [wx 2 2 0,wx 3 2 1,wo 4,wc 5 0] (ar (rq [rl 12 2 true 2,rl 13 2 true 3,
 ri 14 (.yk false 2 2 [.cq,.cq] [(0,2,.t 12),(2,2,.t 13)]),wn 15 14,
 wc 16 0] (cn 0 (gz (rq [wb 17 .lss 16 15] (ar (wt 17 bn (gn 0)) (ar (cn 1 (rq [wi 18 2 14 16,
 rl 19 2 true 18,ri 7 (.alloc [.cq,.cq]),ws 2 7 19] (rq [rl 20 2 true 7,ri 21 (.call jl [.t 20]),rm 8 21] (rq [rm 22 8,
 wd 23 .neq 22 0] (wt 23 (rq [rm 24 8,wo 4,rm 5 24] bo) bn))))) (bz [wd 25 .add 16 1,
 rm 16 25] false []))))))) (rq [ri 26 (.H9),
 rm 9 26] (ar (.a5o [⟨some 27,.load 2 true (.t 2),none,[]⟩,⟨some 28,.j7 (.t 9),none,[]⟩,⟨some 29,.qb nw [.t 27,.t 28],none,[0,1]⟩,⟨some 30,.load 2 true (.t 3),none,[]⟩,⟨some 31,.j7 (.t 9),none,[]⟩,⟨some 32,.qb nw [.t 30,.t 31],none,[3,4,2]⟩,⟨some 10,.alloc [.I0],none,[]⟩,⟨some 11,.alloc [.I0],none,[]⟩,⟨none,.store 1 (.t 10) (.t 29),none,[6,2,5,0,1,2,6,7]⟩,⟨none,.store 1 (.t 11) (.t 32),none,[7,5,8,0,1,2,3,4,5,6,7,8]⟩]) (rq [rl 33 2 true 3,
 ri 34 (.Lr xq [.t 10,.t 11]),ri 35 (.qb ua [.t 33,.t 34]),rm 4 35,wc 5 0] bo))))
def Mp(jl qd:Nat):di:=
 rq [wx 2 2 0,wx 3 9 1,ri 4 (.alloc [.cq,.cq]),wc 5 0] (ar (rq [rl 6 2 true 2,ri 7 (.call jl [.t 6]),
 wd 8 .neq 7 0] (wt 8 (rq [ri 9 (.build [.cq,.cq] []),ws 2 4 9,wc 5 230] bo) bn)) (rq [rl 10 2 true 2,
 rl 11 9 true 3,ri 12 (.call qd [.t 10,.t 11]),rx 13 12 0,rx 14 12 1,ws 2 4 13,rm 5 14] bo))
structure Pr6(P:Program)extends Pr5 P where
 u9:Nat
 xr:Nat
 nw:Nat
 ss:Nat
 ua:Nat
 xq:Nat
 zm:Nat
 C0:Nat
 Sv:ew P u9 {}=some (Bu,[.tmp 4],21)
 Vg:ew P xr {}=some (Gq uq,[.cell 2 1 true,.tmp 3],8)
 Ru:ew P nw {ce:=[74]}=some (Ea mg oz pn xr ss u9,[.tmp 4],77)
 Sw:ew P ua {}=some (F5,[.tmp 4],25)
 Vd:ew P xq {}=some (Ad,[.tmp 4],24)
 Ye:ew P zm {cr:=[29,32,35],ga:=[9]}=some (Ja jl nw xq ua,[.tmp 4,.tmp 5],36)
 a2l:ew P C0 {}=some (Mp jl qd,[.cell 4 2 true,.tmp 5],15)
def Tg:di:=
 rq [ri 4 (.j7 (.c .cq))] (rq [ri 5 (.j7 (ci 0))] (ar (cn 0 (gz (ar (rq [rm 7 5,rm 8 0,ri 9 (.len .ft (.t 8)),ri 10 (.bin .lss (.t 7) (.t 9)),rm 11 10,
 rg 12 11 true (.j7 (.t 0)),rg 13 11 true (.j7 (.t 5)),rg 14 11 true (.sq 1 (.t 12) (.t 13)),rg 15 11 true (.load 1 false (.t 14)),rg 16 11 true (.j7 (.t 1)),
 rg 17 11 true (.bin .lss (.t 15) (.t 16)),ri 18 (.pick (.t 11) (.t 17) (.c (.bool false)))] (.cond (.t 18) (bn) (gn 0))) (cn 1 (bz [rm 19 5,
 ri 20 (.bin .add (.t 19) (ci 1)),rm 5 20] false []))))) (ar (rq [rm 21 5,rm 22 0,ri 23 (.len .ft (.t 22)),ri 24 (.bin .lss (.t 21) (.t 23)),rm 25 24,
 rg 26 25 true (.j7 (.t 0)),rg 27 25 true (.j7 (.t 5)),rg 28 25 true (.sq 1 (.t 26) (.t 27)),rg 29 25 true (.load 1 false (.t 28)),rg 30 25 true (.j7 (.t 1)),
 rg 31 25 true (.bin .eql (.t 29) (.t 30)),ri 32 (.pick (.t 25) (.t 31) (.c (.bool false)))] (.cond (.t 32) (rq [rm 33 0,
 rm 4 33] (bo)) (bn))) (rq [ri 6 (.j7 (.c .cq))] (rq [rm 34 6,rm 35 0,rm 36 5,ri 37 (.slice 1 (.t 35) none (some (.t 36))),ri 38 (.app 1 16 (.t 34) (.t 37)),
 rm 6 38] (rq [rm 39 6,rm 40 1,ri 41 (.yk false 1 1 [.str ⟨#[]⟩] [(0,1,.t 40)]),ri 42 (.app 1 16 (.t 39) (.t 41)),rm 6 42] (rq [rm 43 6,rm 44 0,rm 45 5,
 ri 46 (.slice 1 (.t 44) (some (.t 45)) none),ri 47 (.app 1 16 (.t 43) (.t 46)),rm 4 47] (bo))))))))
def Nr(x7 Az:Nat):di:=
 rq [ri 2 (.box 2 (.t 0)),ri 4 (.j7 (.c .cq))] (rq [rm 11 1,ri 12 (.yk true 1 1 [.str ⟨#[]⟩] [(0,1,.t 11)]),
 rm 5 12] (ar (rq [ri 6 (.j7 (.c (.bool true)))] (cn 0 (gz (ar (rq [rm 13 6] (.cond (.t 13) (bn) (gn 0))) (cn 1 (rq [rm 14 5,
 ri 15 (.len .ft (.t 14)),rm 7 15] (ar (rq [ri 8 (.j7 (ci 0))] (cn 2 (gz (ar (rq [rm 16 8,rm 17 7,
 ri 18 (.bin .lss (.t 16) (.t 17))] (.cond (.t 18) (bn) (gn 2))) (ar (cn 3 (ar (bz [rf 21 1 2,rl 22 1 false 21,rl 23 2 true 2,rm 24 5,rm 25 8,
 ri 26 (.sq 1 (.t 24) (.t 25)),rl 27 1 false 26,ri 28 (.call x7 [.t 23,.t 27]),ri 29 (.sq 5 (.t 22) (.t 28)),rf 30 4 29,rl 31 1 false 30,
 rm 9 31] true []) (ar (rq [ri 10 (.j7 (ci 0))] (cn 4 (gz (ar (rq [rm 32 10,rm 33 9,ri 34 (.len .ft (.t 33)),
 ri 35 (.bin .lss (.t 32) (.t 34))] (.cond (.t 35) (bn) (gn 4))) (ar (cn 5 (bz [rm 38 5,rm 39 9,rm 40 10,ri 41 (.sq 1 (.t 39) (.t 40)),rl 42 1 false 41,
 ri 43 (.call Az [.t 38,.t 42]),rm 5 43] false [])) (bz [rm 36 10,ri 37 (.bin .add (.t 36) (ci 1)),rm 10 37] false [])))))) (rq [rm 44 5,
 ri 45 (.len .ft (.t 44)),rm 46 7,ri 47 (.bin .gtr (.t 45) (.t 46))] (.cond (.t 47) (gn 2) (bn)))))) (bz [rm 19 8,ri 20 (.bin .add (.t 19) (ci 1)),
 rm 8 20] false [])))))) (bz [rm 48 5,ri 49 (.len .ft (.t 48)),rm 50 7,ri 51 (.bin .gtr (.t 49) (.t 50)),rm 6 51] false [])))))))) (rq [rm 52 5,rm 4 52] (bo))))
def P8(Dk tn Az:Nat):di:=
 rq [ri 2 (.box 2 (.t 0)),ri 4 (.j7 (.c .cq))] (rq [ri 5 (.j7 (.c .cq))] (ar (rq [ri 6 (.j7 (ci 0))] (cn 0 (gz (ar (rq [rm 7 6,rf 8 1 2,rl 9 1 false 8,
 ri 10 (.len .ft (.t 9)),ri 11 (.bin .lss (.t 7) (.t 10))] (.cond (.t 11) (bn) (gn 0))) (ar (cn 1 (ar (bz [rl 14 2 true 2,rf 15 1 2,rl 16 1 false 15,
 rm 17 6,ri 18 (.sq 5 (.t 16) (.t 17)),rf 19 0 18,rl 20 1 false 19,ri 21 (.call Dk [.t 14,.t 20]),rm 22 1,
 ri 23 (.call tn [.t 21,.t 22])] true []) (.cond (.t 23) (bz [rm 24 5,rf 25 1 2,rl 26 1 false 25,rm 27 6,ri 28 (.sq 5 (.t 26) (.t 27)),rf 29 0 28,
 rl 30 1 false 29,ri 31 (.call Az [.t 24,.t 30]),rm 5 31] false []) (bn)))) (bz [rm 12 6,ri 13 (.bin .add (.t 12) (ci 1)),
 rm 6 13] false [])))))) (rq [rm 32 5,rm 4 32] (bo))))
def u0(Cs yx Co yw C0 zm Ex:Nat):di:=
 rq [ri 3 (.box 2 (.t 0)),ri 6 (.j7 (.c (.bool false)))] (ar (rq [rl 18 2 true 3,ri 19 (.call Cs [.t 18]),ri 20 (.un .not (.t 19)),rm 21 20,
 rg 22 21 false (.j7 (.t 1)),rg 23 21 false (.len .str (.t 22)),rg 24 21 false (.bin .gtr (.t 23) (ci 100)),ri 25 (.pick (.t 21) (.c (.bool true)) (.t 24)),rm 26 25,
 rg 27 26 false (.load 2 true (.t 3)),rg 28 26 false (.call yx [.t 27]),rg 29 26 false (.call Co [.t 28]),rg 30 26 false (.un .not (.t 29)),
 ri 31 (.pick (.t 26) (.c (.bool true)) (.t 30))] (.cond (.t 31) (rq [ri 32 (.call yw []),rm 6 32] (bo)) (bn))) (rq [rl 34 2 true 3,rm 35 1,rm 36 2,
 ri 37 (.build [.int ab 0,.str ⟨#[]⟩,.str ⟨#[]⟩,.int ab 0,.str ⟨#[]⟩,.int ab 0,.cq,.cq,.cq] [(1,1,.t 35),(3,1,.t 36)]),
 ri 38 (.call C0 [.t 34,.t 37]),rm 33 38,rx 39 33 0,rx 40 33 1,ri 7 (.alloc [.cq,.cq]),rn (.store 2 (.t 7) (.t 39)),rm 8 40] (ar (rq [rm 41 8,
 ri 42 (.bin .neq (.t 41) (ci 0))] (.cond (.t 42) (rq [ri 43 (.call yw []),rm 6 43] (bo)) (bn))) (rq [rl 45 2 true 3,rl 46 2 true 7,
 ri 47 (.call zm [.t 45,.t 46]),rm 44 47,rx 48 44 0,rx 49 44 1,rm 9 48,rm 10 49] (rq [rl 50 2 true 3,ri 51 (.call yx [.t 50]),
 ri 11 (.alloc [.cq,.cq]),rn (.store 2 (.t 11) (.t 51))] (rq [ri 12 (.j7 (.c .cq))] (ar (rq [ri 13 (.j7 (ci 0))] (cn 0 (gz (ar (rq [rm 52 13,rf 53 1 11,
 rl 54 1 false 53,ri 55 (.len .ft (.t 54)),
 ri 56 (.bin .lss (.t 52) (.t 55))] (.cond (.t 56) (bn) (gn 0))) (ar (cn 1 (rq [ri 14 (.j7 (ci 0))] (cn 2 (gz (ar (rq [rm 59 14,rf 60 1 11,
 rl 61 1 false 60,rm 62 13,ri 63 (.sq 5 (.t 61) (.t 62)),rf 64 1 63,rf 65 1 64,rl 66 1 false 65,ri 67 (.len .ft (.t 66)),
 ri 68 (.bin .lss (.t 59) (.t 67))] (.cond (.t 68) (bn) (gn 2))) (ar (cn 3 (rq [rf 71 1 11,rl 72 1 false 71,rm 73 13,ri 74 (.sq 5 (.t 72) (.t 73)),
 rf 75 1 74,rf 76 1 75,rl 77 1 false 76,rm 78 14,ri 79 (.sq 3 (.t 77) (.t 78)),rf 80 0 79,rl 81 1 false 80,rm 82 1,
 ri 83 (.bin .eql (.t 81) (.t 82))] (.cond (.t 83) (bz [rm 84 12,rl 85 2 true 11,rf 86 1 11,rl 87 1 false 86,rm 88 13,ri 89 (.sq 5 (.t 87) (.t 88)),rf 90 0 89,
 rl 91 1 false 90,ri 92 (.call Ex [.t 85,.t 91]),ri 93 (.app 1 16 (.t 84) (.t 92)),rm 12 93] true []) (bn)))) (bz [rm 69 14,
 ri 70 (.bin .add (.t 69) (ci 1)),rm 14 70] false []))))))) (bz [rm 57 13,ri 58 (.bin .add (.t 57) (ci 1)),
 rm 13 58] false [])))))) (ar (rq [ri 15 (.j7 (ci 0))] (cn 4 (gz (ar (rq [rm 94 15,rm 95 9,ri 96 (.len .ft (.t 95)),
 ri 97 (.bin .lss (.t 94) (.t 96))] (.cond (.t 97) (bn) (gn 4))) (ar (cn 5 (rq [ri 16 (.j7 (.c (.bool false)))] (ar (rq [ri 17 (.j7 (ci 0))] (cn 6 (gz (ar (rq [rm 100 17,
 rm 101 12,ri 102 (.len .ft (.t 101)),ri 103 (.bin .lss (.t 100) (.t 102))] (.cond (.t 103) (bn) (gn 6))) (ar (cn 7 (bz [rm 106 16,rm 107 106,
 rg 108 107 false (.j7 (.t 12)),rg 109 107 false (.j7 (.t 17)),rg 110 107 false (.sq 1 (.t 108) (.t 109)),rg 111 107 false (.load 1 false (.t 110)),
 rg 112 107 false (.j7 (.t 9)),rg 113 107 false (.j7 (.t 15)),rg 114 107 false (.sq 1 (.t 112) (.t 113)),rg 115 107 false (.load 1 false (.t 114)),
 rg 116 107 false (.bin .eql (.t 111) (.t 115)),ri 117 (.pick (.t 107) (.c (.bool true)) (.t 116)),rm 16 117] true [])) (bz [rm 104 17,
 ri 105 (.bin .add (.t 104) (ci 1)),rm 17 105] false [])))))) (rq [rm 118 16,
 ri 119 (.un .not (.t 118))] (.cond (.t 119) (rq [ri 6 (.j7 (.c (.bool false)))] (bo)) (bn)))))) (bz [rm 98 15,ri 99 (.bin .add (.t 98) (ci 1)),
 rm 15 99] false [])))))) (rq [rm 120 10,ri 121 (.bin .eql (.t 120) (ci 0)),rm 122 121,rg 123 122 true (.call yw []),
 ri 124 (.pick (.t 122) (.t 123) (.c (.bool false))),rm 6 124] (bo))))))))))
structure Pr7(P:Program)extends Pr6 P where
 Az:Nat
 Dk:Nat
 Ex:Nat
 Kh:Nat
 afj:ew P Az {}=some (Tg,[.tmp 4],48)
 a5d:ew P Dk {imm:=[12]}=some (Nr x7 Az,[.tmp 4],53)
 a7t:ew P Ex {}=some (P8 Dk tn Az,[.tmp 4],33)
 Sz:ew P Kh {}=some (u0 Cs yx Co yw C0 zm Ex,[.tmp 6],125)
abbrev Sp:=Int×Int
def ya(p:Sp):D:= .agg [.int ab p.1,.int ab p.2]
def Bs(p:Sp):List D:=[.int ab p.1,.int ab p.2]
def dEd(e:Sp×Sp):D:= .agg [.int ab e.1.1,.int ab e.1.2,.int ab e.2.1,.int ab e.2.2]
def Sm(n:Int):Prop:= -10000≤n∧n≤10000
def SmP(p:Sp):Prop:=Sm p.1∧Sm p.2
theorem a7o{x y:Int}(hx: -20000≤x∧x≤20000)(hy: -20000≤y∧y≤20000): -400000000≤x*y∧x*y≤400000000:=by
 have h1:x.natAbs≤20000:=by omega
 have h2:y.natAbs≤20000:=by omega
 have:=aJj h1 h2;rw[←Int.natAbs_mul]at this;omega
def j2(a b c:Sp):Int:=(b.1-a.1)*(c.2-a.2)-(b.2-a.2)*(c.1-a.1)
def sgn(n:Int):Int:=if n<0 then-1 else if 0<n then 1 else 0
section
variable{P:Program}(A:Pr P)
theorem Uk{a b c:Sp}(ha:SmP a)(hb:SmP b)(hc:SmP c):iq P A.my [ya a,ya b,ya c] (.int ab (j2 a b c)):=by
 refine du A.mo A.a88 (by simp) ?_;show ko P Pj (lg _ _) _;obtain⟨⟨a1,a2⟩,a3,a4⟩:=ha;obtain⟨⟨b1,b2⟩,b3,b4⟩:=hb;obtain⟨⟨c1,c2⟩,c3,c4⟩:=hc;have w1:=cu (b.1-a.1) (by omega) (by omega);have w2:=cu (c.2-a.2) (by omega) (by omega);have w3:=cu (b.2-a.2) (by omega) (by omega);have w4:=cu (c.1-a.1) (by omega) (by omega);have m1:=a7o (x:=b.1-a.1) (y:=c.2-a.2) (by omega) (by omega);have m2:=a7o (x:=b.2-a.2) (y:=c.1-a.1) (by omega) (by omega);have w5:=cu ((b.1-a.1)*(c.2-a.2)) (by omega) (by omega);have w6:=cu ((b.2-a.2)*(c.1-a.1)) (by omega) (by omega);have w7:=cu ((b.1-a.1)*(c.2-a.2)-(b.2-a.2)*(c.1-a.1)) (by omega) (by omega);simp only[Pj,ya,go_sem,aa,dc,fp,dv,ey,ae,ah,reduceCtorEq,w1,w2,w3,w4,w5,w6,w7,j2]
theorem aax(n:Int):iq P A.Am [.int ab n] (.int ab (sgn n)):=by
 refine du A.mo A.ac2 (by simp) ?_;show ko P J7 (lg _ _) _;by_cases h1:n<0
 ·simp only[J7,go_sem,aa,de,reduceCtorEq,h1,sgn]
 by_cases h2:0<n
 ·simp only[J7,go_sem,aa,de,reduceCtorEq,h1,h2,sgn]
 simp only[J7,go_sem,aa,de,reduceCtorEq,h1,h2,sgn]
theorem avy{a b:Sp}(ha:SmP a)(hb:SmP b):iq P A.uo [ya a,ya b] (ya (a.1-b.1,a.2-b.2)):=by
 refine du A.mo A.a83 (by simp) ?_;show ko P Pf (lg _ _) _;obtain⟨⟨a1,a2⟩,a3,a4⟩:=ha;obtain⟨⟨b1,b2⟩,b3,b4⟩:=hb;have w1:=cu (a.1-b.1) (by omega) (by omega);have w2:=cu (a.2-b.2) (by omega) (by omega);simp only[Pf,ya,go_sem,aa,dc,fp,dv,ey,ae,ah,reduceCtorEq,w1,w2]
end
def mn(a b:Int):Int:=if b<a then b else a
def mx(a b:Int):Int:=if a<b then b else a
def onB(e:Sp×Sp)(x:Sp):Bool:=j2 e.1 e.2 x==0&&(decide (mn e.1.1 e.2.1≤x.1)&&(decide (x.1≤mx e.1.1 e.2.1)&&(decide (mn e.1.2 e.2.2≤x.2)&&decide (x.2≤mx e.1.2 e.2.2))))
def Mz(e f:Sp×Sp):Bool:=decide (sgn (j2 e.1 e.2 f.1)*sgn (j2 e.1 e.2 f.2)<0)&&decide (sgn (j2 f.1 f.2 e.1)*sgn (j2 f.1 f.2 e.2)<0)
def SmE(e:Sp×Sp):Prop:=SmP e.1∧SmP e.2
theorem ayz(n:Int):sgn n= -1∨sgn n=0∨sgn n=1:=by unfold sgn;split<;>(try split)<;>omega
theorem aat(a b:Int): -1≤sgn a*sgn b∧sgn a*sgn b≤1:=by
 rcases ayz a with h|h|h<;>rcases ayz b with k|k|k<;>simp[h,k]
def clk(u v:Sp):Int:=if u.1*v.2-u.2*v.1<0 then 0 else if 0<u.1*v.2-u.2*v.1 then 2 else if u.1*v.1+u.2*v.2<0 then 1 else 3
def a7f(u x y:Sp):Bool:=if clk u x=clk u y then decide (x.1*y.2-x.2*y.1<0)else decide (clk u x<clk u y)
section
variable{P:Program}(A:Pr P)
theorem aFc{e:Sp×Sp}{x:Sp}(he:SmE e)(hx:SmP x):iq P A.Kx [dEd e,ya x] (.bool (onB e x)):=by
 refine du A.mo A.aj0 (by simp) ?_;show ko P (W7 A.my) (lg _ _) _;have hc:=Uk A he.1 he.2 hx;simp only[ya]at hc;simp only[W7,ya,dEd,go_sem,aa,ae,ah];refine Gh hc ?_;unfold onB mn mx;by_cases h1:j2 e.1 e.2 x=0
 ·simp only[go_sem,aa,dc,ae,ah,reduceCtorEq,h1,bne_self_eq_false,gq];by_cases h2:(if e.2.1<e.1.1 then e.2.1 else e.1.1)≤x.1
  ·simp only[go_sem,aa,dc,ae,ah,reduceCtorEq,h2];by_cases h3:x.1≤(if e.1.1<e.2.1 then e.2.1 else e.1.1)
   ·simp only[go_sem,aa,dc,fp,dv,ey,ae,ah,reduceCtorEq,h3];by_cases h4:(if e.2.2<e.1.2 then e.2.2 else e.1.2)≤x.2
    ·simp only[go_sem,aa,dc,fp,dv,ey,ae,ah,reduceCtorEq,h4]
    simp only[go_sem,aa,h4,dz]
   simp only[go_sem,aa,h3,dz]
  simp only[go_sem,aa,h2,dz]
 have h1':(j2 e.1 e.2 x==0)=false:=by simpa using h1
 have aGx:(j2 e.1 e.2 x !=0)=true:=by simpa using h1
 simp only[go_sem,aa,reduceCtorEq,h1',aGx,dz]
theorem ahh{e f:Sp×Sp}(he:SmE e)(hf:SmE f):iq P A.B8 [dEd e,dEd f] (.bool (Mz e f)):=by
 refine du A.mo A.Zv (by simp) ?_;show ko P (Kn A.my A.Am) (lg _ _) _;have k1:=Uk A he.1 he.2 hf.1;have k2:=Uk A he.1 he.2 hf.2;have k3:=Uk A hf.1 hf.2 he.1;have k4:=Uk A hf.1 hf.2 he.2;have b1:=aat (j2 e.1 e.2 f.1) (j2 e.1 e.2 f.2);have b2:=aat (j2 f.1 f.2 e.1) (j2 f.1 f.2 e.2);have w1:=cu _ (by omega) (by omega:sgn (j2 e.1 e.2 f.1)*sgn (j2 e.1 e.2 f.2)≤9223372036854775807);have w2:=cu _ (by omega) (by omega:sgn (j2 f.1 f.2 e.1)*sgn (j2 f.1 f.2 e.2)≤9223372036854775807);simp only[ya]at k1 k2 k3 k4;simp only[Kn,dEd,go_sem,aa,ae,ah];refine Gh k1 ?_;simp only[go_sem,aa];refine ff (aax A _) ?_;simp only[go_sem,aa,ae,ah];refine Gh k2 ?_;simp only[go_sem,aa];refine ff (aax A _) ?_;simp only[go_sem,aa,reduceCtorEq,w1];by_cases h1:sgn (j2 e.1 e.2 f.1)*sgn (j2 e.1 e.2 f.2)<0
 ·simp only[go_sem,aa,ae,ah,h1];refine Gh k3 ?_;simp only[go_sem,aa];refine ff (aax A _) ?_;simp only[go_sem,aa,ae,ah];refine Gh k4 ?_;simp only[go_sem,aa];refine ff (aax A _) ?_;simp only[go_sem,aa,reduceCtorEq,w2,Mz,h1]
 simp only[go_sem,aa,h1,Mz,dz]
end
def a0c(s:ByteArray)(i:Nat):Nat:=match s[i]? with|some u=>u.toNat|none=>0
def a0b(i n:Nat):Bool:=(decide (97≤n)&&decide (n≤122))||(decide (i≠0)&&(decide (48≤n)&&decide (n≤57)))
def xf(s:ByteArray):Bool:=decide (1≤s.size)&&(decide (s.size≤20)&&(dn s.size).all fun i=>a0b i (a0c s i))
theorem bp(k:Nat):((k:Int)).toNat=k:=rfl
theorem Uw{k:Nat}(h:k≠0):((k:Int)==0)=false:=by simp;omega
section
variable{P:Program}(A:Pr P)
theorem Cn{s:ByteArray}{k:Nat}(hk:k<s.size)(h:a0b k (a0c s k)=false):xf s=false:=by
 unfold xf;rw[apm,apm];refine .inr (.inr ?_);rw[a2v];exact⟨k,ep.2 hk,by simp[h]⟩
theorem a9l{s:ByteArray}(h1:1≤s.size)(h2:s.size≤20)(h:∀i,i<s.size→a0b i (a0c s i)=true):xf s=true:=by
 unfold xf;simp only[h1,h2,decide_true,uh];rw[cz];exact fun i hi=>h i (ep.1 hi)
theorem Cw{k n:Nat}(h1:¬(97≤n∧n≤122))(h2:k=0∨n<48∨57<n):a0b k n=false:=by
 unfold a0b;simp only[Rc,apm,decide_eq_false_iff_not];constructor<;>omega
theorem Uv{k n:Nat}(h:(97≤n∧n≤122)∨(k≠0∧48≤n∧n≤57)):a0b k n=true:=by
 unfold a0b;simp only[N2,cj,decide_eq_true_eq];exact h
theorem ahj(s:ByteArray):iq P A.rv [.str s] (.bool (xf s)):=by
 refine du A.mo A.ac1 (by simp) ?_;show ko P J6 (lg _ _) _;by_cases h1:(s.size:Int)<1
 ·have:xf s=false:=by unfold xf;rw[decide_eq_false (by omega)];rfl
  simp only[J6,go_sem,aa,reduceCtorEq,h1,this]
 by_cases h2:(20:Int)<s.size
 ·have h2':¬s.size≤20:=by omega
  have:xf s=false:=by unfold xf;simp only[h2',decide_false,dz,qo]
  simp only[J6,go_sem,aa,reduceCtorEq,h1,h2,this]
 simp only[J6,go_sem,aa,reduceCtorEq,h1,h2];refine fh s.size (fun k s'=>s'.tmp 0= .d (.str s)∧s'.tmp 3= .d (.int ab k)∧∀i,i<k→a0b i (a0c s i)=true) ?_ ?_
 ·simp[ak]
 rintro k s' hk ⟨e0,e3,ha⟩;by_cases hlt:(k:Int)<s.size
 ·have df:k<s.size:=by omega
  obtain⟨u,hu⟩:∃u,s[k]? =some u:=⟨s[k],by simp[df]⟩
  have hc:a0c s k=u.toNat:=by unfold a0c;rw[hu]
  have wk:=cu ((k:Int)+1) (by omega) (by omega)
  have nx:∀ok:a0b k (a0c s k)=true,∀i,i<k+1→a0b i (a0c s i)=true:=fun ok i hi=>by
   by_cases e:i=k
   ·subst e;exact ok
   exact ha i (by omega)
  simp only[go_sem,aa,reduceCtorEq,e0,e3,hlt,bp,hu,aq];by_cases q1:(97:Int)≤u.toNat
  ·by_cases q2:(u.toNat:Int)≤122
   ·simp only[go_sem,aa,reduceCtorEq,e0,e3,bp,hu,aq,q1,q2,wk];exact⟨df,by simp,nx (Uv (by omega))⟩
   simp only[go_sem,aa,reduceCtorEq,e0,e3,bp,hu,aq,q1,q2];by_cases q3:k=0
   ·subst q3;simp only[go_sem,aa,a1m,gq];rw[Cn df (Cw (by omega) (by omega))]
   have q3':=Uw q3
   have q4:¬(u.toNat:Int)<48:=by omega
   have q5:(57:Int)<u.toNat:=by omega
   simp only[go_sem,aa,reduceCtorEq,e0,e3,bp,hu,aq,q3',q4,q5];rw[Cn df (Cw (by omega) (by omega))]
  simp only[go_sem,aa,reduceCtorEq,e3,q1];by_cases q3:k=0
  ·subst q3;simp only[go_sem,aa,a1m,gq];rw[Cn df (Cw (by omega) (by omega))]
  have q3':=Uw q3;by_cases q4:(u.toNat:Int)<48
  ·simp only[go_sem,aa,reduceCtorEq,e0,e3,bp,hu,aq,q3',q4];rw[Cn df (Cw (by omega) (by omega))]
  by_cases q5:(57:Int)<u.toNat
  ·simp only[go_sem,aa,reduceCtorEq,e0,e3,bp,hu,aq,q3',q4,q5];rw[Cn df (Cw (by omega) (by omega))]
  simp only[go_sem,aa,reduceCtorEq,e0,e3,bp,hu,aq,q3',q4,q5,wk];exact⟨df,by simp,nx (Uv (by omega))⟩
 simp only[go_sem,aa,reduceCtorEq,e0,e3,hlt];rw[a9l (by omega) (by omega) fun i hi=>ha i (by omega)]
theorem Xo(s:ByteArray):iq P A.ju [.str s] (.bool (xf s)):=by
 refine du A.mo A.a01 (by simp) ?_;show ko P Dg (lg _ _) _;by_cases h1:(s.size:Int)<1
 ·have:xf s=false:=by unfold xf;rw[decide_eq_false (by omega)];rfl
  simp only[Dg,go_sem,aa,reduceCtorEq,h1,this]
 by_cases h2:(20:Int)<s.size
 ·have h2':¬s.size≤20:=by omega
  have:xf s=false:=by unfold xf;simp only[h2',decide_false,dz,qo]
  simp only[Dg,go_sem,aa,reduceCtorEq,h1,h2,this]
 simp only[Dg,go_sem,aa,reduceCtorEq,h1,h2];refine fh s.size (fun k s'=>s'.tmp 0= .d (.str s)∧s'.tmp 15= .d (.int ab k)∧s'.tmp 14= .d (.int ab s.size)∧∀i,i<k→a0b i (a0c s i)=true) ?_ ?_
 ·simp[ak]
 rintro k s' hk ⟨e0,e15,e14,ha⟩;by_cases hlt:(k:Int)<s.size
 ·have df:k<s.size:=by omega
  obtain⟨u,hu⟩:∃u,s[k]? =some u:=⟨s[k],by simp[df]⟩
  have hc:a0c s k=u.toNat:=by unfold a0c;rw[hu]
  have wk:=cu ((k:Int)+1) (by omega) (by omega)
  have nx:∀ok:a0b k (a0c s k)=true,∀i,i<k+1→a0b i (a0c s i)=true:=fun ok i hi=>by
   by_cases e:i=k
   ·subst e;exact ok
   exact ha i (by omega)
  have rest:¬(97≤u.toNat∧u.toNat≤122)→∀q:Prop,(k=0→q)→(k≠0→(u.toNat:Int)<48→q)→(k≠0→¬(u.toNat:Int)<48→(57:Int)<u.toNat→q)→(k≠0→¬(u.toNat:Int)<48→¬(57:Int)<u.toNat→q)→q:=fun _ q a b c d=>by
   by_cases q3:k=0
   ·exact a q3
   by_cases q4:(u.toNat:Int)<48
   ·exact b q3 q4
   by_cases q5:(57:Int)<u.toNat
   ·exact c q3 q4 q5
   exact d q3 q4 q5
  simp only[go_sem,aa,reduceCtorEq,e0,e14,e15,hlt,bp,hu,aq];by_cases q1:(u.toNat:Int)<97
  ·simp only[go_sem,aa,reduceCtorEq,q1];refine rest (by omega) _ (fun q3=>?_) (fun q3 q4=>?_) (fun q3 q4 q5=>?_) (fun q3 q4 q5=>?_)
   ·subst q3;simp only[go_sem,aa,a1m,gq];rw[Cn df (Cw (by omega) (by omega))]
   ·simp only[go_sem,aa,reduceCtorEq,Uw q3,q4];rw[Cn df (Cw (by omega) (by omega))]
   ·simp only[go_sem,aa,reduceCtorEq,Uw q3,q4,q5];rw[Cn df (Cw (by omega) (by omega))]
   simp only[go_sem,aa,reduceCtorEq,e0,e14,e15,Uw q3,q4,q5,wk];exact⟨df,by simp,nx (Uv (by omega))⟩
  by_cases q2:(122:Int)<u.toNat
  ·simp only[go_sem,aa,reduceCtorEq,q1,q2];refine rest (by omega) _ (fun q3=>?_) (fun q3 q4=>?_) (fun q3 q4 q5=>?_) (fun q3 q4 q5=>?_)
   ·subst q3;simp only[go_sem,aa,a1m,gq];rw[Cn df (Cw (by omega) (by omega))]
   ·omega
   ·simp only[go_sem,aa,reduceCtorEq,Uw q3,q4,q5];rw[Cn df (Cw (by omega) (by omega))]
   omega
  simp only[go_sem,aa,reduceCtorEq,e0,e14,e15,q1,q2,wk];exact⟨df,by simp,nx (Uv (by omega))⟩
 simp only[go_sem,aa,reduceCtorEq,e14,e15,hlt];rw[a9l (by omega) (by omega) fun i hi=>ha i (by omega)]
end
structure Pm where
 n:ByteArray
 v:Int
structure Vl where
 n:ByteArray
 t:Int
 a:Int
def tx(p:Pm):List D:=[.str p.n,.int ab p.v]
def cVl(v:Vl):List D:=[.str v.n,.int ab v.t,.int ab v.a]
def jn(l:List Pm):D:= .ft 2 (l.map tx)
def x6(l:List Vl):D:= .ft 3 (l.map cVl)
def Py(n:Int):Bool:=decide (-1000000≤n)&&decide (n≤1000000)
def isE(s:ByteArray):Bool:=s.toList==(⟨#[]⟩:ByteArray).toList
def strLt(a b:ByteArray):Bool:=alw a.toList b.toList
def Kk(v:Vl):Bool:=Py v.t&&(Py v.a&&(xf v.n||(isE v.n&&v.t==0)))
def ui(l:List ByteArray)(i:Nat):Bool:=decide (i=0)||match l[i-1]?,l[i]? with|some a,some b=>strLt a b|_,_=>false
def a7l(l:List Pm)(i:Nat):Bool:=match l[i]? with|some p=>xf p.n&&(Py p.v&&ui (l.map Pm.n) i)|none=>false
def yd(l:List Pm):Bool:=decide (l.length≤20)&&(dn l.length).all (a7l l)
theorem all_false{f:Nat→Bool}{n k:Nat}(hk:k<n)(h:f k=false):(dn n).all f=false:=by
 rw[a2v];exact⟨k,ep.2 hk,by simp[h]⟩
theorem all_true{f:Nat→Bool}{n:Nat}(h:∀i,i<n→f i=true):(dn n).all f=true:=by
 rw[cz];exact fun i hi=>h i (ep.1 hi)
theorem qf{p:Nat→Prop}{k:Nat}(h:∀i,i<k→p i)(hk:p k):∀i,i<k+1→p i:=fun i hi=>by
 by_cases e:i=k
 ·subst e;exact hk
 exact h i (by omega)
theorem Is{k:Nat}(h:0<(k:Int)):((k:Int)-1).toNat=k-1:=by omega
section
variable{P:Program}(A:Pr P)
theorem a3w(n:Int):iq P A.s8 [.int ab n] (.bool (Py n)):=by
 refine du A.mo A.a5e (by simp) ?_;show ko P J5 (lg _ _) _;by_cases h1: -1000000≤n
 ·simp only[J5,go_sem,aa,de,reduceCtorEq,Py,h1]
 simp only[J5,go_sem,aa,de,reduceCtorEq,Py,h1,dz]
theorem a3u(n:Int):iq P A.qi [.int ab n] (.bool (Py n)):=by
 refine du A.mo A.a00 (by simp) ?_;show ko P Gb (lg _ _) _;by_cases h1: -1000000≤n
 ·simp only[Gb,go_sem,aa,de,reduceCtorEq,Py,h1]
 simp only[Gb,go_sem,aa,de,reduceCtorEq,Py,h1,dz]
theorem ab1(v:Vl):iq P A.yn [.agg (cVl v)] (.bool (Kk v)):=by
 refine du A.mo A.Wr (by simp) ?_;show ko P (Hs A.s8 A.rv) (lg _ _) _;unfold Kk;simp only[Hs,cVl,go_sem,aa,ae,ah];refine ff (a3w A _) ?_;cases h1:Py v.t
 ·simp only[go_sem,aa,dz]
 simp only[go_sem,aa,ae];refine ff (a3w A _) ?_;cases h2:Py v.a
 ·simp only[go_sem,aa,dz]
 simp only[go_sem,aa,ae,ah];refine ff (ahj A _) ?_;cases h3:xf v.n
 ·cases h4:isE v.n
  ·simp only[isE]at h4;simp only[go_sem,aa,ae,ah,h4,dz,Vj]
  simp only[isE]at h4;simp only[go_sem,aa,ae,ah,reduceCtorEq,h4,L8]
 simp only[go_sem,aa,Ho]
theorem Vo(l:List Pm):iq P A.ow [jn l] (.bool (yd l)):=by
 refine du A.mo A.Vb (by simp) ?_;show ko P (D6 A.rv A.s8) (lg _ _) _;unfold yd;by_cases h1:(20:Int)<l.length
 ·have h1':¬l.length≤20:=by omega
  simp only[D6,jn,go_sem,aa,reduceCtorEq,ag,h1,h1',dz]
 have h1':l.length≤20:=by omega
 simp only[D6,jn,go_sem,aa,reduceCtorEq,ag,h1,h1'];refine fh l.length (fun k s'=>s'.tmp 0= .d (.ft 2 (l.map tx))∧s'.tmp 3= .d (.int ab k)∧∀i,i<k→a7l l i=true) ?_ ?_
 ·simp[ak]
 rintro k s' hk ⟨e0,e3,ha⟩;by_cases hlt:(k:Int)<l.length
 ·have df:k<l.length:=by omega
  have hg:(l.map tx)[k]? =some [.str l[k].n,.int ab l[k].v]:=by simp[df,tx]
  have wk:=cu ((k:Int)+1) (by omega) (by omega)
  have hp:a7l l k=(xf l[k].n&&(Py l[k].v&&ui (l.map Pm.n) k)):=by unfold a7l;simp[df]
  simp only[go_sem,aa,ae,ah,reduceCtorEq,e0,e3,ag,hlt,bp,hg,aq];refine ff (ahj A _) ?_;cases q1:xf l[k].n
  ·simp only[go_sem,aa];rw[all_false df (by rw[hp,q1];rfl)]
  simp only[go_sem,aa,ae,reduceCtorEq,e0,e3,hg,aq,bp];refine ff (a3w A _) ?_;cases q2:Py l[k].v
  ·simp only[go_sem,aa];rw[all_false df (by rw[hp,q1,q2];rfl)]
  by_cases q3:(0:Int)<k
  ·have hg':(l.map tx)[k-1]? =some [.str l[k-1].n,.int ab l[k-1].v]:=by
    have:k-1<l.length:=by omega
    simp[this,tx]
   have w1:=cu ((k:Int)-1) (by omega) (by omega)
   have z:(0:Int)≤(k:Int)-1:=by omega
   have hr:ui (l.map Pm.n) k=strLt l[k-1].n l[k].n:=by
    unfold ui
    have h0:k≠0:=by omega
    have:k-1<l.length:=by omega
    simp[h0,this,df]
   cases q4:strLt l[k-1].n l[k].n
   ·have q4':=q4;unfold strLt at q4';simp only[go_sem,aa,ae,ah,reduceCtorEq,e0,e3,q3,w1,Is q3,hg',hg,z,bp,aq,q4'];rw[all_false df (by rw[hp,q1,q2,hr,q4];rfl)]
   have q4':=q4;unfold strLt at q4';simp only[go_sem,aa,ae,ah,reduceCtorEq,e0,e3,q3,w1,Is q3,hg',hg,z,bp,aq,q4',wk];exact⟨df,by simp,qf ha (by rw[hp,q1,q2,hr,q4];rfl)⟩
  simp only[go_sem,aa,reduceCtorEq,e0,e3,q3,wk];exact⟨df,by simp,qf ha (by rw[hp,q1,q2];unfold ui;simp;omega)⟩
 simp only[go_sem,aa,reduceCtorEq,e0,e3,ag,hlt];rw[all_true fun i hi=>ha i (by omega)]
end
theorem iq.w0{P:Program}{f sz:Nat}{asL:List D}{r:D}(h:iq P f (.ft sz []::asL) r):iq P f (.cq::asL) r:=by
 refine⟨h.1,fun G w vs hG hl hr=>h.2 G w vs hG hl fun i x v hx hv=>?_⟩
 cases i with
 |zero=>
  simp only[dm,aj]at hx;subst hx;exact Ku G v (hr 0 .cq v rfl hv)
 |succ i=>exact hr (i+1) x v hx hv
theorem iq.w1{P:Program}{f sz:Nat}{a:D}{asL:List D}{r:D}(h:iq P f (a:: .ft sz []::asL) r):iq P f (a:: .cq::asL) r:=by
 refine⟨h.1,fun G w vs hG hl hr=>h.2 G w vs hG hl fun i x v hx hv=>?_⟩
 match i with
 |0=>exact hr 0 x v hx hv
 |1=>
  simp only[gl,dm,aj]at hx;subst hx;exact Ku G v (hr 1 .cq v rfl hv)
 |i+2=>exact hr (i+2) x v hx hv
def af3(k:Nat):ByteArray:=[(⟨#[98,111,120]⟩:ByteArray),⟨#[112,114,105,115,109]⟩,⟨#[115,108,97,110,116]⟩,⟨#[112,121,114,97,109,105,100]⟩,⟨#[117,110,105,111,110]⟩,⟨#[105,110,116,101,114,115,101,99,116]⟩,⟨#[115,117,98,116,114,97,99,116]⟩,⟨#[99,108,105,112]⟩,⟨#[115,104,105,102,116]⟩,⟨#[115,121,109,109,101,116,114,121]⟩,⟨#[115,99,97,108,101]⟩,⟨#[115,117,109]⟩,⟨#[99,111,114,101]⟩,⟨#[114,101,112,101,97,116]⟩].getD k ⟨#[]⟩
def Ib(k:Nat):Int:=([6,2,4,4,0,0,0,4,3,1,2,6,6,4]:List Int).getD k 0
def kIn(k:Nat):Int:=([0,0,0,0,2,2,2,1,1,1,1,1,1,1]:List Int).getD k 0
def nh(s:ByteArray):List D:=[.str s]
def nr(l:List ByteArray):D:= .ft 1 (l.map nh)
def kf(a b:ByteArray):Bool:=a.toList==b.toList
def hasB(l:List ByteArray)(s:ByteArray):Bool:=l.any fun x=>kf x s
section
variable{P:Program}(A:Pr P)
theorem akr:iq P A.Cq [] (.ft 1 ((dn 14).map fun k=>[.str (af3 k)])):=by
 refine du A.mo A.a7x (by simp) ?_;show ko P Pc (lg _ _) _;simp only[Pc,go_sem,ae,ah,reduceCtorEq,dh];rfl
theorem anv{k:Nat}(h:k<14):((dn 14).map fun k=>[D.str (af3 k)])[k]? =some [.str (af3 k)]:=by
 rw[cw,M5 h];rfl
theorem ahk(k:Int):iq P A.B7 [.int ab k] (.str (if 0≤k∧k<14 then af3 k.toNat else⟨#[]⟩)):=by
 refine du A.mo A.Zu (by simp) ?_;show ko P (Ga A.Cq) (lg _ _) _;by_cases h1:k<0
 ·have h1':¬0≤k:=by omega
  simp only[Ga,go_sem,aa,reduceCtorEq,h1,h1',false_and]
 have h1':0≤k:=by omega
 simp only[Ga,go_sem,aa,reduceCtorEq,h1,h1'];refine Ao (akr A) ?_;by_cases h2:(14:Int)≤k
 ·have h2':¬k<14:=by omega
  simp only[Tc,a8n,ad9,ab3,Lj,adh,acd,Te,Zk,arn,ai4,ars,aep,Ym,Et,afx,aEb,ak,PS.ta,aa,gl,jv.og,lk.app,PS.put,lk.rz,aKx,O6,acv,a8k,a0z,Xt,ahs,Xv,aCb,or_true,reduceCtorEq,decide_true,ge_iff_le,dj,ee,eq_self,ag,aF5,h2,h2']
 have h2':k<14:=by omega
 simp only[ae7,Tc,a8n,ada,Lj,Te,Zk,ai4,ars,aep,arw,Ym,Et,afx,ak,PS.ta,aa,gl,jv.og,List.map,lk.app,PS.put,lk.rz,aKx,O6,acv,a8k,a0z,aCb,or_true,reduceCtorEq,decide_false,ge_iff_le,dj,ee,eq_self,ag,aF5,h2,h2'];refine Ao (akr A) ?_;simp only[ab3,Lj,acd,Te,arn,art,arq,Ym,afx,ak,aa,dm,gl,a3h,PS.put,Br,Jv,aL7,aL9,mkd,Xt,ahs,Xv,fj,and_self,ay,aJa,reduceCtorEq,dj,ee,eq_self,h1',anv (show k.toNat<14 by omega)]
theorem aik{k:Nat}(h:k<14):([[D.int ab 6],[D.int ab 2],[D.int ab 4],[D.int ab 4],[D.int ab 0],[D.int ab 0],[D.int ab 0],[D.int ab 4],[D.int ab 3],[D.int ab 1],[D.int ab 2],[D.int ab 6],[D.int ab 6],[D.int ab 4]]:List (List D))[k]? =some [.int ab (Ib k)]:=by
 match k,h with
 |0,_|1,_|2,_|3,_|4,_|5,_|6,_|7,_|8,_|9,_|10,_|11,_|12,_|13,_=>rfl
 |n+14,h=>omega
theorem aqr{k:Nat}(h:k<14):iq P A.Dm [.int ab k] (.int ab (Ib k)):=by
 refine du A.mo A.a5g (by simp) ?_;show ko P Nt (lg _ _) _
 have h':(k:Int)<14:=by omega
 simp only[Nt,go_sem,aa,ae,ah,reduceCtorEq,dh,bp,aq,h',aik h]
theorem axe{k:Nat}(h:k<14):([[D.int ab 0],[D.int ab 0],[D.int ab 0],[D.int ab 0],[D.int ab 2],[D.int ab 2],[D.int ab 2],[D.int ab 1],[D.int ab 1],[D.int ab 1],[D.int ab 1],[D.int ab 1],[D.int ab 1],[D.int ab 1]]:List (List D))[k]? =some [.int ab (kIn k)]:=by
 match k,h with
 |0,_|1,_|2,_|3,_|4,_|5,_|6,_|7,_|8,_|9,_|10,_|11,_|12,_|13,_=>rfl
 |n+14,h=>omega
theorem adz{k:Nat}(h:k<14):iq P A.Dl [.int ab k] (.int ab (kIn k)):=by
 refine du A.mo A.a5f (by simp) ?_;show ko P Ns (lg _ _) _
 have h':(k:Int)<14:=by omega
 simp only[Ns,go_sem,aa,ae,ah,reduceCtorEq,dh,bp,aq,h',axe h]
end
def vz(l:List Sp):D:= .ft 2 (l.map Bs)
def lj(ls:List (List Sp)):D:= .ft 1 (ls.map fun l=>[vz l])
def D5(e:Sp×Sp):List D:=[.int ab e.1.1,.int ab e.1.2,.int ab e.2.1,.int ab e.2.2]
def R4(l:List (Sp×Sp)):D:= .ft 4 (l.map D5)
def An(l:List Sp)(k:Nat):Sp×Sp:=(l.getD k (0,0),l.getD ((k+1)%l.length) (0,0))
def ja(l:List Sp):List (Sp×Sp):=(dn l.length).map (An l)
def gr(ls:List (List Sp)):List (Sp×Sp):=ls.flatMap ja
theorem vn(l:List Sp):(ja l).length=l.length:=by simp[ja]
theorem O1{l:List Sp}{k:Nat}(h:k<l.length):(ja l).take (k+1)=(ja l).take k++[An l k]:=by
 rw[fm,ja];simp[h]
theorem Wy{ls:List (List Sp)}{i:Nat}(h:i<ls.length):gr (ls.take (i+1))=gr (ls.take i)++ja ls[i]:=by
 unfold gr;rw[fm,a1j];simp[h]
theorem Lf{ls:List (List Sp)}{i k:Nat}(h:i<ls.length)(hk:k≤ls[i].length):(gr (ls.take i)++(ja ls[i]).take k).length≤(gr ls).length:=by
 have e:gr ls=gr (ls.take (i+1))++gr (ls.drop (i+1)):=by
  unfold gr;rw[←a1j,Gv]
 rw[e,Wy h];simp only[db,dw];omega
theorem Z8{k n:Nat}:((k:Int)+1).tmod n=(((k+1)%n:Nat):Int):=by
 rw[aCa (by omega)];exact(Int.natCast_emod (k+1) n).symm
theorem D8{l:List Sp}{k:Nat}(h:k<l.length):(l.map Bs)[k]? =some [.int ab (l.getD k (0,0)).1,.int ab (l.getD k (0,0)).2]:=by
 simp[h,Bs,cd]
theorem Fc{ls:List (List Sp)}{i:Nat}(h:i<ls.length):(ls.map fun l=>[vz l])[i]? =some [.ft 2 (ls[i].map Bs)]:=by
 simp[h,vz]
section
variable{P:Program}(A:Pr P)
theorem aw8(ls:List (List Sp))(h1:ls.length≤2^30)(h2:(gr ls).length≤2^30):iq P A.Cr [lj ls] (R4 (gr ls)):=by
 have main:iq P A.Cr [lj ls] (if(gr ls).map D5=[]then .cq else .ft 4 ((gr ls).map D5)):=by
  refine du A.mo A.a86 (by simp) ?_;show ko P Ph (lg _ _) _;simp only[Ph,lj,go_sem];refine fh ls.length (fun i s'=>s'.tmp 0= .d (.ft 1 (ls.map fun l=>[vz l]))∧s'.tmp 4= .d (.int ab i)∧s'.base=0∧se s' 45 4 ((gr (ls.take i)).map D5) (s'.tmp 3)) ?_ ?_
  ·refine⟨by simp[ak],by simp[ak],rfl,?_⟩;simp only[ak,reduceIte,aa];exact se.nil
  rintro i s' hi ⟨e0,e4,eb,acc⟩;by_cases hlt:(i:Int)<ls.length
  ·have df:i<ls.length:=by omega
   have wi:=cu ((i:Int)+1) (by omega) (by omega);have hgi:=Fc df;simp only[go_sem,aa,reduceCtorEq,e0,e4,ag,hlt];refine fh ls[i].length (fun k s'=>s'.tmp 0= .d (.ft 1 (ls.map fun l=>[vz l]))∧s'.tmp 4= .d (.int ab i)∧s'.tmp 5= .d (.int ab k)∧s'.base=0∧se s' 45 4 ((gr (ls.take i)++(ja ls[i]).take k).map D5) (s'.tmp 3)) ?_ ?_
   ·refine⟨by simp[ak,e0],by simp[ak,e4],by simp[ak],eb,?_⟩;simp only[ak,reduceIte,aa,alz,y0];exact acc.mono rfl rfl
   rintro k s' hk ⟨e0,e4,e5,eb,acc⟩;by_cases Gt:(k:Int)<ls[i].length
   ·have qg:k<ls[i].length:=by omega
    have hle:=Lf df (aKi qg)
    have hl1:ls[i].length≤2^30:=by
     have:=Lf df (ay ls[i].length);simp only[db,dw,vn]at this;omega
    have wk:=cu ((k:Int)+1) (by omega) (by omega);have hm:(k+1)%ls[i].length<ls[i].length:=a73 _ (by omega)
    have hm':(((k+1)%ls[i].length:Nat):Int)<ls[i].length:=by omega
    have hne:¬((ls[i].length:Nat):Int)=0:=by omega
    simp only[go_sem,aa,ae,ah,reduceCtorEq,dh,e0,e4,e5,ag,Gt,bp,aq,hgi,D8 qg,D8 hm,wk,Z8,hne];refine s5 (dd:=(gr (ls.take i)++(ja ls[i]).take k).map D5) (ys:=[D5 (An ls[i] k)]) (osz:=some 4) ?_ ?_ rfl (by simp[D5,D.one]) ?_ (by simp) ?_
    ·simp only[go_sem,aa,eb];exact acc.mono (by simp[ak]) (by simp[ak])
    ·simp only[go_sem,aa,eb,qm];rfl
    ·simp only[ag,ca,ed];omega
    intro s2 g;simp only[go_sem,aa,reduceCtorEq,g.tmp,e5,wk];refine⟨qg,by simp[e0],by simp[e4],by simp,by rw[g.base];exact eb,?_⟩;have ha:=g.acc (by simp);rw[g.tmp,ck]at ha;rw[O1 qg,←oq];simp only[eb,fj,fu,gf,ni]at ha⊢;exact ha.mono rfl rfl
   have hke:k=ls[i].length:=by omega
   simp only[go_sem,aa,reduceCtorEq,e0,e4,e5,ag,Gt,bp,aq,hgi,wi];refine⟨df,by simp,eb,?_⟩;rw[Wy df];rw[hke,tz (l:=ja ls[i]) (by rw[vn];exact ay _)]at acc;exact acc.mono rfl rfl
  simp only[go_sem,aa,reduceCtorEq,e0,e4,ag,hlt]
  have:i=ls.length:=by omega
  subst this;rw[dt]at acc;rcases acc with ⟨a1,a2⟩|⟨a1,a2,a3⟩
  ·simp only[go_sem,a1,a2]
  have he:PS.dd s' 45 (s'.av 45)=some (4,(gr ls).map D5):=by unfold PS.dd;rw[bm rfl,a3]
  rw[al a1,a2];simp only[a3,dj]
 refine main.M7 fun G v hv=>?_;split at hv
 ·rename_i he;unfold R4;rw[he];exact Ku G v hv
 exact hv
end
end Go.PI
