/- A part of the proof for HistoryBack: PS25 to F4. Printed from longer texts. -/
import Derived.Test.YtcpkpdmejlfemaaGreatDoorB
import Derived.Scope
import Derived.Deep.LoopGhost
set_option linter.all false
set_option maxHeartbeats 64000000
open Array renaming all_eq_true_iff_forall_mem→al8,getD_eq_getD_getElem?→jo,getElem?_append_left→yc,getElem?_eq_getElem→av,getElem?_replicate→aB2,mapM_eq_mapM_toList→a6f,replicate→ag7
open Bool renaming and_eq_false_iff→al7,and_eq_true→cd,and_false→o9,and_self→aFb,and_true→F9,false_and→cz,false_eq_true→ec,false_or→Mz,not_eq_true'→wg,not_false→Ji,not_true→aAt,or_eq_false_iff→P6,or_eq_true→Zk,or_false→Sq,true_and→qu,true_or→Jh
open Eq renaming refl→dz,trans→db
open Go.Code renaming region→aG8
open Go.Ending renaming returned→aEy
open Go.Instr renaming loadAt→aG1,sureAddr→axu
open Go.Op renaming bytesLess→ahr
open Go.Region renaming binds→aFc,ready→ahp
open Go.Result renaming andThen_ok→aw
open Go.Sem renaming run_bind→ba,run_map→aGf,run_pure→dc
open Int renaming cast_ofNat_Int→axt,natCast_nonneg→aj,natCast_zero→Yo,reduceLE→df,reduceLT→bx,reduceNeg→bc,reduceToNat→da
open List renaming all_cons→Sl,all_eq_false→Zj,all_eq_true→ck,all_nil→aEw,append_nil→th,cons_append→vp,contains_eq_mem→aEv,drop→aGs,drop_zero→a9a,eq_nil_of_length_eq_zero→jb,filter_append→axq,filter_cons→a69,filter_eq_self→acw,flatMap_cons→aAz,flatten_cons→aq1,flatten_nil→aE1,getD→bn,getD_cons_zero→av1,getD_eq_getElem?_getD→yb,getElem?_cons_succ→jx,getElem?_cons_zero→ff,getElem?_eq_getElem→ao,getElem?_eq_none→a2z,getElem?_eq_some_iff→aq,getElem?_map→bp,getElem_mem→bz,length→Cq,length_cons→bq,length_map→ae,length_nil→dh,length_pos_iff→acv,map→aGz,map_append→fb,map_cons→cu,map_nil→ez,mem_append→oo,mem_append_left→a68,mem_append_right→a2y,mem_cons→dn,mem_cons_of_mem→aq7,mem_filter→Kp,mem_flatMap→M9,mem_iff_getElem→fj,mem_map→jc,mem_of_getElem?→lx,mem_range→du,mem_singleton→Ua,nil_append→An,pairwise_append→aq5,pairwise_cons→M8,range→cq,size_toArray→T5,take→aGu,take_succ_cons→aF2,take_zero→F8
open Nat renaming add_left_cancel_iff→dw,add_zero→xu,le_refl→ar,le_trans→gn,mul_le_mul→aFd,reduceAdd→ab,reduceEqDiff→aa,reduceLeDiff→ag,reduceMul→de,zero_add→eh,zero_le→aFr,zero_mul→aht
open Option renaming bind_eq_some_iff→acy,getD_some→j3,map→aGm,map_eq_some_iff→ak,map_some→gz,toList_some→ahq
open Option.some renaming injEq→ah
open Prod.mk renaming injEq→ay
namespace Go.PI
open Go Go.RowKit
section
variable{P:Program}{B0 nt:Nat}{w0 w w':World}{G0 G G':fc}{s s' s1 s2:PS}{E E':Env}{a:Act}
def left(n:Nat)(A:Array Bool):List Nat:=(cq n).filter fun i=> !A.getD i true
theorem mem_left{n i:Nat}{A:Array Bool}:i∈left n A↔i<n∧A.getD i true=false:=by simp[left]
theorem Mk(n:Nat)(A:Array Bool):(left n A).Pairwise (· < ·):=List.Pairwise.filter _ List.pairwise_lt_range
theorem anv{n i:Nat}{A:Array Bool}(hi:i<A.size){pre post:List Nat}(h:left n A=pre++i::post):left n (A.setIfInBounds i true)=pre++post:=by
 have e:left n (A.setIfInBounds i true)=(left n A).filter (fun j=>j !=i):=by
  unfold left;rw[List.filter_filter]
  congr 1
  funext j
  rw[abl];by_cases hj:j=i
  ·subst hj;simp[hi]
  ·simp[hj]
 have hs:=Mk n A;rw[h,aq5,M8]at hs;obtain⟨_,⟨h1,_⟩,h2⟩:=hs;rw[e,h,axq,a69]
 have e1:pre.filter (fun j=>j !=i)=pre:=acw.2 fun j hj=>by have:=h2 j hj i (by simp);simp;omega
 have e2:post.filter (fun j=>j !=i)=post:=acw.2 fun j hj=>by have:=h1 j hj;simp;omega
 simp[e1,e2]
def apz(l:List RI)(A:Array Bool):Prop:=∀i o,A.getD i false=true→l[i]? =some o→∀j∈o.after,A.getD j false=true
theorem a90{l:List RI}{A:Array Bool}(hc:apz l A):∀(n i:Nat),(∀o,l[i]? =some o→∀j∈o.after,A.getD j false=true)→∀k∈ahead l n i,A.getD k false=true:=by
 intro n
 induction n with
 |zero=>intro i _ k hk;simp[ahead]at hk
 |succ n ih=>
  intro i hi k hk;simp only[ahead]at hk;split at hk
  ·rename_i o ho
   rcases oo.1 hk with hk|hk
   ·exact hi o ho k hk
   ·obtain⟨j,hj,hk⟩:=M9.1 hk
    exact ih j (fun o' ho'=>hc j o' (hi o ho j hj) ho') k hk
  ·cases hk
theorem af9{l:List RI}(h:U2 l=true):∀o∈l,o.isR=false:=by
 unfold U2 at h;simp only[cd]at h;intro o ho;have:=ck.1 h.1 o ho;simpa using this
theorem R9{l:List RI}(h:U2 l=true){i:Nat}{o:RI}(hi:l[i]? =some o):(∀j∈o.after,j<i)∧∀k x,k<i→l[k]? =some x→(x.a8l o=true∨k∈ahead l l.length i)∧x.far o=true:=by
 have hil:=(aq.1 hi).1;unfold U2 at h;rw[cd]at h;have h:=h.2;rw[ck]at h;have:=h i (du.2 hil);simp only[hi,cd,ck,du,decide_eq_true_eq]at this;obtain⟨h1,h2⟩:=this
 refine⟨h1,fun k x hk hx=>?_⟩
 obtain⟨h3,h4⟩:=h2 k hk;simp only[an2,hx,hi,Zk,List.contains_iff_mem]at h3;simp only[bn,hx,hi,j3]at h4;exact⟨h3,h4⟩
theorem al2{an:Ann}{ops:Array Oper}{l:List RI}(hal:Aligned P nt an ops l)(hdr:U2 l=true){Q:Exit→Act→World→Prop}{send:PS}(hQ:∀a w,J6 B0 nt w0 G0 (· =send) a w→Q .normal a w):
  ∀(fuel:Nat) (A:Array Bool) {s:PS} {G:fc} {E:Env} {a:Act} {w:World},A.size=ops.size→apz l A→(left l.length A).length≤fuel→i6 B0 w0 nt G0 s G E a w→
  Inv s ((left l.length A).map fun i=>l.getD i default)→a61 P ((left l.length A).map fun i=>l.getD i default) s send→wpAny P .any ops Q fuel A a w:=by
 have hlen:=hal.1
 have get:∀i,i<l.length→l[i]? =some (l.getD i default):=fun i hi=>by simp[bn,hi]
 have Pl:∀i,i<l.length→∃o,ops[i]? =some o∧Fits P nt an ops o (l.getD i default):=fun i hi=>by
  have h1:i<ops.size:=by omega
  exact⟨ops[i],av h1,hal.2 i _ _ (av h1) (get i hi)⟩
 have rdy:∀(A:Array Bool) i,i∈ahp .any ops A↔i<l.length∧A.getD i true=false∧∀j∈(l.getD i default).after,A.getD j false=true:=by
  intro A i;unfold ahp;simp only[Kp,du,cd,wg];rw[←hlen];constructor
  ·rintro⟨hi,h1,h2⟩
   obtain⟨o,ho,hf⟩:=Pl i hi
   refine⟨hi,h1,fun j hj=>?_⟩
   rw[ho]at h2;simp only[gz,j3,al8,Zk,wg]at h2;rw[hf.spec.2.2.2]at hj;obtain⟨e,he,rfl⟩:=jc.1 hj;obtain⟨he1,he2⟩:=Kp.1 he
   rcases h2 e (by simpa using he1)with h3|h3
   ·rw[h3]at he2;cases he2
   ·exact h3
  ·rintro⟨hi,h1,h2⟩
   obtain⟨o,ho,hf⟩:=Pl i hi;refine⟨hi,h1,?_⟩;rw[ho];simp only[gz,j3,al8,Zk,wg];intro e he;by_cases hb:aFc .any e=true
   ·exact .inr (h2 e.on (by rw[hf.spec.2.2.2];exact jc.2 ⟨e,Kp.2 ⟨by simpa using he,hb⟩,rfl⟩))
   ·exact .inl (by simpa using hb)
 have hpw:∀A:Array Bool,((left l.length A).map fun i=>l.getD i default).Pairwise Far:=by
  intro A;rw[List.pairwise_map]
  refine(Mk l.length A).imp_of_mem fun{k i} hk hi iy=>?_
  have h1:=(mem_left.1 hk).1;have h2:=(mem_left.1 hi).1;have:=((R9 hdr (get i h2)).2 k _ iy (get k h1)).2;unfold RI.far at this;simp only[cd,ck,wg,aEv,decide_eq_false_iff_not,Zk,List.isEmpty_iff]at this
  exact⟨this.1,fun he=>this.2.resolve_left (by rw[he];simp)⟩
 have none:∀A:Array Bool,A.size=ops.size→ahp .any ops A=[]→left l.length A=[]:=by
  intro A hA hr
  cases hL:left l.length A with
  |nil=>rfl
  |cons i r=>
   exfalso
   have hi:=(mem_left (n:=l.length) (A:=A) (i:=i)).1 (by rw[hL];simp)
   have:i∈ahp .any ops A:=(rdy A i).2 ⟨hi.1,hi.2,fun j hj=>by
    have hji:=(R9 hdr (get i hi.1)).1 j hj
    have aC0:j∉left l.length A:=by
     rw[hL];intro hjm;have hs:=Mk l.length A;rw[hL,M8]at hs;rcases dn.1 hjm with rfl|hjm
     ·omega
     ·have:=hs.1 j hjm;omega
    have:A.getD j true≠false:=fun h=>aC0 (mem_left.2 ⟨by omega,h⟩)
    rw[abn (by omega) false true]
    simpa using this⟩
   rw[hr]at this;cases this
 intro fuel
 induction fuel with
 |zero=>
  intro A s G E a w hA hcl hf h hinv hc
  have hL:left l.length A=[]:=jb (by omega)
  have hr:ahp .any ops A=[]:=by
   apply List.eq_nil_iff_forall_not_mem.2;intro i hi;obtain⟨h1,h2,_⟩:=(rdy A i).1 hi;have:i∈left l.length A:=mem_left.2 ⟨h1,h2⟩;rw[hL]at this;cases this
  rw[hL]at hc;exact⟨hr,hQ _ _ ⟨s,G,E,hc,h⟩⟩
 |succ fuel ih=>
  intro A s G E a w hA hcl hf h hinv hc
  refine⟨fun hr=>?_,fun i hi=>?_⟩
  ·rw[none A hA hr]at hc
   exact hQ _ _ ⟨s,G,E,hc,h⟩
  ·obtain⟨h1,h2,h3⟩:=(rdy A i).1 hi
   obtain⟨pre,post,hL⟩:=List.append_of_mem (mem_left.2 ⟨h1,h2⟩);obtain⟨o,ho,hfi⟩:=Pl i h1;have hs:=Mk l.length A;rw[hL,aq5]at hs
   have ayx:∀k∈pre,k<i∧k<l.length∧A.getD k true=false:=fun k hk=>by
    have hm:=(mem_left (n:=l.length) (A:=A) (i:=k)).1 (by rw[hL];simp[hk])
    exact⟨hs.2.2 k hk i (by simp),hm.1,hm.2⟩
   have hap:∀x∈pre.map (fun i=>l.getD i default),aho x (l.getD i default):=by
    intro x hx;obtain⟨k,hk,rfl⟩:=jc.1 hx;obtain⟨k1,k2,k3⟩:=ayx k hk;rcases((R9 hdr (get i h1)).2 k _ k1 (get k k2)).1 with azg|hah
    ·exact RI.a8k azg
    ·exfalso
     have:=a90 hcl l.length i (fun o' ho' j hj=>by
      rw[get i h1]at ho'
      injection ho' with ho'
      subst ho'
      exact h3 j hj) k hah
     rw[abn (by omega) false true,k3]at this
     cases this
   have asx:=hpw A;rw[hL,fb,cu]at hinv hc asx
   obtain⟨s1,tc,hc1⟩:=ax7 (an:=an) (ops:=ops) hfi.azk (pre.map fun i=>l.getD i default) h (fun x hx=>by
    obtain⟨k,hk,rfl⟩:=jc.1 hx;obtain⟨o',_,hf'⟩:=Pl k (ayx k hk).2.1
    exact⟨o',hf'⟩) hap hinv asx hc
   refine alh h hfi ho tc ?_;rintro a' w' ⟨s',G',E',rfl,h'⟩
   have hL':=anv (by omega) hL
   refine ih _ (by simpa using hA) ?_ (by rw[hL'];rw[hL]at hf;simp at hf⊢;omega) h' ?_ ?_
   ·intro j oj hj hoj m hm
    rw[abl]at hj⊢;split
    ·rfl
    ·by_cases hji:j=i
     ·subst hji
      rw[get j h1]at hoj
      injection hoj with hoj
      subst hoj;exact h3 m hm
     ·rw[if_neg (by simp[hji])]at hj
      exact hcl j oj hj hoj m hm
   ·rw[hL',fb]
    rw[aq5,M8]at asx
    refine ab4 tc (fun x hx=>hinv x ?_) (fun x hx=>?_)
    ·rcases oo.1 hx with hx|hx
     ·exact a68 _ hx
     ·exact a2y _ (aq7 _ hx)
    ·rcases oo.1 hx with hx|hx
     ·exact⟨(hap x hx).aCr,(hap x hx).azs⟩
     ·exact asx.2.1.1 x hx
   ·rw[hL',fb]
    exact hc1
theorem af8{an:Ann}{ops:Array Oper}{l:List RI}(hal:Aligned P nt an ops l)(hdr:U2 l=true)(hm:P.follows .mixedOrders=true){Q:Exit→Act→World→Prop}{K:PS→Prop}(h:i6 B0 w0 nt G0 s G E a w)
  (hd:∀d∈nw l,I8 s (s.base+d))(hr:jn P l s K)(hQ:∀a w,J6 B0 nt w0 G0 K a w→Q .normal a w){id:Nat}:(aG8 id ops true).wp P Q a w:=by
 obtain⟨send,hc,hK⟩:=adv (af9 hdr) hr
 have hL:left l.length (ag7 ops.size false)=cq l.length:=by
  unfold left
  refine acw.2 fun i hi=>?_
  have:=du.1 hi
  rw[jo,aB2,if_pos (by rw[←hal.1];exact this)]
  rfl
 refine wp_region_any hm (al2 hal hdr (send:=send) (fun a w ⟨s',G',E',hs,h'⟩=>hQ a w ⟨s',G',E',hs▸hK,h'⟩) _ _ (by simp) ?_ ?_ (w:={w with drawn:=w.drawn+1}) (s:=s) (G:=G) (E:=E) ?_ ?_ ?_)
 ·intro i o hi _
  rw[jo,aB2]at hi;split at hi<;>cases hi
 ·rw[hL];simp[hal.1]
 ·exact h.drew
 ·rw[hL,Nw]
  exact fun o ho d hdd=>hd d (M9.2 ⟨o,ho,hdd⟩)
 ·rw[hL,Nw];exact hc
end
section
variable{P:Program}{B0 nt:Nat}{w0 w w':World}{G0 G G':fc}{s s' s1 s2:PS}{E E':Env}{a:Act}
theorem R1(ids:List Nat)(s:PS):(s.rb ids).base=s.base:=by
 cases ids with
 |nil=>rfl
 |cons i r=>exact(Fg (i::r) _).1
theorem a0h{f:Nat}{args:List V}{caps:List D}{own:Bool}{d:Option Nat}{K K':PS→Prop}(hk:∀s,K s→K' s)(h:Dd P f args caps own d s K):Dd P f args caps own d s K':=by
 obtain⟨ds,r,h1,h2,h3,h4⟩:=h;exact⟨ds,r,h1,h2,h3,hk _ h4⟩
theorem a0e{o:RI}{K K':PS→Prop}(hk:∀s,K s→K' s)(h:Ev P o s K):Ev P o s K':=by
 unfold Ev at h⊢;split
 ·rename_i ho
  rw[ho]at h;obtain⟨id,s',h1,h2⟩:=h;exact⟨id,s',h1,hk _ h2⟩
 ·rename_i f args ho
  rw[ho]at h;obtain⟨R,h1,h2⟩:=h
  exact⟨R,h1,fun m' r hr=>hk _ (h2 m' r hr)⟩
 ·rename_i f args ho
  rw[ho]at h;simp only at h⊢;split
  ·rename_i g caps hs
   rw[hs]at h;obtain⟨R,h1,h2⟩:=h
   exact⟨R,h1,fun m' r hr=>hk _ (h2 m' r hr)⟩
  ·rename_i C4
   split at h
   ·rename_i g caps hs;exact absurd hs (C4 g caps)
   ·exact h
 ·rename_i f args ho
  rw[ho]at h;obtain⟨m',r,h1,h2⟩:=h;exact⟨m',r,h1,hk _ h2⟩
 ·rename_i f args ho
  rw[ho]at h;obtain⟨r,h1,h2⟩:=h;exact⟨r,h1,hk _ h2⟩
 ·rename_i f args ho
  rw[ho]at h;simp only at h⊢;split
  ·rename_i g caps hs
   rw[hs]at h;obtain⟨m',r,h1,h2⟩:=h;exact⟨m',r,h1,hk _ h2⟩
  ·rename_i C4
   split at h
   ·rename_i g caps hs;exact absurd hs (C4 g caps)
   ·exact h
 ·rename_i f args ho
  rw[ho]at h;exact a0h hk h
 ·rename_i f args ho
  rw[ho]at h;simp only at h⊢;split
  ·rename_i g caps hs
   rw[hs]at h;exact a0h hk h
  ·rename_i C4
   split at h
   ·rename_i g caps hs;exact absurd hs (C4 g caps)
   ·exact h
 ·rename_i h0 h1 h2 h3 h4 h5 h6 h7
  split at h
  ·rename_i ho;exact absurd ho (h0 _ _ _ _ _ _ _)
  ·rename_i f args ho;exact absurd ho (h1 f args)
  ·rename_i f args ho;exact absurd ho (h2 f args)
  ·rename_i f args ho;exact absurd ho (h3 f args)
  ·rename_i f args ho;exact absurd ho (h4 f args)
  ·rename_i f args ho;exact absurd ho (h5 f args)
  ·rename_i f args ho;exact absurd ho (h6 f args)
  ·rename_i f args ho;exact absurd ho (h7 f args)
  ·split at h
   ·exact hk _ h
   ·exact h.elim
theorem a52:∀{l:List RI} {s:PS} {K K':PS→Prop},(∀s,K s→K' s)→jn P l s K→jn P l s K':=by
 intro l
 induction l with
 |nil=>intro s K K' hk h;exact hk s h
 |cons o r ih=>
  intro s K K' hk h;rw[zc]at h⊢;split
  ·rename_i hw;rw[hw]at h;exact a0e (fun s=>ih hk) h
  ·rename_i hw;rw[hw]at h;exact ih hk h
  ·rename_i hw;rw[hw]at h;exact h
theorem Dn:∀{c:cn} {s:PS} {Q Q':Exit→PS→Prop},(∀e s,Q e s→Q' e s)→jd P c Q s→jd P c Q' s:=by
 intro c
 induction c with
 |skip=>intro s Q Q' hq h;exact hq _ _ h
 |region ops d fz=>intro s Q Q' hq h;exact a52 (hq .normal) h
 |seq x y ihx ihy=>
  intro s Q Q' hq h
  exact ihx (fun e s' h'=>by cases e<;>first|exact ihy hq h'|exact hq _ _ h') h
 |cond c x y ihx ihy=>
  intro s Q Q' hq h;simp only[jd]at h⊢;split at h
  ·split at h
   ·rename_i hx;simp only[hx,if_true];exact ihx hq h
   ·rename_i hx;simp only[hx,ec,if_false];exact ihy hq h
  ·exact h.elim
 |block id c ih=>
  intro s Q Q' hq h
  refine ih (fun e s' h'=>?_) h
  cases e with
  |exit i=>
   simp only at h'⊢;split
   ·rename_i hi;rw[if_pos hi]at h';exact hq _ _ h'
   ·rename_i hi;rw[if_neg hi]at h';exact hq _ _ h'
  |_=>exact hq _ _ h'
 |loop c ih=>
  intro s Q Q' hq h;obtain⟨I,m,h0,h1⟩:=h
  exact⟨I,m,h0,fun s' hI=>ih (fun e s'' h'=>by cases e<;>first|exact h'|exact hq _ _ h') (h1 s' hI)⟩
 |freeze=>intro s Q Q' hq h;obtain⟨ids,h⟩:=h;exact⟨ids,hq _ _ h⟩
 |both x y ihx ihy=>intro s Q Q' hq h;exact⟨ihx hq h.1,ihy hq h.2⟩
 |exit id=>intro s Q Q' hq h;exact hq _ _ h
 |ret=>intro s Q Q' hq h;exact hq _ _ h
def apx(Q:Exit→PS→Prop):Exit→PS→Prop
 | .goto _,_=>False
 |e,s=>Q e s
theorem adt:∀{c:cn} {s:PS} {Q:Exit→PS→Prop},jd P c Q s→jd P c (apx Q) s:=by
 intro c
 induction c with
 |skip=>intro s Q h;exact h
 |region ops d fz=>intro s Q h;exact h
 |seq x y ihx ihy=>
  intro s Q h;rw[Zl]
  refine Dn (fun e s' h'=>?_) (ihx h)
  cases e<;>first|exact h'.elim|exact ihy h'|exact h'
 |cond c x y ihx ihy=>
  intro s Q h;simp only[jd]at h⊢;split at h
  ·split at h
   ·rename_i hx;simp only[hx,if_true];exact ihx h
   ·rename_i hx;simp only[hx,ec,if_false];exact ihy h
  ·exact h.elim
 |block id c ih=>
  intro s Q h;rw[Wb]
  refine Dn (fun e s' h'=>?_) (ih h)
  cases e with
  |exit i=>
   simp only[apx]at h'⊢;split
   ·rename_i hi;rw[if_pos hi]at h';exact h'
   ·rename_i hi;rw[if_neg hi]at h';exact h'
  |goto l=>exact h'.elim
  |_=>exact h'
 |loop c ih=>
  intro s Q h;obtain⟨I,m,h0,h1⟩:=h
  refine⟨I,m,h0,fun s' hI=>Dn (fun e s'' h'=>?_) (ih (h1 s' hI))⟩
  cases e<;>first|exact h'.elim|exact h'
 |freeze=>intro s Q h;exact h
 |both x y ihx ihy=>intro s Q h;exact⟨ihx h.1,ihy h.2⟩
 |exit id=>intro s Q h;exact h
 |ret=>intro s Q h;exact h
theorem a7b(hm:P.follows .mixedOrders=true){an:Ann}{id:Nat}{ops:Array Oper}{draw:Bool}{rc:cn}(hc:a8p P nt an id ops draw=some rc){Q:Exit→PS→Prop}(h:i6 B0 w0 nt G0 s G E a w)(hr:jd P rc Q s):
  (aG8 id ops draw).wp P (fun e a w=>J6 B0 nt w0 G0 (Q e) a w) a w:=by
 unfold a8p at hc;split at hc
 ·rename_i hd
  split at hc
  ·rename_i l hl
   injection hc with hc
   subst hc hd;obtain⟨G1,_,h1⟩:=h.rb (sh s.base ((an.rb.lookup id).getD []))
   exact a7f hl h1 hr (fun _ _ hh=>hh)
  ·cases hc
 ·rename_i hd
  split at hc
  ·rename_i l hl
   split at hc
   ·rename_i hdr
    injection hc with hc
    subst hc
    have hd':draw=true:=by simpa using hd
    subst hd';obtain⟨G1,_,h1⟩:=h.rb (sh s.base ((an.rb.lookup id).getD []));obtain⟨G2,_,h2,_⟩:=h1.sn (sh s.base (nw (l.map (RI.aey l))))
    exact af8 (a8z hl) hdr hm h2 (fun d hd=>by
     rw[Rb]
     have hb:PS.base ((s.rb (sh s.base ((an.rb.lookup id).getD []))).sn (sh s.base (nw (l.map (RI.aey l)))))=s.base:=by
      rw[(Fg _ _).1,R1]
     rw[hb];obtain⟨k1,k2⟩:=amy _ (s.rb (sh s.base ((an.rb.lookup id).getD []))) (s.base+d) (.inl (jc.2 ⟨d,hd,rfl⟩))
     exact⟨.inl k1,k2⟩) hr (fun _ _ hh=>hh)
   ·cases hc
  ·cases hc
theorem aku:∀{L:List cn} {Q:Exit→PS→Prop} {s:PS},jd P (apj L) Q s→∀x∈L,jd P x Q s:=by
 intro L
 induction L with
 |nil=>intro Q s _ x hx;simp at hx
 |cons y r ih=>
  intro Q s h x hx
  cases r with
  |nil=>simp only[Ua]at hx;subst hx;exact h
  |cons z t=>
   rcases dn.1 hx with rfl|hx
   ·exact h.1
   ·exact ih h.2 x hx
theorem ad3{an:Ann}{ops:Array Oper}{l:List RI}(hal:Aligned P nt an ops l){Q:Exit→PS→Prop}:
  ∀(fuel:Nat) (A:Array Bool) {rc:cn} {s:PS} {G:fc} {E:Env} {a:Act} {w:World},acn ops l fuel A=some rc→i6 B0 w0 nt G0 s G E a w→jd P rc Q s→wpAny P .any ops (fun e a w=>J6 B0 nt w0 G0 (Q e) a w) fuel A a w:=by
 intro fuel
 induction fuel with
 |zero=>
  intro A rc s G E a w hc h hr;simp only[acn]at hc;split at hc
  ·rename_i he
   injection hc with hc
   subst hc;exact⟨he,s,G,E,hr,h⟩
  ·cases hc
 |succ n ih=>
  intro A rc s G E a w hc h hr;simp only[acn]at hc;split at hc
  ·rename_i he
   injection hc with hc
   subst hc
   refine⟨fun _=>⟨s,G,E,hr,h⟩,fun i hi=>?_⟩
   rw[he]at hi;simp at hi
  ·rename_i he
   simp only[ak]at hc;obtain⟨L,hL,rfl⟩:=hc;obtain⟨k1,k2⟩:=Ux hL
   refine⟨fun h0=>absurd h0 he,fun i hi=>?_⟩
   obtain⟨p,hp,hpi⟩:=fj.1 hi
   have hpL:p<L.length:=by simpa[k1]using hp
   have hk:=k2 p L[p] (ao hpL);rw[bp,ao hp,hpi]at hk;simp only[gz,ah,ak]at hk;obtain⟨t,ht,hLp⟩:=hk;have hr1:=aku hr L[p] (bz _);rw[←hLp,Zl]at hr1
   have iy:i<ops.size:=by
    unfold ahp at hi;simp only[Kp,du]at hi;exact hi.1
   have hil:i<l.length:=by rw[hal.1];exact iy
   have hg:l.getD i default=l[i]:=by simp[bn,hil]
   have hf:=hal.2 i ops[i] l[i] (av iy) (ao hil)
   have hr2:jn P [l[i]] s (fun s'=>jd P t Q s'):=by rw[←hg];exact hr1
   rw[zc]at hr2;unfold wpOp;rw[av iy];simp only
   have rest:∀a w,J6 B0 nt w0 G0 (fun s'=>jd P t Q s') a w→wpAny P .any ops (fun e a w=>J6 B0 nt w0 G0 (Q e) a w) n (A.setIfInBounds i true) a w:=by
    rintro a' w' ⟨s',G',E',hK,h'⟩;exact ih _ ht h' hK
   split at hr2
   ·rename_i hw
    rw[Ap h hf hw];exact .inl (Qj h hf hr2 rest)
   ·rename_i hw
    rw[Ap h hf hw];obtain⟨hd,hd2,_⟩:=hf.spec;refine rest _ _ ⟨_,G,E,hr2,?_⟩;rw[hd];exact h.a3f hd2 O7
   ·exact hr2.elim
theorem aje(hm:P.follows .mixedOrders=true){an:Ann}{id:Nat}{ops:Array Oper}{rc:cn}(hc:ax4 P nt an ops=some rc){Q:Exit→PS→Prop}(h:i6 B0 w0 nt G0 s G E a w)(hr:jd P rc Q s):
  (aG8 id ops true).wp P (fun e a w=>J6 B0 nt w0 G0 (Q e) a w) a w:=by
 unfold ax4 at hc;split at hc
 ·rename_i l hl
  exact wp_region_any hm (ad3 (a4h hl) _ _ hc (w:={w with drawn:=w.drawn+1}) h.drew hr)
 ·cases hc
theorem U5(hm:P.follows .mixedOrders=true){an:Ann}:∀(c:Code) {rc:cn},comp P nt an c=some rc→∀{Q:Exit→PS→Prop} {s:PS} {G:fc} {E:Env} {a:Act} {w:World},i6 B0 w0 nt G0 s G E a w→jd P rc Q s→
  c.wp P (fun e a w=>J6 B0 nt w0 G0 (Q e) a w) a w:=by
 intro c
 induction c with
 |skip=>intro rc hc Q s G E a w h hr;simp only[comp,ah]at hc;subst hc;exact wp_skip ⟨s,G,E,hr,h⟩
 |label l=>intro rc hc Q s G E a w h hr;simp only[comp,ah]at hc;subst hc;exact wp_label ⟨s,G,E,hr,h⟩
 |exit id=>intro rc hc Q s G E a w h hr;simp only[comp,ah]at hc;subst hc;exact wp_exit ⟨s,G,E,hr,h⟩
 |ret=>intro rc hc Q s G E a w h hr;simp only[comp,ah]at hc;subst hc;exact wp_ret ⟨s,G,E,hr,h⟩
 |region id ops draw=>
  intro rc hc Q s G E a w h hr;simp only[comp,ak]at hc;obtain⟨r,hc,rfl⟩:=hc
  have go:∀{s:PS} {G:fc},i6 B0 w0 nt G0 s G E a w→jd P r Q s→(aG8 id ops draw).wp P (fun e a w=>J6 B0 nt w0 G0 (Q e) a w) a w:=by
   intro s G h hr;split at hc
   ·rename_i Lt
    rw[Lt.1];exact aje hm hc h hr
   ·exact a7b hm hc h hr
  split at hr
  ·obtain⟨ids,hr⟩:=hr
   obtain⟨G1,_,h1⟩:=h.rb ids;exact go h1 hr
  ·exact go h hr
 |seq x y ihx ihy=>
  intro rc hc Q s G E a w h hr;simp only[comp]at hc;split at hc
  ·rename_i rx ry hx hy
   injection hc with hc
   subst hc
   refine wp_seq (wp_mono (ihx hx h hr) fun e a' w' hg=>?_)
   obtain⟨s',G',E',hq,h'⟩:=hg
   cases e with
   |normal=>exact ihy hy h' hq
   |_=>exact⟨s',G',E',hq,h'⟩
  ·cases hc
 |cond c x y ihx ihy=>
  intro rc hc Q s G E a w h hr;simp only[comp]at hc;split at hc
  ·rename_i oc rx ry ho hx hy
   injection hc with hc
   subst hc;have hv:=h.ev ho;simp only[jd]at hr;split at hr
   ·rename_i b hb
    rw[hb]at hv
    have he:a.eval c= .bool b:=by
     generalize a.eval c=v at hv;cases hv;rfl
    refine wp_cond he ?_
    cases b with
    |true=>exact ihx hx h (by simpa using hr)
    |false=>exact ihy hy h (by simpa using hr)
   ·exact hr.elim
  ·cases hc
 |block id c ih=>
  intro rc hc Q s G E a w h hr;simp only[comp,ak]at hc;obtain⟨r,hc,rfl⟩:=hc
  refine wp_block (wp_mono (ih hc h hr) fun e a' w' hg=>?_)
  obtain⟨s',G',E',hq,h'⟩:=hg
  cases e with
  |exit i=>
   simp only[Exit.inBlock]at hq⊢;split
   ·rename_i hi;rw[if_pos hi]at hq;exact⟨s',G',E',hq,h'⟩
   ·rename_i hi;rw[if_neg hi]at hq;exact⟨s',G',E',hq,h'⟩
  |_=>exact⟨s',G',E',hq,h'⟩
 |loop c ih=>
  intro rc hc Q s G E a w h hr;simp only[comp,ak]at hc;obtain⟨r,hc,rfl⟩:=hc;obtain⟨I,m,h0,h1⟩:=hr
  refine wp_loop_ghost (fun n a w=>J6 B0 nt w0 G0 (fun s=>I s∧m s=n) a w) (m s) ⟨s,G,E,⟨h0,rfl⟩,h⟩ ?_
  rintro n a' w' ⟨s',G',E',⟨hI,hmn⟩,h'⟩
  refine wp_mono (ih hc h' (h1 s' hI)) fun e a'' w'' hg=>?_
  obtain⟨s'',G'',E'',hq,h''⟩:=hg
  cases e with
  |normal=>exact⟨m s'',by omega,s'',G'',E'',⟨hq.1,rfl⟩,h''⟩
  |_=>exact⟨s'',G'',E'',hq,h''⟩
 |scope c ih=>
  intro rc hc Q s G E a w h hr;simp only[comp]at hc
  refine wp_scope_straight (wp_mono (ih hc h (adt hr)) fun e a' w' hg=>?_)
  obtain⟨s',G',E',hq,h'⟩:=hg
  cases e with
  |goto l=>exact hq.elim
  |_=>exact⟨s',G',E',hq,h'⟩
 |rangeFunc f ps x y _ _=>intro rc hc;cases hc
 |goto l=>intro rc hc;cases hc
 |refuse why=>intro rc hc;cases hc
end
def afu(P:Program):ResultVar→Option I7
 | .tmp t=>some (.tmp t)
 | .cell a t=>match ji P t,yp P t with
  |some n,some g=>if g=true∨n=1 then some (.cell a n g)else none
  |_,_=>none
def Q1(P:Program):List ResultVar→Option (List I7)
 |[]=>some []
 |r::l=>match afu P r,Q1 P l with
  |some x,some y=>some (x::y)
  |_,_=>none
def RI.bare(o:RI):RI:=⟨o.dst,o.op,o.guard,[]⟩
def cn.bare:cn→cn
 | .region l d f=> .region (l.map RI.bare) d f
 | .seq a b=> .seq a.bare b.bare
 | .cond c a b=> .cond c a.bare b.bare
 | .block i c=> .block i c.bare
 | .loop c=> .loop c.bare
 | .both a b=> .both a.bare b.bare
 | .skip=> .skip
 | .freeze=> .freeze
 | .exit i=> .exit i
 | .ret=> .ret
theorem Wd{P:Program}{K:PS→Prop}:∀(l:List RI) (s:PS),jn P (l.map RI.bare) s K=jn P l s K
 |[],_=>rfl
 |o::l,s=>by
  rw[cu,zc,zc];have h1:wanted o.bare s=wanted o s:=rfl
  have h2:∀K',Ev P o.bare s K'=Ev P o s K':=fun _=>rfl
  rw[h1,h2]
  have h3:(fun s'=>jn P (l.map RI.bare) s' K)=fun s'=>jn P l s' K:=funext fun s'=>Wd l s'
  rw[h3,Wd l];rfl
theorem acr(l:List RI):nw (l.map RI.bare)=nw l:=by
 unfold nw;rw[List.flatMap_map];rfl
theorem Dp{P:Program}:∀(c:cn) (Q:Exit→PS→Prop) (s:PS),jd P c.bare Q s=jd P c Q s
 | .skip,_,_=>rfl
 | .freeze,_,_=>rfl
 | .exit _,_,_=>rfl
 | .ret,_,_=>rfl
 | .region l d f,Q,s=>by
  show jn P (l.map RI.bare) (if d=true then(s.rb (sh s.base f)).sn (sh s.base (nw (l.map RI.bare)))else s.rb (sh s.base f)) (Q .normal)=_
  rw[Wd,acr];rfl
 | .seq a b,Q,s=>by
  show jd P a.bare (fun e s'=>match e with| .normal=>jd P b.bare Q s'|e=>Q e s') s=jd P a (fun e s'=>match e with| .normal=>jd P b Q s'|e=>Q e s') s
  rw[Dp a]
  congr 1
  funext e s'
  cases e<;>first|exact Dp b Q s'|rfl
 | .cond c a b,Q,s=>by
  show(match c.ev s with| .d (.bool x)=>if x then jd P a.bare Q s else jd P b.bare Q s|_=>False)=(match c.ev s with| .d (.bool x)=>if x then jd P a Q s else jd P b Q s|_=>False)
  rw[Dp a,Dp b]
 | .block i c,Q,s=>Dp c _ s
 | .loop c,Q,s=>by
  show(∃(I:PS→Prop) (m:PS→Nat),I s∧∀s',I s'→jd P c.bare (fun e s''=>match e with| .normal=>I s''∧m s''<m s'|e=>Q e s'') s')=∃(I:PS→Prop) (m:PS→Nat),I s∧∀s',I s'→jd P c (fun e s''=>match e with| .normal=>I s''∧m s''<m s'|e=>Q e s'') s'
  simp only[Dp c]
 | .both a b,Q,s=>by
  show(jd P a.bare Q s∧jd P b.bare Q s)=(jd P a Q s∧jd P b Q s);rw[Dp a,Dp b]
def dj(P:Program)(f:Nat)(an:Ann):Option (cn×List I7×Nat):=
 match P.funcs[f]? with
 |none=>none
 |some fn=>if fn.name= "runtime.NumGoroutine"then none else match fn.body with
  |none=>none
  |some c=>match comp P fn.ntmps an c,Q1 P fn.results.toList with
   |some rc,some rs=>some (rc.bare,rs,fn.ntmps)
   |_,_=>none
def start(args:List D):PS:={tmp:=fun t=>match args[t]? with|some x=> .d x|none=> .no,bm:=fun _=>none,ver:=fun _=>0,mp:=fun _=>none}
section
variable{P:Program}{B0 nt:Nat}{w0 w w':World}{G0 G G':fc}{s s' s1 s2:PS}{E E':Env}{a:Act}
def aqg(s:PS):V→List Nat
 | .ref id _ _=>[id]
 | .ku id _=>[id]
 | .agg cs=>match Mh s cs with
  |some p=>p.2
  |none=>[]
 |_=>[]
theorem aae{x:V}{d:D}{v:Value}(hp:Ut s x=some d)(hv:fm G E s x v)(hle:G.le G')(hg:∀id∈aqg s x,Vz G' G E s id):fh G' d v:=by
 cases x with
 |d y=>simp only[Ut,ah]at hp;subst hp;exact fh.mono hle hv
 |ref id ver len=>
  simp only[Ut,ak]at hp;obtain⟨⟨y,ids⟩,hp,rfl⟩:=hp
  have Sa:ids=[id]:=by
   simp only[Nr]at hp;split at hp
   ·split at hp
    ·simp only[ah,ay]at hp;exact hp.2.symm
    ·cases hp
   ·cases hp
  exact a0k (c:= .ref id ver len) hp hv hle (by rw[Sa];exact hg)
 |ku id ver=>
  simp only[Ut,ak]at hp;obtain⟨⟨y,ids⟩,hp,rfl⟩:=hp
  have Sa:ids=[id]:=by
   simp only[Nr]at hp;split at hp
   ·simp only[ak,ay]at hp;obtain⟨_,_,_,hp⟩:=hp;exact hp.symm
   ·cases hp
  exact a0k (c:= .ku id ver) hp hv hle (by rw[Sa];exact hg)
 |agg cs=>
  simp only[Ut,ak]at hp;obtain⟨⟨ds,ids⟩,hp,rfl⟩:=hp;simp only[aqg,hp]at hg;obtain⟨k1,k2⟩:=a5a (G:=G) (G':=G') (E:=E) hp;obtain⟨vs,rfl,e2,e3⟩:=Cv.1 hv;show fh G' (.agg ds) (.agg vs)
  refine fh.agg (by omega) fun i x u hx hu=>?_
  have hi:i<cs.length:=by have:=(aq.1 hx).1;omega
  exact k2 hle hg i cs[i] x u (ao hi) hx (e3 i _ u (ao hi) hu)
 |_=>cases hp
def a7a(s:PS):I7→List Nat
 | .tmp t=>aqg s (s.tmp t)
 | .cell t n g=>match A8 s n g (s.tmp t)with
  |some v=>aqg s v
  |none=>[]
theorem arf(h:i6 B0 w0 nt G0 s G E a w){r:ResultVar}{x:I7}(hc:afu P r=some x){d:D}(hd:ady s x=some d)(hle:G.le G')(hg:∀id∈a7a s x,Vz G' G E s id):
  ∃v,(match r with| .tmp t=>pure (a.tmps.getD t undef)| .cell b t=>do loadVar t (←asAddr (a.tmps.getD b undef)):Sem Value).run P w= .ok v w∧fh G' d v:=by
 cases r with
 |tmp t=>
  simp only[afu,ah]at hc;subst hc;exact⟨_,rfl,aae hd (h.tmp t) hle hg⟩
 |cell b t=>
  simp only[afu]at hc;split at hc
  ·rename_i n g h1 h2
   split at hc
   ·rename_i h3
    injection hc with hc
    subst hc;simp only[ady]at hd;simp only[a7a]at hg;split at hd
    ·rename_i v hv
     rw[hv]at hg;obtain⟨u,hr,hu⟩:=Tl h h1 h2 h3 hv (h.tmp b);refine⟨u,?_,aae hd hu hle hg⟩
     have hp:∃ad,a.tmps.getD b undef= .pointer (some ad):=by
      have hb:=h.tmp b;generalize s.tmp b=y at hv hb
      cases y with
      |dv id ver off=>
       simp only[A8]at hv;split at hv
       ·rename_i cs Gc
        obtain⟨e1,e2⟩:=s9 Gc;exact⟨_,hb.2 e1 ⟨_,e2,rfl⟩⟩
       ·cases hv
      |Fl id ver ln i off=>
       simp only[A8]at hv;split at hv
       ·rename_i sz els he
        obtain⟨e1,e2⟩:=v7 he;split at hv
        ·split at hv
         ·rename_i hh;exact⟨_,(hb.2 e1 _ _ (tp e2)).2 hh.1⟩
         ·cases hv
        ·cases hv
       ·split at hv
        ·rename_i sz els he
         obtain⟨e1,b,e2,e3,_⟩:=Fm he;split at hv
         ·split at hv
          ·rename_i hh;exact⟨_,(hb.2 e1 _ _ ((tp e2).trans e3)).2 hh.1⟩
          ·cases hv
         ·cases hv
        ·cases hv
      |d z=>
       cases z with
       |tz cells off=>
        generalize a.tmps.getD b undef=q at hb;cases hb;exact⟨_,rfl⟩
       |_=>cases hv
      |_=>cases hv
     obtain⟨ad,had⟩:=hp;show(do loadVar t (←asAddr (a.tmps.getD b undef)):Sem Value).run P w=_;rw[had]at hr⊢;unfold aG1 at hr;simp only[ba]at hr⊢;have e1:(axu (.pointer (some ad))).run P w= .ok ad w:=rfl;have e2:(asAddr (.pointer (some ad))).run P w= .ok ad w:=rfl;rw[e1]at hr;rw[e2];exact hr
    ·cases hd
   ·cases hc
  ·cases hc
theorem aaw{α:Type}(f:α→Sem Value)(w:World):∀(l:List α) (vs:List Value),l.length=vs.length→(∀(i:Nat) (x:α) (v:Value),l[i]? =some x→vs[i]? =some v→(f x).run P w= .ok v w)→(l.mapM f).run P w= .ok vs w:=by
 intro l
 induction l with
 |nil=>intro vs hl _;cases vs with
  |nil=>simp
  |cons _ _=>cases hl
 |cons x r ih=>
  intro vs hl h
  cases vs with
  |nil=>cases hl
  |cons v vs=>
   simp only[List.mapM_cons,ba,h 0 x v rfl rfl,aw,ih vs (by simpa using hl) (fun i x v hx hv=>h (i+1) x v (by simpa using hx) (by simpa using hv)),dc]
theorem aa9(h:i6 B0 w0 nt G0 s G E a w)(hle:G.le G'):∀{l:List ResultVar} {xs:List I7} {ds:List D},Q1 P l=some xs→Xz s xs=some ds→(∀id∈xs.flatMap (a7a s),Vz G' G E s id)→
  ∃vs:List Value,vs.length=ds.length∧l.length=vs.length∧xs.length=ds.length∧(∀(i:Nat) (x:ResultVar) (v:Value),l[i]? =some x→vs[i]? =some v→(match x with| .tmp t=>pure (a.tmps.getD t undef)| .cell b t=>do loadVar t (←asAddr (a.tmps.getD b undef)):Sem Value).run P w= .ok v w)∧
   ∀(i:Nat) (d:D) (v:Value),ds[i]? =some d→vs[i]? =some v→fh G' d v:=by
 intro l
 induction l with
 |nil=>
  intro xs ds hc hd _;simp only[Q1,ah]at hc;subst hc;simp only[Xz,ah]at hd;subst hd
  exact⟨[],rfl,rfl,rfl,by simp,by simp⟩
 |cons r l ih=>
  intro xs ds hc hd hg;simp only[Q1]at hc;split at hc
  ·rename_i x y h1 h2
   injection hc with hc
   subst hc;simp only[Xz]at hd;split at hd
   ·rename_i d ds' h3 h4
    injection hd with hd
    subst hd
    obtain⟨vs,k1,k2,k3,k4,k5⟩:=ih h2 h4 (fun id hid=>hg id (by simp only[aAz,oo];exact .inr hid))
    obtain⟨v,hv1,hv2⟩:=arf h h1 h3 hle (fun id hid=>hg id (by simp only[aAz,oo];exact .inl hid))
    refine⟨v::vs,by simp[k1],by simp[k2],by simp[k3],fun i x u hx hu=>?_,fun i d u hx hu=>?_⟩
    ·cases i with
     |zero=>simp only[ff,ah]at hx hu;subst hx hu;exact hv1
     |succ i=>simp only[jx]at hx hu;exact k4 i x u hx hu
    ·cases i with
     |zero=>simp only[ff,ah]at hx hu;subst hx hu;exact hv2
     |succ i=>simp only[jx]at hx hu;exact k5 i d u hx hu
   ·cases hd
  ·cases hc
theorem Sx(h:i6 B0 w0 nt G0 s G E a w){fn:Func}{xs:List I7}(hc:Q1 P fn.results.toList=some xs){r:D}(hr:Wg s xs=some r):
  ∃v G',(results fn a.tmps).run P w= .ok v w∧G0.le G'∧G0.same G' B0∧GOk G' w∧fh G' r v:=by
 obtain⟨G',hle,h',hg⟩:=h.sn (xs.flatMap (a7a s))
 have all:∃ds,Xz s xs=some ds∧((∃d,ds=[d]∧r=d)∨(ds.length≠1∧r= .yi ds)):=by
  unfold Wg at hr;split at hr
  ·rename_i x
   exact⟨[r],by simp[Xz,hr],.inl ⟨r,rfl,rfl⟩⟩
  ·rename_i kg
   simp only[ak]at hr;obtain⟨ds,hds,rfl⟩:=hr
   refine⟨ds,hds,.inr ⟨fun hl=>?_,rfl⟩⟩
   obtain⟨vs,_,_,k3,_⟩:=aa9 h hle hc hds hg
   match xs,k3,kg with
   |[x],_,kg=>exact kg x rfl
   |[],k3,_=>simp at k3;omega
   |_::_::_,k3,_=>simp at k3;omega
 obtain⟨ds,hds,Ya⟩:=all;obtain⟨vs,k1,k2,k3,k4,k5⟩:=aa9 h hle hc hds hg
 have Hq:=aaw (P:=P) (fun x:ResultVar=>(match x with| .tmp t=>pure (a.tmps.getD t undef)| .cell b t=>do loadVar t (←asAddr (a.tmps.getD b undef)):Sem Value)) w fn.results.toList vs k2 k4
 have aob:(fn.results.mapM fun(x:ResultVar)=>(match x with| .tmp t=>pure (a.tmps.getD t undef)| .cell b t=>do loadVar t (←asAddr (a.tmps.getD b undef)):Sem Value)).run P w= .ok vs.toArray w:=by
  rw[a6f,aGf,Hq];rfl
 have aBz:(results fn a.tmps).run P w= .ok (if hh:vs.toArray.size=1 then vs.toArray[0]else .tuple vs.toArray) w:=by
  unfold results;simp only[ba]
  erw [aob]
  simp only[aw,dc]
 refine⟨_,G',aBz,h'.gle,h'.Gk,h'.gok,?_⟩;rcases Ya with ⟨d,rfl,rfl⟩|⟨kg,rfl⟩
 ·have h1:vs.toArray.size=1:=by simpa using k1
  rw[dif_pos h1]
  exact k5 0 r _ rfl (by simp)
 ·have h1:¬vs.toArray.size=1:=by simp;omega
  rw[dif_neg h1]
  exact fh.yi (by simpa using k1) fun i x v hx hv=>k5 i x v hx (by simpa using hv)
theorem a4q{args:List D}{vs:Array Value}(hG:GOk G w)(hl:vs.size=args.length)(hr:∀(i:Nat) (x:D) (v:Value),args[i]? =some x→vs[i]? =some v→fh G x v)(hn:args.length≤nt):
  i6 w.heap.size w nt G (start args) G ⟨fun _=>0,fun _=>0,fun _=>0⟩ {tmps:=vs++ag7 (nt-vs.size) undef,defers:=[]} w:=by
 refine⟨by simp;omega,rfl,rfl,Bel.refl _ _,hG,fc.le_refl _,⟨fun _ _ _=>rfl,fun _ _=>rfl⟩,fun t=>?_,fun i b hb=>(by cases hb),fun i j bi bj hi=>(by cases hi),fun i es hi=>(by cases hi),fun i j bi bj hi=>(by cases hi),fun p=>trivial⟩
 show fm G _ _ (match args[t]? with|some x=>V.d x|none=> .no) ((vs++ag7 (nt-vs.size) undef).getD t undef)
 cases hx:args[t]? with
 |none=>trivial
 |some x=>
  have ht:t<args.length:=(aq.1 hx).1
  rw[jo,yc (by omega),av (by omega)]
  exact hr t x _ hx (av (by omega))
theorem cy(hm:P.follows .mixedOrders=true){f:Nat}{an:Ann}{rc:cn}{rs:List I7}{nt:Nat}(hf:dj P f an=some (rc,rs,nt)){args:List D}{r:D}(hn:args.length≤nt)
  (h:jd P rc (fun e s=>(e= .normal∨e= .ret)∧Wg s rs=some r) (start args)):fp P f args r:=by
 unfold dj at hf;split at hf
 ·cases hf
 ·rename_i fn hfn
  split at hf
  ·cases hf
  ·rename_i V9
   split at hf
   ·cases hf
   ·rename_i c hb
    split at hf
    ·rename_i rc' rs' h1 h2
     simp only[ah,ay]at hf;obtain⟨rfl,rfl,rfl⟩:=hf;simp only[Dp]at h
     refine⟨by unfold yh;rw[hfn];simp[V9,hb],fun G w vs hG hl hr=>?_⟩
     refine calls_of_wp hfn hb (wp_mono (U5 hm c h1 (a4q hG hl hr hn) h) fun e a' w' hg=>?_)
     obtain⟨s',G',E',⟨he,ao6⟩,h'⟩:=hg;obtain⟨v,G2,k1,k2,k3,k4,k5⟩:=Sx h' h2 ao6
     have fin:a'.defers=[]∧∃v,(results fn a'.tmps).run P w'= .ok v w'∧∃v' G',aEy v= .returned v'∧G.le G'∧G.same G' w.heap.size∧GOk G' w'∧Bel w.heap.size w w'∧fh G' r v':=
      ⟨h'.defers,v,k1,v,G2,rfl,k2,k3,k4,h'.below,k5⟩
     rcases he with rfl|rfl
     ·exact fin
     ·exact fin
    ·cases hf
end
section
variable{P:Program}{B0 nt:Nat}{w0 w w':World}{G0 G G':fc}{s s' s1 s2:PS}{E E':Env}{a:Act}
theorem a8b(ids:List Nat)(s:PS):(s.rb ids).ctx=s.ctx:=by
 cases ids with
 |nil=>rfl
 |cons i r=>exact(Fg (i::r) _).2
def auw(c:Nat→V×Value)(K:PS→Prop):PS→Prop:=fun s'=>K s'∧s'.ctx=c
theorem aj1{o:RI}{K:PS→Prop}(h:Ev P o s K):Ev P o s (auw s.ctx K):=by
 unfold Ev at h⊢;split
 ·rename_i kk sz bytes x k y ts ho
  rw[ho]at h;obtain⟨id,s',h1,h2⟩:=h;refine⟨id,s',h1,h2,?_⟩
  have e:s'.ctx=s.ctx:=by
   obtain⟨_,_,m,ver,key,es,ys,osz,_,_,_,_,_,_,_,_,hc⟩:=h1;rcases hc with ⟨_,_,es',_,rfl⟩|⟨i,v0,n0,els,_,_,_,_,es',_,rfl⟩<;>rfl
  rw[←e];cases o.dst<;>rfl
 ·rename_i f args ho
  rw[ho]at h;obtain⟨R,h1,h2⟩:=h
  exact⟨R,h1,fun m' r hr=>⟨h2 m' r hr,by cases o.dst<;>rfl⟩⟩
 ·rename_i f args ho
  rw[ho]at h;simp only at h⊢;split
  ·rename_i g caps hs
   rw[hs]at h;obtain⟨R,h1,h2⟩:=h
   exact⟨R,h1,fun m' r hr=>⟨h2 m' r hr,by cases o.dst<;>rfl⟩⟩
  ·rename_i C4
   split at h
   ·rename_i g caps hs;exact absurd hs (C4 g caps)
   ·exact h
 ·rename_i f args ho
  rw[ho]at h;obtain⟨m',r,h1,h2⟩:=h
  exact⟨m',r,h1,h2,by cases o.dst<;>rfl⟩
 ·rename_i f args ho
  rw[ho]at h;obtain⟨r,h1,h2⟩:=h
  exact⟨r,h1,h2,by cases o.dst<;>rfl⟩
 ·rename_i f args ho
  rw[ho]at h;simp only at h⊢;split
  ·rename_i g caps hs
   rw[hs]at h;obtain⟨m',r,h1,h2⟩:=h
   exact⟨m',r,h1,h2,by cases o.dst<;>rfl⟩
  ·rename_i C4
   split at h
   ·rename_i g caps hs;exact absurd hs (C4 g caps)
   ·exact h
 ·rename_i f args ho
  rw[ho]at h;obtain⟨ds,r,h1,h2,h3,h4⟩:=h
  exact⟨ds,r,h1,h2,h3,h4,by cases o.dst<;>rfl⟩
 ·rename_i f args ho
  rw[ho]at h;simp only at h⊢;split
  ·rename_i g caps hs
   rw[hs]at h;obtain⟨ds,r,h1,h2,h3,h4⟩:=h
   exact⟨ds,r,h1,h2,h3,h4,by cases o.dst<;>rfl⟩
  ·rename_i C4
   split at h
   ·rename_i g caps hs;exact absurd hs (C4 g caps)
   ·exact h
 ·rename_i h0 h1 h2 h3 h4 h5 h6 h7
  split at h
  ·rename_i kk sz bytes x k y ts ho;exact absurd ho (h0 kk sz bytes x k y ts)
  ·rename_i f args ho;exact absurd ho (h1 f args)
  ·rename_i f args ho;exact absurd ho (h2 f args)
  ·rename_i f args ho;exact absurd ho (h3 f args)
  ·rename_i f args ho;exact absurd ho (h4 f args)
  ·rename_i f args ho;exact absurd ho (h5 f args)
  ·rename_i f args ho;exact absurd ho (h6 f args)
  ·rename_i f args ho;exact absurd ho (h7 f args)
  ·split at h
   ·exact⟨h,by rw[au1,(Fg _ _).2]⟩
   ·exact h.elim
theorem amp:∀{l:List RI} {s:PS} {K:PS→Prop},jn P l s K→jn P l s (auw s.ctx K):=by
 intro l
 induction l with
 |nil=>intro s K h;exact⟨h,rfl⟩
 |cons o r ih=>
  intro s K h;rw[zc]at h⊢;split
  ·rename_i hw
   rw[hw]at h;refine a0e ?_ (aj1 h);rintro s' ⟨h1,h2⟩;have:=ih h1;rw[h2]at this;exact this
  ·rename_i hw
   rw[hw]at h;have:=ih h
   have e:(s.put o.dst (.d (.yi []))).ctx=s.ctx:=by cases o.dst<;>rfl
   rw[e]at this;exact this
  ·rename_i hw;rw[hw]at h;exact h
def aAh(c:Nat→V×Value)(Q:Exit→PS→Prop):Exit→PS→Prop:=fun e s'=>Q e s'∧s'.ctx=c
theorem ara:∀{c:cn} {s:PS} {Q:Exit→PS→Prop},jd P c Q s→jd P c (aAh s.ctx Q) s:=by
 intro c
 induction c with
 |skip=>intro s Q h;exact⟨h,rfl⟩
 |region ops d fz=>
  intro s Q h
  have:=amp (s:=if d=true then(s.rb (sh s.base fz)).sn (sh s.base (nw ops))else s.rb (sh s.base fz)) h
  have e:(if d=true then(s.rb (sh s.base fz)).sn (sh s.base (nw ops))else s.rb (sh s.base fz)).ctx=s.ctx:=by
   split
   ·rw[(Fg _ _).2,a8b]
   ·rw[a8b]
  rw[e]at this;exact this
 |seq x y ihx ihy=>
  intro s Q h;rw[Zl]
  refine Dn (fun e s' h'=>?_) (ihx h)
  obtain⟨h1,h2⟩:=h'
  cases e with
  |normal=>
   have:=ihy h1;rw[h2]at this;exact this
  |_=>exact⟨h1,h2⟩
 |cond c x y ihx ihy=>
  intro s Q h;simp only[jd]at h⊢;split at h
  ·split at h
   ·rename_i hx;simp only[hx,if_true];exact ihx h
   ·rename_i hx;simp only[hx,ec,if_false];exact ihy h
  ·exact h.elim
 |block id c ih=>
  intro s Q h;rw[Wb]
  refine Dn (fun e s' h'=>?_) (ih h)
  obtain⟨h1,h2⟩:=h'
  cases e with
  |exit i=>
   simp only at h1⊢;split
   ·rename_i hi;rw[if_pos hi]at h1;exact⟨h1,h2⟩
   ·rename_i hi;rw[if_neg hi]at h1;exact⟨h1,h2⟩
  |_=>exact⟨h1,h2⟩
 |loop c ih=>
  intro s Q h;obtain⟨I,m,h0,h1⟩:=h
  refine⟨fun s'=>I s'∧s'.ctx=s.ctx,m,⟨h0,rfl⟩,fun s' hI=>Dn (fun e s'' h'=>?_) (ih (h1 s' hI.1))⟩
  obtain⟨k1,k2⟩:=h';rw[hI.2]at k2
  cases e with
  |normal=>exact⟨⟨k1.1,k2⟩,k1.2⟩
  |_=>exact⟨k1,k2⟩
 |freeze=>intro s Q ⟨ids,h⟩;exact⟨ids,h,a8b ids s⟩
 |both x y ihx ihy=>intro s Q h;exact⟨ihx h.1,ihy h.2⟩
 |exit id=>intro s Q h;exact⟨h,rfl⟩
 |ret=>intro s Q h;exact⟨h,rfl⟩
def enter(m:Mem)(args:List V)(b:Nat)(c:Nat→V×Value):PS:={tmp:=fun t=>args.getD t .no,bm:=m.bm,ver:=m.ver,mp:=m.mp,base:=b,ctx:=c}
def Clean(m m':Mem):Prop:=∀i,(m'.bm i=none∨(m'.bm i=m.bm i∧m'.ver i=m.ver i))∧(m'.mp i=none∨(m'.mp i=m.mp i∧m'.ver i=m.ver i))
def M7(m:Mem):C→Prop
 | .d _=>True
 | .ref i ver _=>ver≤m.ver i
 | .ku i ver=>ver≤m.ver i
 | .ptr i ver _=>ver≤m.ver i
def F5(m:Mem):V→Prop
 | .d _=>True
 | .ref i ver _=>ver≤m.ver i
 | .ku i ver=>ver≤m.ver i
 | .dv i ver _=>ver≤m.ver i
 | .Fl i ver _ _ _=>ver≤m.ver i
 | .mb _ ids=>∀p∈ids,p.2≤m.ver p.1
 | .agg cs=>∀c∈cs,M7 m c
 | .yi cs=>∀c∈cs,M7 m c
 | .Ig i ver _ _=>ver≤m.ver i
 | .Fo i ver _ _=>ver≤m.ver i
 | .win i ver _ _ _=>ver≤m.ver i
 | .no=>True
def Jw(m:Mem):B→Prop
 | .loc cs=>∀c∈cs,M7 m c
 | .ny _ els=>∀e∈els,∀c∈e,M7 m c
 |_=>True
theorem M7.mono{m m':Mem}(h:∀i,m.ver i≤m'.ver i){c:C}(hc:M7 m c):M7 m' c:=by
 cases c with
 |d x=>trivial
 |_=>exact gn hc (h _)
theorem F5.mono{m m':Mem}(h:∀i,m.ver i≤m'.ver i){v:V}(hv:F5 m v):F5 m' v:=by
 cases v with
 |d x=>trivial
 |no=>trivial
 |agg cs=>exact fun c hc=>(hv c hc).mono h
 |yi cs=>exact fun c hc=>(hv c hc).mono h
 |mb f ids=>exact fun p hp=>gn (hv p hp) (h _)
 |Ig i ver l n=>exact gn (show ver≤m.ver i from hv) (h _)
 |Fo i ver l n=>exact gn (show ver≤m.ver i from hv) (h _)
 |win i ver l n o=>exact gn (show ver≤m.ver i from hv) (h _)
 |_=>exact gn hv (h _)
theorem W0{c:C}(h:CWf s c):M7 s.mem c:=by cases c<;>exact h
theorem ahl{v:V}(h:VWf s v):F5 s.mem v:=by
 cases v with
 |agg cs=>exact fun c hc=>W0 (h c hc)
 |yi cs=>exact fun c hc=>W0 (h c hc)
 |d x=>trivial
 |no=>trivial
 |Ig i ver l n=>exact(show ver≤s.ver i from h)
 |Fo i ver l n=>exact(show ver≤s.ver i from h)
 |win i ver l n o=>exact(show ver≤s.ver i from h)
 |ref i ver l=>exact(show ver≤s.ver i from h)
 |ku i ver=>exact(show ver≤s.ver i from h)
 |dv i ver l=>exact(show ver≤s.ver i from h)
 |Fl i ver _ _ _=>exact(show ver≤s.ver i from h)
 |mb f ids=>exact(show∀p∈ids,p.2≤s.ver p.1 from h)
theorem ub.clean{m':Mem}(hc:Clean s.mem m'){c:C}{v:Value}(h:ub G E s c v)(hw:M7 m' c)(he:s'.mem=m'):ub G E s' c v:=by
 have eb:s'.bm=m'.bm:=by rw[←he];rfl
 have ev:s'.ver=m'.ver:=by rw[←he];rfl
 have em:s'.mp=m'.mp:=by rw[←he];rfl
 cases c with
 |d x=>exact h
 |ref id ver len=>
  refine⟨by rw[ev];exact hw,fun lk sz els hb=>?_⟩
  unfold PS.Bg at hb;rw[eb]at hb;rw[ev]at lk;rcases(hc id).1 with h0|⟨h1,h2⟩
  ·rw[h0]at hb;cases hb
  ·exact h.2 (by rw[←lk,h2];rfl) sz els (by unfold PS.Bg;rw[←hb,h1];rfl)
 |ku id ver=>
  refine⟨by rw[ev];exact hw,fun lk hm=>?_⟩
  rw[em]at hm;rw[ev]at lk;rcases(hc id).2 with h0|⟨h1,h2⟩
  ·rw[h0]at hm;cases hm
  ·exact h.2 (by rw[←lk,h2];rfl) (by rw[h1]at hm;exact hm)
 |ptr id ver off=>
  refine⟨by rw[ev];exact hw,fun lk ⟨b,hb,hva⟩=>?_⟩
  rw[eb]at hb;rw[ev]at lk;rcases(hc id).1 with h0|⟨h1,h2⟩
  ·rw[h0]at hb;cases hb
  ·exact h.2 (by rw[←lk,h2];rfl) ⟨b,by rw[←hb,h1];rfl,hva⟩
theorem fm.clean{m':Mem}(hc:Clean s.mem m'){x:V}{v:Value}(h:fm G E s x v)(hw:F5 m' x)(he:s'.mem=m'):fm G E s' x v:=by
 have eb:s'.bm=m'.bm:=by rw[←he];rfl
 have ev:s'.ver=m'.ver:=by rw[←he];rfl
 cases x with
 |d x=>exact h
 |no=>trivial
 |ref id ver len=>exact ub.clean (c:= .ref id ver len) hc h hw he
 |ku id ver=>exact ub.clean (c:= .ku id ver) hc h hw he
 |dv id ver off=>exact ub.clean (c:= .ptr id ver off) hc h hw he
 |Ig id ver len n=>
  refine⟨by rw[ev];exact hw,fun lk ⟨b,hb,hva⟩=>?_⟩
  rw[eb]at hb;rw[ev]at lk;rcases(hc id).1 with h0|⟨h1,h2⟩
  ·rw[h0]at hb;cases hb
  ·exact h.2 (by rw[←lk,h2];rfl) ⟨b,by rw[←hb,h1];rfl,hva⟩
 |Fo id ver n a=>
  refine⟨h.1,by rw[ev];exact hw,fun lk sz els hb=>?_⟩
  unfold PS.Bg at hb;rw[eb]at hb;rw[ev]at lk;rcases(hc id).1 with h0|⟨h1,h2⟩
  ·rw[h0]at hb;cases hb
  ·exact h.2.2 (by rw[←lk,h2];rfl) sz els (by unfold PS.Bg;rw[←hb,h1];rfl)
 |win id ver n o l=>
  refine⟨h.1,by rw[ev];exact hw,fun lk sz els hb=>?_⟩
  unfold PS.Bg at hb;rw[eb]at hb;rw[ev]at lk;rcases(hc id).1 with h0|⟨h1,h2⟩
  ·rw[h0]at hb;cases hb
  ·exact h.2.2 (by rw[←lk,h2];rfl) sz els (by unfold PS.Bg;rw[←hb,h1];rfl)
 |Fl id ver ln i off=>
  refine⟨by rw[ev];exact hw,fun lk sz els hb=>?_⟩
  unfold PS.Bg at hb;rw[eb]at hb;rw[ev]at lk;rcases(hc id).1 with h0|⟨h1,h2⟩
  ·rw[h0]at hb;cases hb
  ·exact h.2 (by rw[←lk,h2];rfl) sz els (by unfold PS.Bg;rw[←hb,h1];rfl)
 |mb f ids=>
  refine⟨fun p hp=>by rw[ev];exact hw p hp,fun zx=>h.2 fun p hp=>?_⟩
  obtain⟨k1,b,k2,k3⟩:=zx p hp;rw[eb]at k2;rw[ev]at k1;rcases(hc p.1).1 with h0|⟨h1,h2⟩
  ·rw[h0]at k2;cases k2
  ·exact⟨by rw[←k1,h2];rfl,b,by rw[←k2,h1];rfl,k3⟩
 |agg cs=>
  obtain⟨vs,e1,e2,e3⟩:=Cv.1 h
  exact Cv.2 ⟨vs,e1,e2,fun i c u hi hu=>(e3 i c u hi hu).clean hc (hw c (lx hi)) he⟩
 |yi cs=>
  obtain⟨vs,e1,e2,e3⟩:=I6.1 h
  exact I6.2 ⟨vs,e1,e2,fun i c u hi hu=>(e3 i c u hi hu).clean hc (hw c (lx hi)) he⟩
theorem aaa(h:i6 B0 w0 nt G0 s G E a w){r:ResultVar}{x:I7}(hc:afu P r=some x){y:V}(hd:qa s x=some y):
  ∃v,(match r with| .tmp t=>pure (a.tmps.getD t undef)| .cell b t=>do loadVar t (←asAddr (a.tmps.getD b undef)):Sem Value).run P w= .ok v w∧fm G E s y v:=by
 cases r with
 |tmp t=>
  simp only[afu,ah]at hc;subst hc;simp only[qa,ah]at hd;subst hd;exact⟨_,rfl,h.tmp t⟩
 |cell b t=>
  simp only[afu]at hc;split at hc
  ·rename_i n g h1 h2
   split at hc
   ·rename_i h3
    injection hc with hc
    subst hc;simp only[qa]at hd;obtain⟨u,hr,hu⟩:=Tl h h1 h2 h3 hd (h.tmp b);refine⟨u,?_,hu⟩
    have hp:∃ad,a.tmps.getD b undef= .pointer (some ad):=by
     have hb:=h.tmp b;generalize s.tmp b=z at hd hb
     cases z with
     |dv id ver off=>
      simp only[A8]at hd;split at hd
      ·rename_i cs Gc
       obtain⟨e1,e2⟩:=s9 Gc;exact⟨_,hb.2 e1 ⟨_,e2,rfl⟩⟩
      ·cases hd
     |Fl id ver ln i off=>
      simp only[A8]at hd;split at hd
      ·rename_i sz els he
       obtain⟨e1,e2⟩:=v7 he;split at hd
       ·split at hd
        ·rename_i hh;exact⟨_,(hb.2 e1 _ _ (tp e2)).2 hh.1⟩
        ·cases hd
       ·cases hd
      ·split at hd
       ·rename_i sz els he
        obtain⟨e1,b,e2,e3,_⟩:=Fm he;split at hd
        ·split at hd
         ·rename_i hh;exact⟨_,(hb.2 e1 _ _ ((tp e2).trans e3)).2 hh.1⟩
         ·cases hd
        ·cases hd
       ·cases hd
     |d z=>
      cases z with
      |tz cells off=>
       generalize a.tmps.getD b undef=q at hb;cases hb;exact⟨_,rfl⟩
      |_=>cases hd
     |_=>cases hd
    obtain⟨ad,had⟩:=hp;show(do loadVar t (←asAddr (a.tmps.getD b undef)):Sem Value).run P w=_;rw[had]at hr⊢;unfold aG1 at hr;simp only[ba]at hr⊢;have e1:(axu (.pointer (some ad))).run P w= .ok ad w:=rfl;have e2:(asAddr (.pointer (some ad))).run P w= .ok ad w:=rfl;rw[e1]at hr;rw[e2];exact hr
   ·cases hc
  ·cases hc
theorem toC_rel{y:V}{c:C}(h:y.toC=some c){v:Value}(hv:fm G E s y v):ub G E s c v:=by
 cases y<;>simp only[V.toC,ah,reduceCtorEq]at h<;>(subst h;exact hv)
theorem aj5(h:i6 B0 w0 nt G0 s G E a w):∀{l:List ResultVar} {xs:List I7} {cs:List C},Q1 P l=some xs→Gw s xs=some cs→
  ∃vs:List Value,vs.length=cs.length∧l.length=vs.length∧xs.length=cs.length∧(∀(i:Nat) (x:ResultVar) (v:Value),l[i]? =some x→vs[i]? =some v→(match x with| .tmp t=>pure (a.tmps.getD t undef)| .cell b t=>do loadVar t (←asAddr (a.tmps.getD b undef)):Sem Value).run P w= .ok v w)∧
   ∀(i:Nat) (d:C) (v:Value),cs[i]? =some d→vs[i]? =some v→ub G E s d v:=by
 intro l
 induction l with
 |nil=>
  intro xs ds hc hd;simp only[Q1,ah]at hc;subst hc;simp only[Gw,ah]at hd;subst hd
  exact⟨[],rfl,rfl,rfl,by simp,by simp⟩
 |cons r l ih=>
  intro xs ds hc hd;simp only[Q1]at hc;split at hc
  ·rename_i x y h1 h2
   injection hc with hc
   subst hc;simp only[Gw]at hd;split at hd
   ·rename_i d ds' h3 h4
    injection hd with hd
    subst hd;obtain⟨vs,k1,k2,k3,k4,k5⟩:=ih h2 h4;obtain⟨y,hy,hyc⟩:=acy.1 h3;obtain⟨v,hv1,hv2⟩:=aaa h h1 hy
    refine⟨v::vs,by simp[k1],by simp[k2],by simp[k3],fun i x u hx hu=>?_,fun i d u hx hu=>?_⟩
    ·cases i with
     |zero=>simp only[ff,ah]at hx hu;subst hx hu;exact hv1
     |succ i=>simp only[jx]at hx hu;exact k4 i x u hx hu
    ·cases i with
     |zero=>simp only[ff,ah]at hx hu;subst hx hu;exact toC_rel hyc hv2
     |succ i=>simp only[jx]at hx hu;exact k5 i d u hx hu
   ·cases hd
  ·cases hc
theorem a0f(h:i6 B0 w0 nt G0 s G E a w){fn:Func}{xs:List I7}(hc:Q1 P fn.results.toList=some xs){r:V}(hr:nh s xs=some r):
  ∃v,(results fn a.tmps).run P w= .ok v w∧fm G E s r v:=by
 have fin:∀{vs:List Value},fn.results.toList.length=vs.length→(∀(i:Nat) (x:ResultVar) (v:Value),fn.results.toList[i]? =some x→vs[i]? =some v→(match x with| .tmp t=>pure (a.tmps.getD t undef)| .cell b t=>do loadVar t (←asAddr (a.tmps.getD b undef)):Sem Value).run P w= .ok v w)→
   (results fn a.tmps).run P w= .ok (if hh:vs.toArray.size=1 then vs.toArray[0]else .tuple vs.toArray) w:=by
  intro vs k2 k4
  have Hq:=aaw (P:=P) (fun x:ResultVar=>(match x with| .tmp t=>pure (a.tmps.getD t undef)| .cell b t=>do loadVar t (←asAddr (a.tmps.getD b undef)):Sem Value)) w fn.results.toList vs k2 k4
  have aob:(fn.results.mapM fun(x:ResultVar)=>(match x with| .tmp t=>pure (a.tmps.getD t undef)| .cell b t=>do loadVar t (←asAddr (a.tmps.getD b undef)):Sem Value)).run P w= .ok vs.toArray w:=by
   rw[a6f,aGf,Hq];rfl
  unfold results;simp only[ba]
  erw [aob]
  simp only[aw,dc]
 unfold nh at hr;split at hr
 ·rename_i x
  generalize hl:fn.results.toList=l at hc fin
  match l,hc with
  |[q],hc=>
   simp only[Q1]at hc;split at hc
   ·rename_i x' y h1 h2
    injection h2 with h2
    subst h2
    injection hc with hc
    injection hc with hc _
    subst hc;obtain⟨v,hv1,hv2⟩:=aaa h h1 hr
    have:=fin (vs:=[v]) rfl (fun i x u hx hu=>by
     match i with
     |0=>simp at hx hu;subst hx hu;exact hv1
     |i+1=>simp at hx)
    exact⟨v,this,hv2⟩
   ·cases hc
  |[],hc=>cases hc
  |q1::q2::r,hc=>
   simp only[Q1]at hc;split at hc
   ·rename_i h1 h2
    injection hc with hc
    injection hc with _ hc
    subst hc;split at h2
    ·injection h2 with h2;cases h2
    ·cases h2
   ·cases hc
 ·rename_i kg
  simp only[ak]at hr;obtain⟨cs,Gc,rfl⟩:=hr;obtain⟨vs,k1,k2,k3,k4,k5⟩:=aj5 h hc Gc;have:=fin k2 k4
  have h1:¬vs.toArray.size=1:=by
   simp only[T5];intro hl
   match xs,k3,kg with
   |[x],_,kg=>exact kg x rfl
   |[],k3,_=>simp at k3;omega
   |_::_::_,k3,_=>simp at k3;omega
  rw[dif_neg h1]at this
  exact⟨_,this,I6.2 ⟨_,rfl,by simpa using k1,fun i c u hi hu=>k5 i c u hi (by simpa using hu)⟩⟩
structure Leaves(m:Mem)(s:PS)(m':Mem)(r:V):Prop where
 clean:Clean s.mem m'
 ver:∀i,m.ver i≤m'.ver i
 cells:∀i b,m'.bm i=some b→m.bm i=some b∨Jw m' b
 mps:∀i es,m'.mp i=some es→m.mp i=some es∨∀e∈es,M7 m' e.2
 wf:F5 m' r
theorem Vo(hm:P.follows .mixedOrders=true){f:Nat}{an:Ann}{rc:cn}{rs:List I7}{n':Nat}(hf:dj P f an=some (rc,rs,n')){s:PS}{args:List V}{R:Mem→V→Prop}(hn:args.length≤n')(b:Nat)
  (h:∀c,jd P rc (fun e s'=>(e= .normal∨e= .ret)∧∃m' r,R m' r∧nh s' rs=some r∧Leaves s.mem s' m' r) (enter s.mem args b c)):Cw P f s args R:=by
 unfold dj at hf;split at hf
 ·cases hf
 ·rename_i fn hfn
  split at hf
  ·cases hf
  ·rename_i V9
   split at hf
   ·cases hf
   ·rename_i c hb
    split at hf
    ·rename_i rc' rs' h1 h2
     simp only[ah,ay]at hf;obtain⟨rfl,rfl,rfl⟩:=hf;simp only[Dp]at h
     refine⟨by unfold yh;rw[hfn];simp[V9,hb],fun B0 w0 nt G0 G E a w vs hF hl Di=>?_⟩
     let cx:Nat→V×Value:=fun i=>if i%2=0 then(s.tmp (i/2),a.tmps.getD (i/2) undef)else s.ctx (i/2)
     have mv:∀{x:V} {v:Value},fm G E s x v→fm G E (enter s.mem args b cx) x v:=by
      intro x v hx
      refine fm.move (fc.le_refl G) (E':=E) ⟨fun _=>ar _,fun _ _ Qc _ h=>⟨Qc,h,ar _,fun _=>⟨rfl,rfl⟩⟩,fun _ b' _ h hv=>⟨⟨b',h,hv⟩,rfl⟩,fun _ _ h=>⟨h,rfl⟩⟩ hx
     have tc:i6 B0 w0 fn.ntmps G0 (enter s.mem args b cx) G E {tmps:=vs++ag7 (fn.ntmps-vs.size) undef,defers:=[]} w:=by
      refine⟨by simp;omega,rfl,hF.base,hF.below,hF.gok,hF.gle,hF.Gk,fun t=>?_,fun i b' ow=>?_,hF.inj,fun i es hi=>?_,hF.Oi,fun i=>?_⟩
      ·show fm G E _ (args.getD t .no) ((vs++ag7 (fn.ntmps-vs.size) undef).getD t undef)
       by_cases ht:t<args.length
       ·rw[jo,yc (by omega),av (by omega)]
        have e:args.getD t .no=args[t]:=by simp[bn,ht]
        rw[e]
        exact mv (Di t _ _ (ao ht) (av (by omega)))
       ·have e:args.getD t .no= .no:=by rw[yb,a2z (by omega)];rfl
        rw[e];trivial
      ·obtain⟨k1,k2,cells,et,k3,k4,k5⟩:=hF.bm i b' ow
       refine⟨k1,k2,cells,et,k3,k4,?_⟩
       cases b' with
       |arr sz els=>exact k5
       |loc cs=>exact⟨k5.1,fun j c u hj hu=>by
         have:=k5.2 j c u hj hu
         exact mv this⟩
       |ny sz els=>exact⟨k5.1,k5.2.1,fun i e j c u hi hj hu=>by
         have:=k5.2.2 i e j c u hi hj hu
         exact mv this⟩
       |Ph n=>exact k5
      ·obtain⟨k1,k2,ents,clock,k3,k4,k5,k6⟩:=hF.mp i es hi
       exact⟨k1,k2,ents,clock,k3,k4,fun j e x hj hx=>⟨(k5 j e x hj hx).1,mv (k5 j e x hj hx).2⟩,k6⟩
      ·show fm G E _ (cx i).1 (cx i).2
       simp only[cx];split
       ·exact mv (hF.tmp _)
       ·exact mv (hF.ctx _)
     refine calls_of_wp hfn hb (wp_mono (U5 hm c h1 tc (ara (h cx))) fun e a' w' hg=>?_)
     obtain⟨s',G',E',⟨⟨he,m',r,hR,ao6,⟨hcl,lk,Qt,awk,hr⟩⟩,at6⟩,h'⟩:=hg;obtain⟨v,k1,k2⟩:=a0f h' h2 ao6;have hwf:=hF.wf
     have L5:i6 B0 w0 nt G0 (s.gl m') G' E' a w':=by
      refine⟨hF.size,hF.defers,hF.base,h'.below,h'.gok,h'.gle,h'.Gk,fun t=>?_,fun i b' ow=>?_,fun i j bi bj hi hj hij=>?_,fun i es hi=>?_,fun i j bi bj hi hj hij=>?_,fun i=>?_⟩
      ·have:=h'.ctx (2*t)
       rw[at6]at this
       have e1:(enter s.mem args b cx).ctx (2*t)=(s.tmp t,a.tmps.getD t undef):=by
        show cx (2*t)=_;simp only[cx]
        rw[if_pos (by omega),show 2*t/2=t by omega]
       rw[e1]at this;exact fm.clean hcl this ((ahl (hwf.tmp t)).mono lk) rfl
      ·have hb2:m'.bm i=some b':=ow
       rcases(hcl i).1 with h0|⟨h3,h4⟩
       ·rw[h0]at hb2;cases hb2
       ·have hb3:s'.bm i=some b':=h3.symm.trans hb2
        obtain⟨q1,q2,cells,et,q3,q4,q5⟩:=h'.bm i b' hb3;refine⟨q1,q2,cells,et,q3,q4,?_⟩
        cases b' with
        |arr sz els=>exact q5
        |loc cs=>
         refine⟨q5.1,fun j c u hj hu=>?_⟩
         have hcw:M7 m' c:=by
          rcases Qt i _ hb2 with hh|hh
          ·exact(W0 (hwf.loc i cs hh c (lx hj))).mono lk
          ·exact hh c (lx hj)
         exact ub.clean hcl (q5.2 j c u hj hu) hcw rfl
        |ny sz els=>
         refine⟨q5.1,q5.2.1,fun k e j c u hk hj hu=>?_⟩
         have hcw:M7 m' c:=by
          rcases Qt i _ hb2 with hh|hh
          ·exact(W0 (hwf.ny i sz els hh e (lx hk) c (lx hj))).mono lk
          ·exact hh e (lx hk) c (lx hj)
         exact ub.clean hcl (q5.2.2 k e j c u hk hj hu) hcw rfl
        |Ph n=>exact q5
      ·have un:∀{i b'},m'.bm i=some b'→s'.bm i=some b':=by
        intro i b' hb2;rcases(hcl i).1 with h0|⟨h3,h4⟩
        ·rw[h0]at hb2;cases hb2
        ·exact h3.symm.trans hb2
       exact h'.inj i j bi bj (un hi) (un hj) hij
      ·have hb2:m'.mp i=some es:=hi
       rcases(hcl i).2 with h0|⟨h3,h4⟩
       ·rw[h0]at hb2;cases hb2
       ·obtain⟨q1,q2,ents,clock,q3,q4,q5,q6⟩:=h'.mp i es (h3.symm.trans hb2)
        refine⟨q1,q2,ents,clock,q3,q4,fun j e x hj hx=>⟨(q5 j e x hj hx).1,?_⟩,q6⟩
        have hcw:M7 m' e.2:=by
         rcases awk i es hb2 with hh|hh
         ·exact(W0 (hwf.mp i es hh e (lx hj))).mono lk
         ·exact hh e (lx hj)
        exact ub.clean hcl (q5 j e x hj hx).2 hcw rfl
      ·have un:∀{i b'},m'.mp i=some b'→s'.mp i=some b':=by
        intro i b' hb2;rcases(hcl i).2 with h0|⟨h3,h4⟩
        ·rw[h0]at hb2;cases hb2
        ·exact h3.symm.trans hb2
       exact h'.Oi i j bi bj (un hi) (un hj) hij
      ·have:=h'.ctx (2*i+1)
       rw[at6]at this
       have e1:(enter s.mem args b cx).ctx (2*i+1)=s.ctx i:=by
        show cx (2*i+1)=_;simp only[cx]
        rw[if_neg (by omega),show(2*i+1)/2=i by omega]
       rw[e1]at this;exact fm.clean hcl this ((ahl ((hF.ctx i).wf)).mono lk) rfl
     have fin:a'.defers=[]∧∃v,(results fn a'.tmps).run P w'= .ok v w'∧∃v' G' E' m' r,aEy v= .returned v'∧R m' r∧i6 B0 w0 nt G0 (s.gl m') G' E' a w'∧fm G' E' (s.gl m') r v':=
      ⟨h'.defers,v,k1,v,G',E',m',r,rfl,hR,L5,fm.clean hcl k2 hr rfl⟩
     rcases he with rfl|rfl
     ·exact fin
     ·exact fin
    ·cases hf
theorem jt(hm:P.follows .mixedOrders=true){f:Nat}{an:Ann}{rc:cn}{rs:List I7}{n':Nat}(hf:dj P f an=some (rc,rs,n')){m m':Mem}{args:List V}{r:V}(hn:args.length≤n')(b:Nat)
  (h:∀c,jd P rc (fun e s=>(e= .normal∨e= .ret)∧nh s rs=some r∧Clean s.mem m') (enter m args b c))(lk:∀i,m.ver i≤m'.ver i)
  (Qt:∀i b,m'.bm i=some b→m.bm i=some b∨Jw m' b)(awk:∀i es,m'.mp i=some es→m.mp i=some es∨∀e∈es,M7 m' e.2)(hr:F5 m' r):nj P f m args m' r:=by
 have k:∀s:PS,s.mem=m→Cw P f s args (fun m2 r2=>m2=m'∧r2=r):=by
  rintro s rfl
  exact Vo hm hf hn b fun c=>Dn (fun e s' ⟨h1,h2,h3⟩=>⟨h1,m',r,⟨rfl,rfl⟩,h2,⟨h3,lk,Qt,awk,hr⟩⟩) (h c)
 refine⟨(k ((start []).gl m) rfl).1,fun s B0 w0 nt G0 G E a w vs hs hF hl Di=>((k s hs).2 B0 w0 nt G0 G E a w vs hF hl Di).mono ?_⟩
 rintro e w' ⟨v,G',E',m2,r2,h1,⟨rfl,rfl⟩,h2,h3⟩;exact⟨v,G',E',h1,h2,h3⟩
theorem nj.toR{f:Nat}{s:PS}{args:List V}{m':Mem}{r:V}(h:nj P f s.mem args m' r):Cw P f s args (fun m2 r2=>m2=m'∧r2=r):=
 ⟨h.1,fun B0 w0 nt G0 G E a w vs hF hl Di=>(h.2 s B0 w0 nt G0 G E a w vs rfl hF hl Di).mono fun _ _ ⟨v,G',E',h1,h2,h3⟩=>⟨v,G',E',m',r,h1,⟨rfl,rfl⟩,h2,h3⟩⟩
theorem avb(s:PS):s.gl s.mem=s:=rfl
theorem T3.toE{f:Nat}{s:PS}{ds:List D}{R:D→Prop}(h:T3 P f ds R):Cw P f s (ds.map .d) (fun m2 v=>m2=s.mem∧∃x,v= .d x∧R x):=by
 refine⟨h.1,fun B0 w0 nt G0 G E a w vs hF hl Di=>(h.2 G w vs hF.gok (by simpa using hl) fun i x v hx hv=>Di i (.d x) v (by simp[hx]) hv).mono ?_⟩
 rintro e w' ⟨v,G',r,h1,h2,h3,h4,h5,h6,h7⟩;exact⟨v,G',E,s.mem,.d r,h1,⟨rfl,r,rfl,h2⟩,hF.U8 h6 h3 h5 h4.1 h4.2,h7⟩
theorem an1(hm:P.follows .mixedOrders=true){f:Nat}{an:Ann}{rc:cn}{rs:List I7}{nt:Nat}(hf:dj P f an=some (rc,rs,nt)){args:List D}{R:D→Prop}(hn:args.length≤nt)
  (h:jd P rc (fun e s=>(e= .normal∨e= .ret)∧∃r,Wg s rs=some r∧R r) (start args)):T3 P f args R:=by
 unfold dj at hf;split at hf
 ·cases hf
 ·rename_i fn hfn
  split at hf
  ·cases hf
  ·rename_i V9
   split at hf
   ·cases hf
   ·rename_i c hb
    split at hf
    ·rename_i rc' rs' h1 h2
     simp only[ah,ay]at hf;obtain⟨rfl,rfl,rfl⟩:=hf;simp only[Dp]at h
     refine⟨by unfold yh;rw[hfn];simp[V9,hb],fun G w vs hG hl hr=>?_⟩
     refine calls_of_wp hfn hb (wp_mono (U5 hm c h1 (a4q hG hl hr hn) h) fun e a' w' hg=>?_)
     obtain⟨s',G',E',⟨he,r,ao6,hR⟩,h'⟩:=hg;obtain⟨v,G2,k1,k2,k3,k4,k5⟩:=Sx h' h2 ao6
     have fin:a'.defers=[]∧∃v,(results fn a'.tmps).run P w'= .ok v w'∧∃v' G' r,aEy v= .returned v'∧R r∧G.le G'∧G.same G' w.heap.size∧GOk G' w'∧Bel w.heap.size w w'∧fh G' r v':=
      ⟨h'.defers,v,k1,v,G2,r,rfl,hR,k2,k3,k4,h'.below,k5⟩
     rcases he with rfl|rfl
     ·exact fin
     ·exact fin
    ·cases hf
end
end Go.PI
namespace Go.PI
def Ug(P:Program)(b:cn)(Q:Exit→PS→Prop):Exit→PS→Prop
 | .normal,s=>jd P b Q s
 |e,s=>Q e s
def Xm(id:Nat)(Q:Exit→PS→Prop):Exit→PS→Prop
 | .exit i,s=>if i=id then Q .normal s else Q (.exit i) s
 |e,s=>Q e s
def ri(d:Nat)(o:j6):RI:=⟨some d,o,none,[]⟩
def rm(d x:Nat):RI:=⟨some d,.ij (.t x),none,[]⟩
def rn(o:j6):RI:=⟨none,o,none,[]⟩
def rg(d t:Nat)(b:Bool)(o:j6):RI:=⟨some d,o,some (t,b),[]⟩
def rq(l:List RI)(c:cn):cn:= .seq (.region l false []) c
def rl(d n:Nat)(a:Bool)(x:Nat):RI:=⟨some d,.load n a (.t x),none,[]⟩
def rk(d x:Nat):RI:=⟨some d,.V3 (.t x),none,[]⟩
def rf(d o x:Nat):RI:=⟨some d,.xj o (.t x),none,[]⟩
def rx(d x i:Nat):RI:=⟨some d,.ext (.t x) i,none,[]⟩
def ci(n:Int):lb:= .c (.int .i64 n)
def wi(d n a b:Nat):RI:=⟨some d,.te n (.t a) (.t b),none,[]⟩
def wc(d:Nat)(n:Int):RI:=⟨some d,.ij (.c (.int .i64 n)),none,[]⟩
def wd(d:Nat)(o:BinOp)(a:Nat)(n:Int):RI:=⟨some d,.bin o (.t a) (.c (.int .i64 n)),none,[]⟩
def wb(d:Nat)(o:BinOp)(a b:Nat):RI:=⟨some d,.bin o (.t a) (.t b),none,[]⟩
def ws(n a b:Nat):RI:=⟨none,.store n (.t a) (.t b),none,[]⟩
def wn(d a:Nat):RI:=⟨some d,.len .dt (.t a),none,[]⟩
def wa(d n k a:Nat)(i:Int):RI:=⟨some d,.tf n k (.t a) (.c (.int .i64 i)),none,[]⟩
def wf(d:Nat)(b:Bool):RI:=⟨some d,.ij (.c (.bool b)),none,[]⟩
def wo(d:Nat):RI:=⟨some d,.ij (.c .bd),none,[]⟩
def wp(d a b:Nat):RI:=⟨some d,.pick (.t a) (.t b) (.c (.bool false)),none,[]⟩
def wq(d a b:Nat):RI:=⟨some d,.pick (.t a) (.c (.bool true)) (.t b),none,[]⟩
def wx(d n a:Nat):RI:=⟨some d,.box n (.t a),none,[]⟩
def wm(d t:Nat)(b:Bool)(a:Nat):RI:=⟨some d,.ij (.t a),some (t,b),[]⟩
def wl(d t:Nat)(b:Bool)(n:Nat)(c:Bool)(a:Nat):RI:=⟨some d,.load n c (.t a),some (t,b),[]⟩
def wt(a:Nat)(x y:cn):cn:= .cond (.t a) x y
theorem aD3{d n a b:Nat}:wi d n a b=⟨some d,.te n (.t a) (.t b),none,[]⟩:=db rfl (dz _)
theorem aD6{d:Nat}{n:Int}:wc d n=⟨some d,.ij (.c (.int .i64 n)),none,[]⟩:=db rfl (dz _)
theorem aD5{d:Nat}{o:BinOp}{a:Nat}{n:Int}:wd d o a n=⟨some d,.bin o (.t a) (.c (.int .i64 n)),none,[]⟩:=db rfl (dz _)
theorem aD7{d:Nat}{o:BinOp}{a b:Nat}:wb d o a b=⟨some d,.bin o (.t a) (.t b),none,[]⟩:=db rfl (dz _)
theorem aCw{n a b:Nat}:ws n a b=⟨none,.store n (.t a) (.t b),none,[]⟩:=db rfl (dz _)
theorem aD0{d a:Nat}:wn d a=⟨some d,.len .dt (.t a),none,[]⟩:=db rfl (dz _)
theorem aD8{d n k a:Nat}{i:Int}:wa d n k a i=⟨some d,.tf n k (.t a) (.c (.int .i64 i)),none,[]⟩:=db rfl (dz _)
theorem aD4{d:Nat}{b:Bool}:wf d b=⟨some d,.ij (.c (.bool b)),none,[]⟩:=db rfl (dz _)
theorem aCz{d:Nat}:wo d=⟨some d,.ij (.c .bd),none,[]⟩:=db rfl (dz _)
theorem aCy{d a b:Nat}:wp d a b=⟨some d,.pick (.t a) (.t b) (.c (.bool false)),none,[]⟩:=db rfl (dz _)
theorem aCx{d a b:Nat}:wq d a b=⟨some d,.pick (.t a) (.c (.bool true)) (.t b),none,[]⟩:=db rfl (dz _)
theorem aCu{d n a:Nat}:wx d n a=⟨some d,.box n (.t a),none,[]⟩:=db rfl (dz _)
theorem aD1{d t:Nat}{b:Bool}{a:Nat}:wm d t b a=⟨some d,.ij (.t a),some (t,b),[]⟩:=db rfl (dz _)
theorem aD2{d t:Nat}{b:Bool}{n:Nat}{c:Bool}{a:Nat}:wl d t b n c a=⟨some d,.load n c (.t a),some (t,b),[]⟩:=db rfl (dz _)
theorem aCv{a:Nat}{x y:cn}:wt a x y= .cond (.t a) x y:=db rfl (dz _)
theorem aDd{d n:Nat}{a:Bool}{x:Nat}:rl d n a x=⟨some d,.load n a (.t x),none,[]⟩:=db rfl (dz _)
theorem aDe{d x:Nat}:rk d x=⟨some d,.V3 (.t x),none,[]⟩:=db rfl (dz _)
theorem aDh{d o x:Nat}:rf d o x=⟨some d,.xj o (.t x),none,[]⟩:=db rfl (dz _)
theorem aD9{d x i:Nat}:rx d x i=⟨some d,.ext (.t x) i,none,[]⟩:=db rfl (dz _)
theorem aDi{n:Int}:ci n= .c (.int .i64 n):=db rfl (dz _)
theorem aDf{d:Nat}{o:j6}:ri d o=⟨some d,o,none,[]⟩:=db rfl (dz _)
theorem aDc{d x:Nat}:rm d x=⟨some d,.ij (.t x),none,[]⟩:=db rfl (dz _)
theorem aDb{o:j6}:rn o=⟨none,o,none,[]⟩:=db rfl (dz _)
theorem aDg{d t:Nat}{b:Bool}{o:j6}:rg d t b o=⟨some d,o,some (t,b),[]⟩:=db rfl (dz _)
theorem aDa{l:List RI}{c:cn}:rq l c= .seq (.region l false []) c:=db rfl (dz _)
def kf(rs:List I7)(r:D):Exit→PS→Prop:=fun e s=>(e= .normal∨e= .ret)∧Wg s rs=some r
def cif(v:V)(A B:Prop):Prop:=
 match v with
 | .d (.bool x)=>if x then A else B
 |_=>False
def gif(v:V)(b:Bool)(A B:Prop):Prop:=
 match v with
 | .d (.bool c)=>if c=b then A else B
 |_=>False
def goV(P:Program)(r:List RI)(K:PS→Prop)(d:Option Nat)(s:PS)(x:Option V):Prop:=
 match x with
 |some v=>jn P r (s.put d v) K
 |none=>False
def goE(P:Program)(r:List RI)(K:PS→Prop)(d:Option Nat)(s:PS)(x:Option a2t):Prop:=
 match x with
 |some (ids,e)=>jn P r (e.app d (s.sn ids)) K
 |none=>False
def xd(P:Program)(r:List RI)(K:PS→Prop)(s:PS):Prop:=jn P r s K
section
variable{P:Program}{Q:Exit→PS→Prop}{K:PS→Prop}{s:PS}{r:List RI}{d:Option Nat}{af:List Nat}
theorem a9d{a b:cn}:jd P (.seq a b) Q s=jd P a (Ug P b Q) s:=by
 rw[Zl]
 congr 1
 funext e s'
 cases e<;>rfl
theorem aqc{id:Nat}{c:cn}:jd P (.block id c) Q s=jd P c (Xm id Q) s:=by
 rw[Wb]
 congr 1
 funext e s'
 cases e<;>rfl
theorem alb{c:lb}{a b:cn}:jd P (.cond c a b) Q s=cif (c.ev s) (jd P a Q s) (jd P b Q s):=db rfl (dz _)
theorem Jj{b:cn}:Ug P b Q .normal s=jd P b Q s:=db rfl (dz _)
theorem ai6{b:cn}{i:Nat}:Ug P b Q (.exit i) s=Q (.exit i) s:=db rfl (dz _)
theorem a9l{b:cn}:Ug P b Q .ret s=Q .ret s:=db rfl (dz _)
theorem a8t{id:Nat}:Xm id Q .normal s=Q .normal s:=db rfl (dz _)
theorem a2n{id i:Nat}:Xm id Q (.exit i) s=if i=id then Q .normal s else Q (.exit i) s:=db rfl (dz _)
theorem akw{id:Nat}:Xm id Q .ret s=Q .ret s:=db rfl (dz _)
theorem af5{rs:List I7}{x:D}:kf rs x .normal s=(Wg s rs=some x):=by simp[kf]
theorem a8f{rs:List I7}{x:D}:kf rs x .ret s=(Wg s rs=some x):=by simp[kf]
theorem ack{x:Bool}{A B:Prop}:cif (.d (.bool x)) A B=if x then A else B:=db rfl (dz _)
theorem azm{x b:Bool}{A B:Prop}:gif (.d (.bool x)) b A B=if x=b then A else B:=db rfl (dz _)
theorem Vj{v:V}:goV P r K d s (some v)=jn P r (s.put d v) K:=db rfl (dz _)
theorem Fk{ids:List Nat}{e:kn}:goE P r K d s (some (ids,e))=jn P r (e.app d (s.sn ids)) K:=db rfl (dz _)
theorem amq:xd P r K s=jn P r s K:=db rfl (dz _)
theorem an8{x:lb}:jn P (⟨d,.ij x,none,af⟩::r) s K=jn P r (s.put d (x.ev s)) K:=db rfl (dz _)
theorem anb{n:Nat}{g:Bool}{x:lb}:jn P (⟨d,.load n g x,none,af⟩::r) s K=goV P r K d s (A8 s n g (x.ev s)):=by
 show(match(A8 s n g (x.ev s)).map kn.qj with|some (ids,e)=>_|none=>_)=_
 cases A8 s n g (x.ev s)<;>rfl
theorem ane{n:Nat}{x i:lb}:jn P (⟨d,.te n x i,none,af⟩::r) s K=goV P r K d s (match i.ev s with| .d (.int _ k)=>I3 s n k (x.ev s)|_=>none):=by
 show(match(match i.ev s with| .d (.int _ k)=>(I3 s n k (x.ev s)).map kn.qj|_=>none)with|some (ids,e)=>_|none=>_)=_
 cases hi:i.ev s with
 |d z=>cases z with
  |int k n'=>simp only;cases I3 s n n' (x.ev s)<;>rfl
  |_=>rfl
 |_=>rfl
theorem anc{k:TK}{x:lb}:jn P (⟨d,.len k x,none,af⟩::r) s K=goV P r K d s ((Lw s k (x.ev s)).map fun n=> .d (.int .i64 n)):=by
 show(match(Lw s k (x.ev s)).map (fun n=>kn.qj (.d (.int .i64 n)))with|some (ids,e)=>_|none=>_)=_
 cases Lw s k (x.ev s)<;>rfl
def aAa(op:BinOp):V→V→Option V
 | .d a,.d b=>(a4g op a b).map .d
 |_,_=>none
theorem a8u{op:BinOp}{a b:D}:aAa op (.d a) (.d b)=(a4g op a b).map .d:=db rfl (dz _)
theorem aao{op:BinOp}{x y:lb}:jn P (⟨d,.bin op x y,none,af⟩::r) s K=goV P r K d s (aAa op (x.ev s) (y.ev s)):=by
 show(match(match x.ev s,y.ev s with| .d a,.d b=>(a4g op a b).map fun r=>kn.qj (.d r)|_,_=>none)with|some (ids,e)=>_|none=>_)=_
 cases hx:x.ev s with
 |d a=>
  cases hy:y.ev s with
  |d b=>simp only[a8u];cases a4g op a b<;>rfl
  |_=>rfl
 |_=>rfl
theorem ae6{c:lb}{a:lb}{b:lb}:jn P (⟨d,(.pick c a b),none,af⟩::r) s K=goE P r K d s ((j6.pick c a b).ml (s.base+d.getD 0) s):=db rfl (dz _)
theorem agv{z:List D}:jn P (⟨d,(.alloc z),none,af⟩::r) s K=goE P r K d s ((j6.alloc z).ml (s.base+d.getD 0) s):=db rfl (dz _)
theorem ayo{n:Nat}{x:lb}:jn P (⟨d,(.box n x),none,af⟩::r) s K=goE P r K d s ((j6.box n x).ml (s.base+d.getD 0) s):=db rfl (dz _)
theorem agu{n:Nat}{a:lb}{x:lb}:jn P (⟨d,(.store n a x),none,af⟩::r) s K=goE P r K d s ((j6.store n a x).ml (s.base+d.getD 0) s):=db rfl (dz _)
theorem arx{x:lb}:jn P (⟨d,(.V3 x),none,af⟩::r) s K=goE P r K d s ((j6.V3 x).ml (s.base+d.getD 0) s):=db rfl (dz _)
theorem ayk{o:Nat}{x:lb}:jn P (⟨d,(.xj o x),none,af⟩::r) s K=goE P r K d s ((j6.xj o x).ml (s.base+d.getD 0) s):=db rfl (dz _)
theorem aw0{l:Nat}{n:Nat}{x:lb}{i:lb}:jn P (⟨d,(.tf l n x i),none,af⟩::r) s K=goE P r K d s ((j6.tf l n x i).ml (s.base+d.getD 0) s):=db rfl (dz _)
theorem avz{x:lb}{i:lb}:jn P (⟨d,(.Wy x i),none,af⟩::r) s K=goE P r K d s ((j6.Wy x i).ml (s.base+d.getD 0) s):=db rfl (dz _)
theorem aw2{o:Nat}{n:Nat}{g:Bool}{x:lb}:jn P (⟨d,(.Zh o n g x),none,af⟩::r) s K=goE P r K d s ((j6.Zh o n g x).ml (s.base+d.getD 0) s):=db rfl (dz _)
theorem aym{ks:List LK}{n:Bool}{x:lb}{y:lb}:jn P (⟨d,(.eqs ks n x y),none,af⟩::r) s K=goE P r K d s ((j6.eqs ks n x y).ml (s.base+d.getD 0) s):=db rfl (dz _)
theorem as0{k:TK}{n:Bool}{x:lb}:jn P (⟨d,(.Hp k n x),none,af⟩::r) s K=goE P r K d s ((j6.Hp k n x).ml (s.base+d.getD 0) s):=db rfl (dz _)
theorem ayp{n:Bool}{x:lb}{y:lb}:jn P (⟨d,(.beq n x y),none,af⟩::r) s K=goE P r K d s ((j6.beq n x y).ml (s.base+d.getD 0) s):=db rfl (dz _)
theorem aBo{op:UnOp}{x:lb}:jn P (⟨d,(.un op x),none,af⟩::r) s K=goE P r K d s ((j6.un op x).ml (s.base+d.getD 0) s):=db rfl (dz _)
theorem aw4{k:IntKind}{x:lb}:jn P (⟨d,(.conv k x),none,af⟩::r) s K=goE P r K d s ((j6.conv k x).ml (s.base+d.getD 0) s):=db rfl (dz _)
theorem as2{x:lb}:jn P (⟨d,(.Ye x),none,af⟩::r) s K=goE P r K d s ((j6.Ye x).ml (s.base+d.getD 0) s):=db rfl (dz _)
theorem as7{z:List D}{ps:List (Nat×Nat×lb)}:jn P (⟨d,(.build z ps),none,af⟩::r) s K=goE P r K d s ((j6.build z ps).ml (s.base+d.getD 0) s):=db rfl (dz _)
theorem aw6{im:Bool}{n:Nat}{sz:Nat}{z:List D}{ps:List (Nat×Nat×lb)}:jn P (⟨d,(.xi im n sz z ps),none,af⟩::r) s K=goE P r K d s ((j6.xi im n sz z ps).ml (s.base+d.getD 0) s):=db rfl (dz _)
theorem Ex{sz:Nat}{b:Nat}{x:lb}{y:lb}:jn P (⟨d,(.app sz b x y),none,af⟩::r) s K=goE P r K d s ((j6.app sz b x y).ml (s.base+d.getD 0) s):=db rfl (dz _)
theorem arw{n:Nat}{x:lb}{lo:Option lb}{hi:Option lb}:jn P (⟨d,(.slice n x lo hi),none,af⟩::r) s K=goE P r K d s ((j6.slice n x lo hi).ml (s.base+d.getD 0) s):=db rfl (dz _)
theorem ary:jn P (⟨d,.Ho,none,af⟩::r) s K=goE P r K d s (j6.Ho.ml (s.base+d.getD 0) s):=db rfl (dz _)
theorem ana{kk:KK}{z:D}{x:lb}{i:lb}{ok:Bool}:jn P (⟨d,(.lookup kk z x i ok),none,af⟩::r) s K=goE P r K d s ((j6.lookup kk z x i ok).ml (s.base+d.getD 0) s):=db rfl (dz _)
theorem avw{kk:KK}{x:lb}{k:lb}{v:lb}:jn P (⟨d,(.Wq kk x k v),none,af⟩::r) s K=goE P r K d s ((j6.Wq kk x k v).ml (s.base+d.getD 0) s):=db rfl (dz _)
theorem arz{f:Nat}{caps:List lb}:jn P (⟨d,(.Kr f caps),none,af⟩::r) s K=goE P r K d s ((j6.Kr f caps).ml (s.base+d.getD 0) s):=db rfl (dz _)
theorem ayl{x:lb}{i:Nat}:jn P (⟨d,(.ext x i),none,af⟩::r) s K=goE P r K d s ((j6.ext x i).ml (s.base+d.getD 0) s):=db rfl (dz _)
theorem an9{mx:Bool}{x:lb}{y:lb}:jn P (⟨d,(.Ce mx x y),none,af⟩::r) s K=goE P r K d s ((j6.Ce mx x y).ml (s.base+d.getD 0) s):=db rfl (dz _)
theorem ani{n:Nat}:jn P (⟨d,(.w8 n),none,af⟩::r) s K=goE P r K d s ((j6.w8 n).ml (s.base+d.getD 0) s):=db rfl (dz _)
theorem avx{g:Nat}{n:Nat}{x:lb}:jn P (⟨d,(.init g n x),none,af⟩::r) s K=goE P r K d s ((j6.init g n x).ml (s.base+d.getD 0) s):=db rfl (dz _)
theorem anh{f:Nat}{args:List lb}:jn P (⟨d,.call f args,none,af⟩::r) s K=Dd P f (args.map (·.ev s)) [] false d s (xd P r K):=db rfl (dz _)
theorem aft{f:Nat}{args:List V}{caps ds:List D}{own:Bool}{x:D}(h1:Gt s args=some ds)(h2:fp P f (ds++caps) x)(h3:x.flat=true∨(own=false∧args.all V.isD=true))(h4:jn P r (s.put d (.d x)) K):Dd P f args caps own d s (xd P r K):=
 ⟨ds,x,h1,h2,h3,h4⟩
theorem Dg{f:Nat}{x:D}(h2:fp P f [] x)(h4:jn P r (s.put d (.d x)) K):Dd P f [] [] false d s (xd P r K):=⟨[],x,rfl,h2,.inr ⟨rfl,rfl⟩,h4⟩
theorem ee{f:Nat}{a x:D}(h2:fp P f [a] x)(h4:jn P r (s.put d (.d x)) K):Dd P f [.d a] [] false d s (xd P r K):=⟨[a],x,rfl,h2,.inr ⟨rfl,rfl⟩,h4⟩
theorem gf{f:Nat}{a b x:D}(h2:fp P f [a,b] x)(h4:jn P r (s.put d (.d x)) K):Dd P f [.d a,.d b] [] false d s (xd P r K):=⟨[a,b],x,rfl,h2,.inr ⟨rfl,rfl⟩,h4⟩
theorem Et{f:Nat}{a b c x:D}(h2:fp P f [a,b,c] x)(h4:jn P r (s.put d (.d x)) K):Dd P f [.d a,.d b,.d c] [] false d s (xd P r K):=⟨[a,b,c],x,rfl,h2,.inr ⟨rfl,rfl⟩,h4⟩
theorem Wp{op:j6}{t:Nat}{b:Bool}(h:s.tmp t= .d (.bool b)):jn P (⟨d,op,some (t,b),af⟩::r) s K=jn P (⟨d,op,none,af⟩::r) s K:=by
 have e:wanted (⟨d,op,some (t,b),af⟩:RI) s=some true:=by unfold wanted;simp[h]
 rw[zc,e,zc];rfl
theorem ajh{op:j6}{t:Nat}{b:Bool}(h:s.tmp t= .d (.bool !b)):jn P (⟨d,op,some (t,b),af⟩::r) s K=jn P r (s.put d (.d (.yi []))) K:=by
 have e:wanted (⟨d,op,some (t,b),af⟩:RI) s=some false:=by unfold wanted;simp only[h];cases b<;>rfl
 rw[zc,e]
theorem ajg{op:j6}{t:Nat}{b:Bool}(h:s.tmp t= .d (.yi [])):jn P (⟨d,op,some (t,b),af⟩::r) s K=jn P r (s.put d (.d (.yi []))) K:=by
 have e:wanted (⟨d,op,some (t,b),af⟩:RI) s=some false:=by unfold wanted;simp only[h]
 rw[zc,e]
theorem a9e{c:lb}{a b:cn}(h:c.ev s= .d (.bool true)):jd P (.cond c a b) Q s=jd P a Q s:=by
 rw[alb,h,ack,if_pos rfl]
theorem a9f{c:lb}{a b:cn}(h:c.ev s= .d (.bool false)):jd P (.cond c a b) Q s=jd P b Q s:=by
 rw[alb,h,ack,if_neg (by decide)]
theorem ava{b:Nat}:sh b []=[]:=rfl
theorem aql{b i:Nat}{l:List Nat}:sh b (i::l)=(b+i)::sh b l:=rfl
theorem ag1:nw []=[]:=rfl
theorem acq{o:RI}{l:List RI}:nw (o::l)=o.nw++nw l:=rfl
theorem Qi{ops:List RI}:jd P (.region ops false []) Q s=jn P ops s (Q .normal):=db rfl (dz _)
theorem amn{ops:List RI}:jd P (.region ops true []) Q s=jn P ops (s.sn (sh s.base (nw ops))) (Q .normal):=db rfl (dz _)
theorem an7{n:Nat}{x j k:lb}:jn P (⟨d,(.slice3 n x j k),none,af⟩::r) s K=goE P r K d s ((j6.slice3 n x j k).ml (s.base+d.getD 0) s):=db rfl (dz _)
theorem avy{l n:Nat}{g:Bool}{x i:lb}:jn P (⟨d,(.a14 l n g x i),none,af⟩::r) s K=goE P r K d s ((j6.a14 l n g x i).ml (s.base+d.getD 0) s):=db rfl (dz _)
def ac6(P:Program)(f:Nat)(args:List V)(d:Option Nat)(s:PS)(K:PS→Prop):Prop:=∃m' x,nj P f s.mem args m' x∧K ((s.gl m').put d x)
def auo(P:Program)(f:Nat)(args:List V)(d:Option Nat)(s:PS)(K:PS→Prop):Prop:=∃x,al5 P f s args x∧K (s.put d (.d x))
theorem as6{f:Nat}{args:List lb}:jn P (⟨d,.ti f args,none,af⟩::r) s K=ac6 P f (args.map (·.ev s)) d s (xd P r K):=db rfl (dz _)
theorem as5{f:Nat}{args:List lb}:jn P (⟨d,.M0 f args,none,af⟩::r) s K=auo P f (args.map (·.ev s)) d s (xd P r K):=db rfl (dz _)
theorem iu{f:Nat}{args:List V}{m':Mem}{x:V}(h1:nj P f s.mem args m' x)(h2:jn P r ((s.gl m').put d x) K):ac6 P f args d s (xd P r K):=⟨m',x,h1,h2⟩
theorem Ec{f:Nat}{args:List V}{x:D}(h1:al5 P f s args x)(h2:jn P r (s.put d (.d x)) K):auo P f args d s (xd P r K):=⟨x,h1,h2⟩
def ahd(P:Program)(c:Option D)(own:Bool)(args:List V)(d:Option Nat)(s:PS)(K:PS→Prop):Prop:=
 match c with
 |some (.mb g caps)=>Dd P g args caps own d s K
 |_=>False
theorem akm{g:Nat}{caps:List D}{own:Bool}{args:List V}:ahd P (some (.mb g caps)) own args d s K=Dd P g args caps own d s K:=db rfl (dz _)
theorem as3{f:lb}{args:List lb}:jn P (⟨d,.vb f args,none,af⟩::r) s K=ahd P (snap s (f.ev s)) (!(f.ev s).isD) (args.map (·.ev s)) d s (xd P r K):=by
 show(match snap s (f.ev s)with|some (.mb g caps)=>Dd P g (args.map fun x:lb=>x.ev s) caps (!(f.ev s).isD) d s (xd P r K)|_=>False)=_
 unfold ahd;split<;>rfl
theorem a2j{f:Nat}{caps:List D}{a x:D}(h2:fp P f (a::caps) x)(h4:jn P r (s.put d (.d x)) K):Dd P f [.d a] caps false d s (xd P r K):=⟨[a],x,rfl,h2,.inr ⟨rfl,rfl⟩,h4⟩
theorem Ly{f:Nat}{caps:List D}{a b x:D}(h2:fp P f (a::b::caps) x)(h4:jn P r (s.put d (.d x)) K):Dd P f [.d a,.d b] caps false d s (xd P r K):=⟨[a,b],x,rfl,h2,.inr ⟨rfl,rfl⟩,h4⟩
def Td(P:Program)(f:Nat)(args:List V)(d:Option Nat)(s:PS)(K:PS→Prop):Prop:=∃R,Cw P f s args R∧∀m' x,R m' x→K ((s.gl m').put d x)
theorem as4{f:Nat}{args:List lb}:jn P (⟨d,.pz f args,none,af⟩::r) s K=Td P f (args.map (·.ev s)) d s (xd P r K):=db rfl (dz _)
theorem jw{f:Nat}{args:List V}{R:Mem→V→Prop}(h1:Cw P f s args R)(h2:∀m' x,R m' x→jn P r ((s.gl m').put d x) K):Td P f args d s (xd P r K):=⟨R,h1,h2⟩
theorem a2k{f:Nat}{ds:List D}{R:D→Prop}(h1:T3 P f ds R)(h2:∀x,R x→jn P r (s.put d (.d x)) K):Td P f (ds.map .d) d s (xd P r K):=
 ⟨_,h1.toE,by rintro m' v ⟨rfl,x,rfl,hx⟩;exact h2 x hx⟩
theorem aA6{f:Nat}{a:D}{R:D→Prop}(h1:T3 P f [a] R)(h2:∀x,R x→jn P r (s.put d (.d x)) K):Td P f [.d a] d s (xd P r K):=a2k (ds:=[a]) h1 h2
theorem aA5{f:Nat}{a b:D}{R:D→Prop}(h1:T3 P f [a,b] R)(h2:∀x,R x→jn P r (s.put d (.d x)) K):Td P f [.d a,.d b] d s (xd P r K):=a2k (ds:=[a,b]) h1 h2
def afi(P:Program)(v:V)(args:List V)(d:Option Nat)(s:PS)(K:PS→Prop):Prop:=
 match v with
 | .d (.mb g caps)=>Td P g (args++caps.map .d) d s K
 |_=>False
theorem a2c{g:Nat}{caps:List D}{args:List V}:afi P (.d (.mb g caps)) args d s K=Td P g (args++caps.map .d) d s K:=db rfl (dz _)
theorem aan{f:lb}{args:List lb}:jn P (⟨d,.Lz f args,none,af⟩::r) s K=afi P (f.ev s) (args.map (·.ev s)) d s (xd P r K):=by
 show(match f.ev s with| .d (.mb g caps)=>∃R,Cw P g s ((args.map fun x:lb=>x.ev s)++caps.map V.d) R∧∀m' x,R m' x→xd P r K ((s.gl m').put d x)|_=>False)=_
 unfold afi;split<;>rfl
theorem anf{n sz:Nat}{z:List D}{ps:List (Nat×Nat×lb)}:jn P (⟨d,(.Xg n sz z ps),none,af⟩::r) s K=goE P r K d s ((j6.Xg n sz z ps).ml (s.base+d.getD 0) s):=db rfl (dz _)
theorem an6{n:Nat}{x j:lb}:jn P (⟨d,(.Le n x j),none,af⟩::r) s K=goE P r K d s ((j6.Le n x j).ml (s.base+d.getD 0) s):=db rfl (dz _)
theorem aw8{sz b:Nat}{z:List D}{x y:lb}:jn P (⟨d,(.Zi sz b z x y),none,af⟩::r) s K=goE P r K d s ((j6.Zi sz b z x y).ml (s.base+d.getD 0) s):=db rfl (dz _)
theorem aw5{x:lb}:jn P (⟨d,(.a8n x),none,af⟩::r) s K=goE P r K d s ((j6.a8n x).ml (s.base+d.getD 0) s):=db rfl (dz _)
theorem aw7{l n:Nat}{x:lb}:jn P (⟨d,(.a8v l n x),none,af⟩::r) s K=goE P r K d s ((j6.a8v l n x).ml (s.base+d.getD 0) s):=db rfl (dz _)
theorem aw3{n:Nat}{x j k:lb}:jn P (⟨d,(.Fo n x j k),none,af⟩::r) s K=goE P r K d s ((j6.Fo n x j k).ml (s.base+d.getD 0) s):=db rfl (dz _)
theorem avu{n:Nat}{x:lb}{lo hi mx:Option lb}:jn P (⟨d,(.Kv n x lo hi mx),none,af⟩::r) s K=goE P r K d s ((j6.Kv n x lo hi mx).ml (s.base+d.getD 0) s):=db rfl (dz _)
theorem avv{x:lb}:jn P (⟨d,(.trim x),none,af⟩::r) s K=goE P r K d s ((j6.trim x).ml (s.base+d.getD 0) s):=db rfl (dz _)
theorem ayn{z:List D}{x:lb}:jn P (⟨d,(.clr z x),none,af⟩::r) s K=goE P r K d s ((j6.clr z x).ml (s.base+d.getD 0) s):=db rfl (dz _)
def aun(P:Program)(kk:KK)(sz b:Nat)(x k y:V)(ts:List Nat)(d:Option Nat)(s:PS)(K:PS→Prop):Prop:=∃id s',ah8 s id kk sz b x k y ts s'∧K (s'.put d .no)
theorem aw1{kk:KK}{sz b:Nat}{x k y:lb}{ts:List Nat}:jn P (⟨d,(.Xc kk sz b x k y ts),none,af⟩::r) s K=aun P kk sz b (x.ev s) (k.ev s) (y.ev s) ts d s (xd P r K):=db rfl (dz _)
theorem ad2{a b:cn}:jd P (.both a b) Q s=(jd P a Q s∧jd P b Q s):=db rfl (dz _)
theorem Qg(ids:List Nat)(h:Q .normal (s.rb ids)):jd P .freeze Q s:=⟨ids,h⟩
theorem a0j{n:Nat}{v:V}:s.put (some n) v={s with tmp:=jf s.tmp n v}:=db rfl (dz _)
theorem amv{v:V}:s.put none v=s:=db rfl (dz _)
theorem aby{n:Nat}:(lb.t n).ev s=s.tmp n:=db rfl (dz _)
theorem azv{x:D}:(lb.c x).ev s= .d x:=db rfl (dz _)
end
section
variable{P:Program}{Q:Exit→PS→Prop}{K:PS→Prop}{s:PS}{r:List RI}{d:Option Nat}{af:List Nat}
def ak8(n k:Nat)(I:Nat→PS→Prop)(Q:Exit→PS→Prop):Exit→PS→Prop
 | .normal,s=>k<n∧I (k+1) s
 |e,s=>Q e s
theorem a1m{n k:Nat}{I:Nat→PS→Prop}:ak8 n k I Q .normal s=(k<n∧I (k+1) s):=db rfl (dz _)
theorem aoq{n k i:Nat}{I:Nat→PS→Prop}:ak8 n k I Q (.exit i) s=Q (.exit i) s:=db rfl (dz _)
theorem ati{n k:Nat}{I:Nat→PS→Prop}:ak8 n k I Q .ret s=Q .ret s:=db rfl (dz _)
theorem dq{c:cn}(n:Nat)(I:Nat→PS→Prop)(h0:I 0 s)(h:∀k s',k≤n→I k s'→jd P c (ak8 n k I Q) s'):jd P (.loop c) Q s:=by
 refine aml (fun s'=>∃k,k≤n∧I k s') (fun s'=>leastOf fun j=>∃k,k≤n∧n-k=j∧I k s') ⟨0,aFr _,h0⟩ ?_
 rintro s' ⟨k0,hk0,hI0⟩
 obtain⟨⟨k,hk,hj,hI⟩,_⟩:=leastOf_spec (p:=fun j=>∃k,k≤n∧n-k=j∧I k s') ⟨n-k0,k0,hk0,rfl,hI0⟩
 refine Dn (fun e s'' hQ=>?_) (h k s' hk hI)
 cases e with
 |normal=>
  obtain⟨iy,hI'⟩:=hQ;refine⟨⟨k+1,iy,hI'⟩,?_⟩
  have:=(leastOf_spec (p:=fun j=>∃k,k≤n∧n-k=j∧I k s'') ⟨n-(k+1),k+1,iy,rfl,hI'⟩).2 _ ⟨k+1,iy,rfl,hI'⟩
  omega
 |_=>exact hQ
def uc(s:PS)(id sz:Nat)(els:List (List D))(v:V):Prop:=
 (els=[]∧v= .d .bd)∨(els≠[]∧v= .ref id (s.ver id) els.length∧s.bm id=some (.arr sz els))
theorem uc.nil{id sz:Nat}:uc s id sz [] (.d .bd):= .inl ⟨rfl,rfl⟩
theorem uc.mono{s s':PS}{id sz:Nat}{els:List (List D)}{v:V}(h:uc s id sz els v)(hv:s'.ver id=s.ver id)(hb:s'.bm id=s.bm id):uc s' id sz els v:=by
 rcases h with ⟨h1,h2⟩|⟨h1,h2,h3⟩
 ·exact .inl ⟨h1,h2⟩
 ·exact .inr ⟨h1,by rw[hv];exact h2,by rw[hb];exact h3⟩
structure Grown(s s':PS)(d id sz:Nat)(els:List (List D)):Prop where
 tmp:s'.tmp=jf s.tmp d (.ref id (s'.ver id) els.length)
 bm:s'.bm=jf s.bm id (some (.arr sz els))
 ver:∀j,j≠id→s'.ver j=s.ver j
 mp:s'.mp=s.mp
 base:s'.base=s.base
theorem Grown.acc{s s':PS}{d id sz:Nat}{els:List (List D)}(h:Grown s s' d id sz els)(kg:els≠[]):uc s' id sz els (s'.tmp d):=
 .inr ⟨kg,by rw[h.tmp,bh],by rw[h.bm,bh]⟩
theorem r8{d sz b:Nat}{x y:lb}{els ys:List (List D)}{osz:Option Nat}(hx:uc s (s.base+d) sz els (x.ev s))(hy:ov s (y.ev s)=some (ys,osz))(C3:osz.getD sz=sz)
  (Ac:(ys.all fun e=>e.all D.one)=true)(hb:(els.length+ys.length)*b≤2^47)(kg:ys≠[])(h:∀s',Grown s s' d (s.base+d) sz (els++ys)→jn P r s' K):
  jn P (⟨some d,.app sz b x y,none,af⟩::r) s K:=by
 rw[Ex];have hl:0<ys.length:=acv.2 kg;rcases hx with ⟨rfl,hx⟩|⟨at2,hx,hblk⟩
 ·simp only[j6.ml,hx,hy,C3,j3]
  rw[if_pos trivial,if_neg (by omega),if_pos (by simpa using hb),Fk]
  refine h _ ⟨?_,?_,?_,rfl,rfl⟩
  ·simp[kn.app,PS.put,PS.sn,bh]
  ·simp[kn.app,PS.put,PS.sn]
  ·intro j hj
   simp[kn.app,PS.put,PS.sn,er _ _ _ _ hj]
 ·have he:s.els (s.base+d) (s.ver (s.base+d))=some (sz,els):=by
   unfold PS.els;rw[if_pos rfl,hblk]
  simp only[j6.ml,hx,hy,C3,j3,he];rw[if_pos trivial,if_pos ⟨Ac,trivial,trivial,hb⟩,Fk];refine h _ ⟨?_,?_,?_,rfl,rfl⟩
  ·simp[kn.app,PS.put,PS.sn]
  ·simp[kn.app,PS.put,PS.sn]
  ·intro j hj
   simp[kn.app,PS.put,PS.sn]
def ann(M:PS→Prop)(Q:Exit→PS→Prop):Exit→PS→Prop
 | .normal,s=>M s
 |e,s=>Q e s
theorem aec{M:PS→Prop}:ann M Q .normal s=M s:=db rfl (dz _)
theorem anm{M:PS→Prop}{i:Nat}:ann M Q (.exit i) s=Q (.exit i) s:=db rfl (dz _)
theorem asd{M:PS→Prop}:ann M Q .ret s=Q .ret s:=db rfl (dz _)
theorem amt{c b:cn}(M:PS→Prop)(h1:jd P c (ann M Q) s)(h2:∀s',M s'→jd P b Q s'):jd P c (Ug P b Q) s:=
 Dn (fun e s' h=>by cases e<;>first|exact h2 s' h|exact h) h1
theorem Ur{l:List RI}(M:PS→Prop)(h1:jn P l s M)(h2:∀s',M s'→K s'):jn P l s K:=a52 h2 h1
theorem rv{c b:cn}{i:Nat}(M:PS→Prop)(h1:jd P c (Xm i (ann M Q)) s)(h2:∀s',M s'→jd P b Q s'):jd P c (Xm i (Ug P b Q)) s:=
 Dn (fun e s' h=>by
  cases e with
  |exit j=>
   rw[a2n]at h⊢;split
   ·rename_i hj;rw[if_pos hj]at h;exact h2 s' h
   ·rename_i hj;rw[if_neg hj]at h;exact h
  |normal=>exact h2 s' h
  |_=>exact h) h1
def Ea(s:PS)(ids:List Nat)(j:Nat):Option B:=match s.bm j with
 |some (.loc cs)=>some (.loc (cs.map (C.rb s ids)))
 |some (.ny sz els)=>some (Uz (.ny sz (els.map fun e=>e.map (C.rb s ids))))
 |b=>b
def a5n(s:PS)(ids:List Nat)(j:Nat):Option (List (D×C)):=(s.mp j).map fun es=>es.map fun e=>(e.1,C.rb s ids e.2)
theorem aha(i:Nat):s.rb [i]={s with tmp:=fun t=>(s.tmp t).rb s [i],bm:=jf (Ea s [i]) i none,mp:=jf (a5n s [i]) i none}:=rfl
theorem Vk{ids:List Nat}(h:ids≠[]):s.rb ids=PS.sn ids {s with tmp:=fun t=>(s.tmp t).rb s ids,bm:=Ea s ids,mp:=a5n s ids}:=by
 cases ids with
 |nil=>exact absurd rfl h
 |cons i r=>rfl
theorem Fv{ids:List Nat}(h:ids≠[])(t:Nat):(s.rb ids).tmp t=(s.tmp t).rb s ids:=by rw[Vk h,Zp]
theorem I1{ids:List Nat}(h:ids≠[]){i:Nat}(hi:i∉ids):(s.rb ids).bm i=Ea s ids i:=by rw[Vk h,(Wl _ _ _).1,if_neg hi]
theorem a8a{ids:List Nat}(h:ids≠[]){i:Nat}(hi:i∉ids):(s.rb ids).mp i=a5n s ids i:=by rw[Vk h,(Wl _ _ _).2,if_neg hi]
theorem Zo(ids:List Nat):∀(s:PS),(s.sn ids).ver=s.ver:=by
 induction ids with
 |nil=>intro s;rfl
 |cons i r ih=>intro s;exact ih _
theorem Zv{ids:List Nat}(h:ids≠[]):(s.rb ids).ver=s.ver:=by rw[Vk h,Zo]
theorem aiz{ops:List RI}{fz:List Nat}:jd P (.region ops true fz) Q s=jn P ops ((s.rb (sh s.base fz)).sn (sh s.base (nw ops))) (Q .normal):=db rfl (dz _)
theorem fp.Qe{f:Nat}{args:List D}{r r':D}(h:fp P f args r)(hw:∀G v,fh G r v→fh G r' v):fp P f args r':=by
 refine⟨h.1,fun G w vs hG hl hr=>(h.2 G w vs hG hl hr).mono ?_⟩
 rintro e w' ⟨v,G',he,k1,k2,k3,k4,k5⟩;exact⟨v,G',he,k1,k2,k3,k4,hw _ _ k5⟩
theorem axi{sz:Nat}:∀G v,fh G .Kx v→fh G (.dt sz []) v:=by
 intro G v h;cases h;exact .Uk
theorem fp.split{f sz:Nat}{as:List D}{r:D}(h1:fp P f (.bd::as) r)(h2:fp P f (.Kx::as) r):fp P f (.dt sz []::as) r:=by
 refine⟨h1.1,fun G w vs hG hl hr=>?_⟩
 have hl':vs.size=as.length+1:=by simpa using hl
 have h0:=hr 0 (.dt sz []) vs[0] rfl (av (by omega))
 have rest:∀y:D,fh G y vs[0]→∀(i:Nat) (x:D) (v:Value),(y::as)[i]? =some x→vs[i]? =some v→fh G x v:=by
  intro y hy i x v hx hv
  cases i with
  |zero=>
   simp only[ff,ah]at hx
   rw[av (by omega)]at hv
   injection hv with hv
   subst hx hv;exact hy
  |succ i=>exact hr (i+1) x v hx hv
 generalize hv0:vs[0]=v0 at h0 rest
 cases h0 with
 |Tb=>exact h1.2 G w vs hG (by simpa using hl) (rest _ .bd)
 |dt=>exact h2.2 G w vs hG (by simpa using hl) (rest _ .Kx)
 |Uk=>exact h2.2 G w vs hG (by simpa using hl) (rest _ .Kx)
theorem Iy{sz:Nat}:∀G v,fh G .bd v→fh G (.dt sz []) v:=by
 intro G v h;cases h;exact .Tb
end
attribute [go_sem] aD3 aD6 aD5 aD7 aCw aD0 aD8 aD4 aCz aCy aCx aCu aD1 aD2 aCv aDd aDe aDh aD9 aDi av1 List.getD_cons_succ aDf aDc aDb aDg aDa cu ez aa8 Qi amn a9d a9e a9f aqc amm a6y Jj ai6 a9l a8t a2n akw a8f af5 Qk Wp ajh ajg an8 ae6 anc aao ane anb ayo agv aw0 avz avy as7 agu arx ayk aw2 aym as0 ayp aBo aw4 as2 aw6 arw an7 anf an6 avu avv ayn aw8 aw5 aw7 aw3 aw1 ary ana avw arz ayl an9 ani avx anh as6 as5 as3 akm as4 aan a2c Vj Fk a0j amv aby azv al acq ag1 RI.nw ava aql PS.sn amq a1z S9 Oh Pz PS.Gl B.Bg mkt V.ent PS.elc aAt Ji ff jx j6.ml V.cells aGz Cq kn.app PS.put kn.qj Ox PS.cs PS.els Option.getD aGm Option.bind A8 w9 Lw I3 aGs aGu mkv mkd J4 C.toV V.toC a8u a4g Y7 aga Wg ady Xz Ut axt Int.le_refl Int.toNat_zero aht eh xu and_self or_true true_or true_and and_true Hl Ju patch List.append vp An th Sl aEw C.one D.one aFb F9 qu ar bq dh a9a F8 List.drop_succ_cons aF2 Mh Nr ec Bool.true_eq_false ne_eq not_false_eq_true not_true_eq_false decide_true decide_false ahq Option.toList_none start gt_iff_lt ge_iff_le Gt snap V.isD D.flat D.scalar ah D.bool.injEq D.int.injEq V.live yr Ls if_true if_false isNil a1m aoq ati aec anm asd Nat.lt_irrefl Int.lt_irrefl eq_self dw Lp R5 chunks aq1 aE1
def Nf:cn:=
 rq [wx 3 2 0,wx 4 2 1,wx 5 2 2,wc 6 0] (rq [wa 7 2 1 4 0,rl 8 1 false 7,wa 9 2 1 3 0,
 rl 10 1 false 9,wb 11 .sub 8 10,wa 12 2 1 5 1,rl 13 1 false 12,wa 14 2 1 3 1,rl 15 1 false 14,
 wb 16 .sub 13 15,wb 17 .mul 11 16,wa 18 2 1 4 1,rl 19 1 false 18,wa 20 2 1 3 1,rl 21 1 false 20,
 wb 22 .sub 19 21,wa 23 2 1 5 0,rl 24 1 false 23,wa 25 2 1 3 0,rl 26 1 false 25,wb 27 .sub 24 26,
 wb 28 .mul 22 27,wb 29 .sub 17 28,rm 6 29] .ret)
def H7:cn:=
 rq [wc 2 0] (.seq (.block 0 (rq [rm 4 0,wd 5 .lss 4 0,rm 3 5] (wt 3 (rq [wc 2 (-1)] .ret) (rq [rm 7 0,
 wd 8 .gtr 7 0,rm 6 8] (wt 6 (rq [wc 2 1] .ret) .skip))))) (rq [wc 2 0] .ret))
def Na:cn:=
 rq [wx 2 2 0,wx 3 2 1,ri 4 (.alloc [(.int .i64 0),(.int .i64 0)])] (rq [wa 5 2 1 2 0,rl 6 1 false 5,
 wa 7 2 1 3 0,rl 8 1 false 7,wb 9 .sub 6 8,wa 10 2 1 2 1,rl 11 1 false 10,wa 12 2 1 3 1,
 rl 13 1 false 12,wb 14 .sub 11 13,ri 15 (.build [(.int .i64 0),(.int .i64 0)] [(0,1,(.t 9)),(1,1,(.t 14))]),ws 2 4 15] .ret)
def Cx:cn:=
 rq [wx 1 2 0,wf 2 false] (rq [wa 3 2 1 1 0,rl 4 1 false 3,wd 5 .geq 4 (-500),rm 6 5,
 rg 7 6 true (.tf 2 1 (.t 1) (ci 0)),wl 8 6 true 1 false 7,rg 9 6 true (.bin .leq (.t 8) (ci 500)),wp 10 6 9,rm 11 10,
 rg 12 11 true (.tf 2 1 (.t 1) (ci 1)),wl 13 11 true 1 false 12,rg 14 11 true (.bin .geq (.t 13) (ci (-500))),
 wp 15 11 14,rm 16 15,rg 17 16 true (.tf 2 1 (.t 1) (ci 1)),wl 18 16 true 1 false 17,
 rg 19 16 true (.bin .leq (.t 18) (ci 500)),wp 20 16 19,rm 2 20] .ret)
def Te(lq:Nat):cn:=
 rq [wx 2 4 0,wx 3 2 1,wf 4 false] (.seq (rq [rf 5 0 2,rl 6 2 true 5,rf 7 2 2,rl 8 2 true 7,rl 9 2 true 3,
 ri 10 (.call lq [(.t 6),(.t 8),(.t 9)]),wd 11 .neq 10 0] (wt 11 (rq [wf 4 false] .ret) .skip)) (rq [rf 12 0 2,
 wa 13 2 1 12 0,rl 14 1 false 13,rf 15 2 2,wa 16 2 1 15 0,rl 17 1 false 16,ri 18 (.Ce false (.t 14) (.t 17)),
 wa 19 2 1 3 0,rl 20 1 false 19,wb 21 .leq 18 20,rm 22 21,rg 23 22 true (.tf 2 1 (.t 3) (ci 0)),wl 24 22 true 1 false 23,
 rg 25 22 true (.xj 0 (.t 2)),rg 26 22 true (.tf 2 1 (.t 25) (ci 0)),wl 27 22 true 1 false 26,rg 28 22 true (.xj 2 (.t 2)),
 rg 29 22 true (.tf 2 1 (.t 28) (ci 0)),wl 30 22 true 1 false 29,rg 31 22 true (.Ce true (.t 27) (.t 30)),rg 32 22 true (.bin .leq (.t 24) (.t 31)),
 wp 33 22 32,rm 34 33,rg 35 34 true (.xj 0 (.t 2)),rg 36 34 true (.tf 2 1 (.t 35) (ci 1)),wl 37 34 true 1 false 36,
 rg 38 34 true (.xj 2 (.t 2)),rg 39 34 true (.tf 2 1 (.t 38) (ci 1)),wl 40 34 true 1 false 39,rg 41 34 true (.Ce false (.t 37) (.t 40)),
 rg 42 34 true (.tf 2 1 (.t 3) (ci 1)),wl 43 34 true 1 false 42,rg 44 34 true (.bin .leq (.t 41) (.t 43)),wp 45 34 44,
 rm 46 45,rg 47 46 true (.tf 2 1 (.t 3) (ci 1)),wl 48 46 true 1 false 47,rg 49 46 true (.xj 0 (.t 2)),rg 50 46 true (.tf 2 1 (.t 49) (ci 1)),
 wl 51 46 true 1 false 50,rg 52 46 true (.xj 2 (.t 2)),rg 53 46 true (.tf 2 1 (.t 52) (ci 1)),wl 54 46 true 1 false 53,
 rg 55 46 true (.Ce true (.t 51) (.t 54)),rg 56 46 true (.bin .leq (.t 48) (.t 55)),wp 57 46 56,rm 4 57] .ret))
def Ir(lq yn:Nat):cn:=
 rq [wx 2 4 0,wx 3 4 1,wf 4 false] (.seq (.region [rf 5 0 2,rl 6 2 true 5,rf 7 2 2,rl 8 2 true 7,rf 9 0 3,rl 10 2 true 9,
 ri 11 (.call lq [(.t 6),(.t 8),(.t 10)]),ri 12 (.call yn [(.t 11)]),rf 13 0 2,rl 14 2 true 13,rf 15 2 2,rl 16 2 true 15,rf 17 2 3,rl 18 2 true 17,
 ri 19 (.call lq [(.t 14),(.t 16),(.t 18)]),ri 20 (.call yn [(.t 19)]),wb 21 .mul 12 20,wd 22 .lss 21 0,rm 23 22,
 rg 24 23 true (.xj 0 (.t 3)),wl 25 23 true 2 true 24,rg 26 23 true (.xj 2 (.t 3)),wl 27 23 true 2 true 26,rg 28 23 true (.xj 0 (.t 2)),
 wl 29 23 true 2 true 28,rg 30 23 true (.call lq [(.t 25),(.t 27),(.t 29)]),rg 31 23 true (.call yn [(.t 30)]),
 rg 32 23 true (.xj 0 (.t 3)),wl 33 23 true 2 true 32,rg 34 23 true (.xj 2 (.t 3)),wl 35 23 true 2 true 34,rg 36 23 true (.xj 2 (.t 2)),
 wl 37 23 true 2 true 36,rg 38 23 true (.call lq [(.t 33),(.t 35),(.t 37)]),rg 39 23 true (.call yn [(.t 38)]),
 rg 40 23 true (.bin .mul (.t 31) (.t 39)),rg 41 23 true (.bin .lss (.t 40) (ci 0)),wp 42 23 41,rm 4 42] true []) .ret)
def H8:cn:=
 rq [wx 2 2 0,wx 3 2 1,wc 4 0] (rq [wa 7 2 1 2 0,rl 8 1 false 7,wa 9 2 1 3 1,rl 10 1 false 9,
 wb 11 .mul 8 10,wa 12 2 1 2 1,rl 13 1 false 12,wa 14 2 1 3 0,rl 15 1 false 14,wb 16 .mul 13 15,
 wb 17 .sub 11 16,rm 5 17] (rq [wa 18 2 1 2 0,rl 19 1 false 18,wa 20 2 1 3 0,rl 21 1 false 20,
 wb 22 .mul 19 21,wa 23 2 1 2 1,rl 24 1 false 23,wa 25 2 1 3 1,rl 26 1 false 25,wb 27 .mul 24 26,
 wb 28 .add 22 27,rm 6 28] (.seq (.block 0 (rq [rm 30 5,wd 31 .lss 30 0,
 rm 29 31] (wt 29 (rq [wc 4 0] .ret) (rq [rm 33 5,wd 34 .gtr 33 0,
 rm 32 34] (wt 32 (rq [wc 4 2] .ret) (rq [rm 36 6,wd 37 .lss 36 0,
 rm 35 37] (wt 35 (rq [wc 4 1] .ret) .skip))))))) (rq [wc 4 3] .ret))))
def Lk(uw:Nat):cn:=
 rq [wx 3 2 0,wx 4 2 1,wx 5 2 2,wf 6 false] (.seq (.region [rl 9 2 true 3,rl 10 2 true 4,
 ri 11 (.call uw [(.t 9),(.t 10)]),rl 12 2 true 3,rl 13 2 true 5,ri 14 (.call uw [(.t 12),(.t 13)]),rm 7 11,
 rm 8 14] true []) (.seq (rq [rm 15 7,rm 16 8,wb 17 .neq 15 16] (wt 17 (rq [rm 18 7,rm 19 8,wb 20 .lss 18 19,
 rm 6 20] .ret) .skip)) (rq [wa 21 2 1 4 0,rl 22 1 false 21,wa 23 2 1 5 1,rl 24 1 false 23,wb 25 .mul 22 24,
 wa 26 2 1 4 1,rl 27 1 false 26,wa 28 2 1 5 0,rl 29 1 false 28,wb 30 .mul 27 29,wb 31 .sub 25 30,
 wd 32 .lss 31 0,rm 6 32] .ret)))
def Nc:cn:=
 rq [wo 2] (rq [wo 3] (.seq (rq [wc 4 0] (.block 0 (.loop (.seq (rq [rm 6 4,rm 7 0,wn 8 7,
 wb 9 .lss 6 8] (wt 9 .skip (.exit 0))) (.seq (.block 1 (rq [wc 5 0] (.block 2 (.loop (.seq (rq [rm 12 5,rm 13 0,rm 14 4,
 wi 15 1 13 14,rl 16 1 false 15,wn 17 16,
 wb 18 .lss 12 17] (wt 18 .skip (.exit 2))) (.seq (.block 3 (.region [rm 21 3,rm 22 0,rm 23 4,wi 24 1 22 23,rl 25 1 false 24,
 rm 26 5,wi 27 2 25 26,rl 28 2 true 27,rm 29 0,rm 30 4,wi 31 1 29 30,rl 32 1 false 31,rm 33 5,wd 34 .add 33 1,rm 35 0,
 rm 36 4,wi 37 1 35 36,rl 38 1 false 37,wn 39 38,wb 40 .rem 34 39,wi 41 2 32 40,rl 42 2 true 41,
 ri 43 (.build [(.int .i64 0),(.int .i64 0),(.int .i64 0),(.int .i64 0)] [(0,2,(.t 28)),(2,2,(.t 42))]),
 ri 44 (.xi false 1 4 [(.int .i64 0),(.int .i64 0),(.int .i64 0),(.int .i64 0)] [(0,4,(.t 43))]),ri 45 (.app 4 32 (.t 21) (.t 44)),rm 3 45] true [])) (.region [rm 19 5,
 wd 20 .add 19 1,rm 5 20] false []))))))) (.region [rm 10 4,wd 11 .add 10 1,rm 4 11] false [])))))) (rq [rm 46 3,rm 2 46] .ret)))
def Pe(lq:Nat):cn:=
 rq [wc 4 0] (rq [rm 13 0,rm 14 1,wi 15 4 13 14,rl 16 4 true 15,ri 5 (.alloc [(.int .i64 0),(.int .i64 0),(.int .i64 0),(.int .i64 0)]),
 ws 4 5 16] (.seq (rq [rf 17 0 5,wa 18 2 1 17 0,rl 19 1 false 18,rf 20 2 5,wa 21 2 1 20 0,rl 22 1 false 21,
 wb 23 .eql 19 22] (wt 23 (rq [wo 6] (.seq (rq [wc 7 0] (.block 0 (.loop (.seq (rq [rm 24 7,rm 25 0,
 wn 26 25,wb 27 .lss 24 26] (wt 27 .skip (.exit 0))) (.seq (.block 1 (.region [rm 30 6,rm 31 0,rm 32 7,
 wi 33 4 31 32,rf 34 0 33,wa 35 2 1 34 1,rl 36 1 false 35,ri 37 (.un .neg (.t 36)),rm 38 0,rm 39 7,wi 40 4 38 39,
 rf 41 0 40,wa 42 2 1 41 0,rl 43 1 false 42,ri 44 (.build [(.int .i64 0),(.int .i64 0)] [(0,1,(.t 37)),(1,1,(.t 43))]),rm 45 0,rm 46 7,
 wi 47 4 45 46,rf 48 2 47,wa 49 2 1 48 1,rl 50 1 false 49,ri 51 (.un .neg (.t 50)),rm 52 0,rm 53 7,wi 54 4 52 53,
 rf 55 2 54,wa 56 2 1 55 0,rl 57 1 false 56,ri 58 (.build [(.int .i64 0),(.int .i64 0)] [(0,1,(.t 51)),(1,1,(.t 57))]),
 ri 59 (.build [(.int .i64 0),(.int .i64 0),(.int .i64 0),(.int .i64 0)] [(0,2,(.t 44)),(2,2,(.t 58))]),
 ri 60 (.xi false 1 4 [(.int .i64 0),(.int .i64 0),(.int .i64 0),(.int .i64 0)] [(0,4,(.t 59))]),ri 61 (.app 4 32 (.t 30) (.t 60)),rm 6 61] true [])) (.region [rm 28 7,
 wd 29 .add 28 1,rm 7 29] false [])))))) (.region [rm 62 6,rm 63 6,rm 64 1,wi 65 4 63 64,rl 66 4 true 65,rm 0 62,
 ws 4 5 66] true [61]))) .skip)) (rq [rf 67 0 5,wa 68 2 1 67 0,rl 69 1 false 68,rf 70 2 5,wa 71 2 1 70 0,
 rl 72 1 false 71,wb 73 .add 69 72,rf 74 0 5,wa 75 2 1 74 1,rl 76 1 false 75,rf 77 2 5,wa 78 2 1 77 1,
 rl 79 1 false 78,wb 80 .add 76 79,ri 81 (.build [(.int .i64 0),(.int .i64 0)] [(0,1,(.t 73)),(1,1,(.t 80))]),ri 8 (.alloc [(.int .i64 0),(.int .i64 0)]),
 ws 2 8 81] (rq [wc 9 0] (.seq (rq [wc 10 0] (.block 2 (.loop (.seq (rq [rm 82 10,rm 83 0,wn 84 83,
 wb 85 .lss 82 84] (wt 85 .skip (.exit 2))) (.seq (.block 3 (.seq (.region [rm 88 0,rm 89 10,wi 90 4 88 89,rf 91 0 90,
 wa 92 2 1 91 0,rl 93 1 false 92,ri 94 (.bin .mul (ci 2) (.t 93)),rm 95 0,rm 96 10,wi 97 4 95 96,rf 98 0 97,
 wa 99 2 1 98 1,rl 100 1 false 99,ri 101 (.bin .mul (ci 2) (.t 100)),ri 102 (.build [(.int .i64 0),(.int .i64 0)] [(0,1,(.t 94)),(1,1,(.t 101))]),
 rm 103 0,rm 104 10,wi 105 4 103 104,rf 106 2 105,wa 107 2 1 106 0,rl 108 1 false 107,ri 109 (.bin .mul (ci 2) (.t 108)),rm 110 0,
 rm 111 10,wi 112 4 110 111,rf 113 2 112,wa 114 2 1 113 1,rl 115 1 false 114,ri 116 (.bin .mul (ci 2) (.t 115)),
 ri 117 (.build [(.int .i64 0),(.int .i64 0)] [(0,1,(.t 109)),(1,1,(.t 116))]),ri 11 (.w8 2),ri 12 (.w8 2),rn (.init 11 2 (.t 102)),
 rn (.init 12 2 (.t 117))] true []) (.seq (rq [rm 118 10,rm 119 1,
 wb 120 .eql 118 119] (wt 120 (.exit 3) .skip)) (.block 4 (rq [wa 122 2 1 11 0,rl 123 1 false 122,
 wa 124 2 1 8 0,rl 125 1 false 124,wb 126 .leq 123 125,rm 127 126,rg 128 127 true (.tf 2 1 (.t 8) (ci 0)),
 wl 129 127 true 1 false 128,rg 130 127 true (.tf 2 1 (.t 12) (ci 0)),wl 131 127 true 1 false 130,
 rg 132 127 true (.bin .lss (.t 129) (.t 131)),wp 133 127 132,rm 134 133,wl 135 134 true 2 true 11,
 wl 136 134 true 2 true 12,wl 137 134 true 2 true 8,rg 138 134 true (.call lq [(.t 135),(.t 136),(.t 137)]),
 rg 139 134 true (.bin .lss (.t 138) (ci 0)),wp 140 134 139,rm 121 140] (wt 121 (.region [rm 141 9,
 wd 142 .sub 141 1,rm 9 142] false []) (rq [wa 144 2 1 12 0,rl 145 1 false 144,wa 146 2 1 8 0,rl 147 1 false 146,
 wb 148 .leq 145 147,rm 149 148,rg 150 149 true (.tf 2 1 (.t 8) (ci 0)),wl 151 149 true 1 false 150,
 rg 152 149 true (.tf 2 1 (.t 11) (ci 0)),wl 153 149 true 1 false 152,rg 154 149 true (.bin .lss (.t 151) (.t 153)),
 wp 155 149 154,rm 156 155,wl 157 156 true 2 true 11,wl 158 156 true 2 true 12,
 wl 159 156 true 2 true 8,rg 160 156 true (.call lq [(.t 157),(.t 158),(.t 159)]),rg 161 156 true (.bin .gtr (.t 160) (ci 0)),
 wp 162 156 161,rm 143 162] (wt 143 (.region [rm 163 9,wd 164 .add 163 1,
 rm 9 164] false []) .skip)))))))) (.region [rm 86 10,wd 87 .add 86 1,rm 10 87] false [])))))) (.seq (rq [rf 165 0 5,wa 166 2 1 165 0,
 rl 167 1 false 166,rf 168 2 5,wa 169 2 1 168 0,rl 170 1 false 169,wb 171 .gtr 167 170] (wt 171 (.region [rm 172 9,
 wd 173 .add 172 1,rm 9 173] false []) .skip)) (rq [rm 174 9,rm 4 174] .ret)))))))
def N9(ss Bz:Nat):cn:=
 rq [wf 4 false] (.seq (rq [wc 5 0] (.block 0 (.loop (.seq (rq [rm 13 5,rm 14 0,wn 15 14,
 wb 16 .lss 13 15] (wt 16 .skip (.exit 0))) (.seq (.block 1 (rq [rm 19 0,rm 20 5,wi 21 1 19 20,rl 22 1 false 21,
 wn 23 22,rm 6 23] (rq [wc 7 0] (.block 2 (.loop (.seq (rq [rm 24 7,rm 25 6,
 wb 26 .lss 24 25] (wt 26 .skip (.exit 2))) (.seq (.block 3 (.seq (.region [rm 29 0,rm 30 5,wi 31 1 29 30,rl 32 1 false 31,
 rm 33 7,wd 34 .add 33 1,rm 35 6,wb 36 .rem 34 35,wi 37 2 32 36,rl 38 2 true 37,rm 39 0,rm 40 5,
 wi 41 1 39 40,rl 42 1 false 41,rm 43 7,wd 44 .add 43 2,rm 45 6,wb 46 .rem 44 45,wi 47 2 42 46,
 rl 48 2 true 47,ri 8 (.w8 2),ri 9 (.w8 2),rn (.init 8 2 (.t 38)),rn (.init 9 2 (.t 48))] true []) (.seq (.region [rm 49 0,rm 50 5,wi 51 1 49 50,
 rl 52 1 false 51,rm 53 7,wi 54 2 52 53,rl 55 2 true 54,rl 56 2 true 8,ri 57 (.call ss [(.t 55),(.t 56)]),ri 10 (.w8 2),
 rn (.init 10 2 (.t 57))] true []) (rq [wc 11 0] (.block 4 (.loop (.seq (rq [rm 58 11,rm 59 1,wn 60 59,
 wb 61 .lss 58 60] (wt 61 .skip (.exit 4))) (.seq (.block 5 (rq [ri 64 (.build [(.int .i64 0),(.int .i64 0)] []),
 ri 12 (.alloc [(.int .i64 0),(.int .i64 0)]),ws 2 12 64] (.seq (rq [rl 65 2 true 8] (.block 6 (rq [rm 67 1,rm 68 11,wi 69 4 67 68,
 rf 70 0 69,rl 71 2 true 70,ri 72 (.eqs [.int,.int] false (.t 65) (.t 71)),rm 66 72] (wt 66 (.region [rm 73 1,rm 74 11,wi 75 4 73 74,rf 76 2 75,
 rl 77 2 true 76,rl 78 2 true 8,ri 79 (.call ss [(.t 77),(.t 78)]),ws 2 12 79] true []) (rq [rm 81 1,rm 82 11,
 wi 83 4 81 82,rf 84 2 83,rl 85 2 true 84,ri 86 (.eqs [.int,.int] false (.t 65) (.t 85)),rm 80 86] (wt 80 (.region [rm 87 1,rm 88 11,
 wi 89 4 87 88,rf 90 0 89,rl 91 2 true 90,rl 92 2 true 8,ri 93 (.call ss [(.t 91),(.t 92)]),
 ws 2 12 93] true []) (.exit 5))))))) (.seq (.region [rl 94 2 true 12,rl 95 2 true 10,ri 96 (.eqs [.int,.int] true (.t 94) (.t 95)),rm 97 96,
 wl 98 97 true 2 true 12,wl 99 97 true 2 true 9,wl 100 97 true 2 true 8,rg 101 97 true (.call ss [(.t 99),(.t 100)]),
 rg 102 97 true (.eqs [.int,.int] true (.t 98) (.t 101)),wp 103 97 102,rm 104 103,wl 105 104 true 2 true 10,
 wl 106 104 true 2 true 12,wl 107 104 true 2 true 9,wl 108 104 true 2 true 8,
 rg 109 104 true (.call ss [(.t 107),(.t 108)]),rg 110 104 true (.call Bz [(.t 105),(.t 106),(.t 109)]),
 wp 111 104 110] true []) (wt 111 (rq [wf 4 false] .ret) .skip))))) (.region [rm 62 11,
 wd 63 .add 62 1,rm 11 63] false []))))))))) (.region [rm 27 7,wd 28 .add 27 1,rm 7 28] false [])))))))) (.region [rm 17 5,
 wd 18 .add 17 1,rm 5 18] false [])))))) (rq [wf 4 true] .ret))
def Nb(D2 Bc J0 zf Er D1:Nat):cn:=
 rq [wf 2 false] (rq [wc 3 0] (.seq (rq [wc 4 0] (.block 0 (.loop (.seq (rq [rm 10 4,rm 11 0,wn 12 11,
 wb 13 .lss 10 12] (wt 13 .skip (.exit 0))) (.seq (.block 1 (rq [rm 16 3,rm 17 0,rm 18 4,wi 19 1 17 18,rl 20 1 false 19,
 wn 21 20,wb 22 .add 16 21,rm 3 22] (.seq (rq [rm 23 0,rm 24 4,wi 25 1 23 24,rl 26 1 false 25,
 wn 27 26,wd 28 .lss 27 3,rm 29 28,wm 30 29 false 3,rg 31 29 false (.bin .gtr (.t 30) (ci 60)),
 wq 32 29 31] (wt 32 (rq [wf 2 false] .ret) .skip)) (rq [wc 5 0] (.block 2 (.loop (.seq (rq [rm 33 5,
 rm 34 0,rm 35 4,wi 36 1 34 35,rl 37 1 false 36,wn 38 37,
 wb 39 .lss 33 38] (wt 39 .skip (.exit 2))) (.seq (.block 3 (rq [rm 42 0,rm 43 4,wi 44 1 42 43,rl 45 1 false 44,rm 46 5,
 wi 47 2 45 46,rl 48 2 true 47,ri 49 (.call D2 [(.t 48)]),
 ri 50 (.un .not (.t 49))] (wt 50 (rq [wf 2 false] .ret) .skip))) (.region [rm 40 5,wd 41 .add 40 1,
 rm 5 41] false []))))))))) (.region [rm 14 4,wd 15 .add 14 1,rm 4 15] false [])))))) (rq [rm 51 0,ri 52 (.call Bc [(.t 51)]),
 rm 6 52] (.seq (rq [wc 7 0] (.block 4 (.loop (.seq (rq [rm 53 7,rm 54 6,wn 55 54,
 wb 56 .lss 53 55] (wt 56 .skip (.exit 4))) (.seq (.block 5 (.seq (.seq (.region [rm 59 6,rm 60 7,wi 61 4 59 60,rf 62 0 61,
 rl 63 2 true 62,rm 64 6,rm 65 7,wi 66 4 64 65,rf 67 2 66,rl 68 2 true 67,
 ri 69 (.eqs [.int,.int] false (.t 63) (.t 68))] true []) (wt 69 (rq [wf 2 false] .ret) .skip)) (rq [wc 8 0] (.block 6 (.loop (.seq (rq [rm 70 8,
 rm 71 6,wn 72 71,wb 73 .lss 70 72] (wt 73 .skip (.exit 6))) (.seq (.block 7 (.seq (.seq (.region [rm 76 6,rm 77 8,
 wi 78 4 76 77,rf 79 0 78,rl 80 2 true 79,rm 81 6,rm 82 7,wi 83 4 81 82,rf 84 0 83,rl 85 2 true 84,
 ri 86 (.eqs [.int,.int] true (.t 80) (.t 85)),rm 87 86,wm 88 87 true 6,wm 89 87 true 8,rg 90 87 true (.te 4 (.t 88) (.t 89)),
 rg 91 87 true (.xj 0 (.t 90)),wl 92 87 true 2 true 91,wm 93 87 true 6,wm 94 87 true 7,rg 95 87 true (.te 4 (.t 93) (.t 94)),
 rg 96 87 true (.xj 2 (.t 95)),wl 97 87 true 2 true 96,rg 98 87 true (.eqs [.int,.int] true (.t 92) (.t 97)),
 wp 99 87 98,rm 100 99,wm 101 100 true 6,wm 102 100 true 7,rg 103 100 true (.te 4 (.t 101) (.t 102)),
 wl 104 100 true 4 true 103,wm 105 100 true 6,wm 106 100 true 8,rg 107 100 true (.te 4 (.t 105) (.t 106)),
 rg 108 100 true (.xj 0 (.t 107)),wl 109 100 true 2 true 108,rg 110 100 true (.call J0 [(.t 104),(.t 109)]),
 wp 111 100 110,rm 112 111,wm 113 112 false 6,wm 114 112 false 7,rg 115 112 false (.te 4 (.t 113) (.t 114)),
 wl 116 112 false 4 true 115,wm 117 112 false 6,wm 118 112 false 8,rg 119 112 false (.te 4 (.t 117) (.t 118)),
 wl 120 112 false 4 true 119,rg 121 112 false (.call zf [(.t 116),(.t 120)]),
 wq 122 112 121] true []) (wt 122 (rq [wf 2 false] .ret) .skip)) (.seq (.region [rm 123 7,rm 124 8,
 wb 125 .neq 123 124,rm 126 125,wm 127 126 true 6,wm 128 126 true 7,rg 129 126 true (.te 4 (.t 127) (.t 128)),
 wl 130 126 true 4 true 129,wm 131 126 true 6,wm 132 126 true 8,rg 133 126 true (.te 4 (.t 131) (.t 132)),
 wl 134 126 true 4 true 133,rg 135 126 true (.eqs [.int,.int,.int,.int] false (.t 130) (.t 134)),wm 136 126 true 135,
 wm 137 136 false 6,wm 138 136 false 7,rg 139 136 false (.te 4 (.t 137) (.t 138)),rg 140 136 false (.xj 0 (.t 139)),
 wl 141 136 false 2 true 140,wm 142 136 false 6,wm 143 136 false 8,rg 144 136 false (.te 4 (.t 142) (.t 143)),
 rg 145 136 false (.xj 2 (.t 144)),wl 146 136 false 2 true 145,rg 147 136 false (.eqs [.int,.int] false (.t 141) (.t 146)),wm 148 136 false 147,
 wm 149 148 true 6,wm 150 148 true 7,rg 151 148 true (.te 4 (.t 149) (.t 150)),rg 152 148 true (.xj 2 (.t 151)),
 wl 153 148 true 2 true 152,wm 154 148 true 6,wm 155 148 true 8,rg 156 148 true (.te 4 (.t 154) (.t 155)),
 rg 157 148 true (.xj 0 (.t 156)),wl 158 148 true 2 true 157,rg 159 148 true (.eqs [.int,.int] false (.t 153) (.t 158)),
 rg 160 136 false (.pick (.t 148) (.t 159) (.c (.bool false))),rg 161 126 true (.pick (.t 136) (.c (.bool true)) (.t 160)),
 wp 162 126 161] true []) (wt 162 (rq [wf 2 false] .ret) .skip)))) (.region [rm 74 8,
 wd 75 .add 74 1,rm 8 75] false [])))))))) (.region [rm 57 7,wd 58 .add 57 1,
 rm 7 58] false [])))))) (.seq (rq [wc 9 0] (.block 8 (.loop (.seq (rq [rm 163 9,rm 164 6,wn 165 164,
 wb 166 .lss 163 165] (wt 166 .skip (.exit 8))) (.seq (.block 9 (rq [rm 169 6,rm 170 9,ri 171 (.call Er [(.t 169),(.t 170)]),
 wd 172 .neq 171 1] (wt 172 (rq [wf 2 false] .ret) .skip))) (.region [rm 167 9,wd 168 .add 167 1,
 rm 9 168] false [])))))) (rq [rm 173 0,rm 174 6,ri 175 (.call D1 [(.t 173),(.t 174)]),rm 2 175] .ret))))))
def Gz:cn:=
 rq [wf 2 false] (rq [rm 3 0,wd 4 .geq 3 (-1000000),rm 5 4,wm 6 5 true 0,rg 7 5 true (.bin .leq (.t 6) (ci 1000000)),
 wp 8 5 7,rm 2 8] .ret)
def H6:cn:=
 rq [wf 2 false] (.seq (rq [rm 5 0,ri 6 (.len .str (.t 5)),wd 7 .lss 6 1,rm 8 7,wm 9 8 false 0,
 rg 10 8 false (.len .str (.t 9)),rg 11 8 false (.bin .gtr (.t 10) (ci 20)),
 wq 12 8 11] (wt 12 (rq [wf 2 false] .ret) .skip)) (.seq (rq [wc 3 0] (.block 0 (.loop (.seq (rq [rm 13 3,
 rm 14 0,ri 15 (.len .str (.t 14)),wb 16 .lss 13 15] (wt 16 .skip (.exit 0))) (.seq (.block 1 (rq [rm 19 0,rm 20 3,
 ri 21 (.Wy (.t 19) (.t 20)),ri 22 (.bin .geq (.t 21) (.c (.int .u8 97))),rm 23 22,wm 24 23 true 0,wm 25 23 true 3,
 rg 26 23 true (.Wy (.t 24) (.t 25)),rg 27 23 true (.bin .leq (.t 26) (.c (.int .u8 122))),wp 28 23 27,rm 4 28] (rq [rm 29 4,
 ri 30 (.un .not (.t 29)),rm 31 30,wm 32 31 true 3,rg 33 31 true (.bin .eql (.t 32) (ci 0)),wm 34 31 true 33,wm 35 34 false 0,
 wm 36 34 false 3,rg 37 34 false (.Wy (.t 35) (.t 36)),rg 38 34 false (.bin .lss (.t 37) (.c (.int .u8 48))),
 rg 39 31 true (.pick (.t 34) (.c (.bool true)) (.t 38)),wm 40 31 true 39,wm 41 40 false 0,wm 42 40 false 3,
 rg 43 40 false (.Wy (.t 41) (.t 42)),rg 44 40 false (.bin .gtr (.t 43) (.c (.int .u8 57))),rg 45 31 true (.pick (.t 40) (.c (.bool true)) (.t 44)),
 wp 46 31 45] (wt 46 (rq [wf 2 false] .ret) .skip)))) (.region [rm 17 3,
 wd 18 .add 17 1,rm 3 18] false [])))))) (rq [wf 2 true] .ret)))
def Bl(qh qp:Nat):cn:=
 rq [wf 2 false] (.seq (rq [rm 4 0,wn 5 4,
 wd 6 .gtr 5 20] (wt 6 (rq [wf 2 false] .ret) .skip)) (.seq (rq [wc 3 0] (.block 0 (.loop (.seq (rq [rm 7 3,
 rm 8 0,wn 9 8,wb 10 .lss 7 9] (wt 10 .skip (.exit 0))) (.seq (.block 1 (.seq (.region [rm 13 0,rm 14 3,
 wi 15 2 13 14,rf 16 0 15,rl 17 1 false 16,ri 18 (.call qh [(.t 17)]),ri 19 (.un .not (.t 18)),rm 20 19,wm 21 20 false 0,
 wm 22 20 false 3,rg 23 20 false (.te 2 (.t 21) (.t 22)),rg 24 20 false (.xj 1 (.t 23)),wl 25 20 false 1 false 24,
 rg 26 20 false (.call qp [(.t 25)]),rg 27 20 false (.un .not (.t 26)),wq 28 20 27,rm 29 28,wm 30 29 false 3,
 rg 31 29 false (.bin .gtr (.t 30) (ci 0)),wm 32 29 false 31,wm 33 32 true 0,wm 34 32 true 3,rg 35 32 true (.bin .sub (.t 34) (ci 1)),
 rg 36 32 true (.te 2 (.t 33) (.t 35)),rg 37 32 true (.xj 0 (.t 36)),wl 38 32 true 1 false 37,wm 39 32 true 0,wm 40 32 true 3,
 rg 41 32 true (.te 2 (.t 39) (.t 40)),rg 42 32 true (.xj 0 (.t 41)),wl 43 32 true 1 false 42,rg 44 32 true (.bin .geq (.t 38) (.t 43)),
 rg 45 29 false (.pick (.t 32) (.t 44) (.c (.bool false))),
 wq 46 29 45] true []) (wt 46 (rq [wf 2 false] .ret) .skip))) (.region [rm 11 3,
 wd 12 .add 11 1,rm 3 12] false [])))))) (rq [wf 2 true] .ret)))
def G3(qp qh:Nat):cn:=
 rq [wx 1 3 0,wf 2 false] (rq [rf 3 1 1,rl 4 1 false 3,ri 5 (.call qp [(.t 4)]),rm 6 5,rg 7 6 true (.xj 2 (.t 1)),
 wl 8 6 true 1 false 7,rg 9 6 true (.call qp [(.t 8)]),wp 10 6 9,rm 11 10,rg 12 11 true (.xj 0 (.t 1)),
 wl 13 11 true 1 false 12,rg 14 11 true (.call qh [(.t 13)]),wm 15 11 true 14,rg 16 15 false (.xj 0 (.t 1)),
 wl 17 15 false 1 false 16,rg 18 15 false (.bin .eql (.t 17) (.c (.str ⟨#[]⟩))),wm 19 15 false 18,rg 20 19 true (.xj 1 (.t 1)),
 wl 21 19 true 1 false 20,rg 22 19 true (.bin .eql (.t 21) (ci 0)),rg 23 15 false (.pick (.t 19) (.t 22) (.c (.bool false))),
 rg 24 11 true (.pick (.t 15) (.c (.bool true)) (.t 23)),wp 25 11 24,rm 2 25] .ret)
def N7:cn:=
 rq [wo 0] (rq [ri 1 (.xi false 14 1 [(.str ⟨#[]⟩)] [(0,1,(.c (.str ⟨#[98,111,120]⟩))),(1,1,(.c (.str ⟨#[112,114,105,115,109]⟩))),(2,1,(.c (.str ⟨#[115,108,97,110,116]⟩))),(3,1,(.c (.str ⟨#[112,121,114,97,109,105,100]⟩))),(4,1,(.c (.str ⟨#[117,110,105,111,110]⟩))),(5,1,(.c (.str ⟨#[105,110,116,101,114,115,101,99,116]⟩))),(6,1,(.c (.str ⟨#[115,117,98,116,114,97,99,116]⟩))),(7,1,(.c (.str ⟨#[99,108,105,112]⟩))),(8,1,(.c (.str ⟨#[115,104,105,102,116]⟩))),(9,1,(.c (.str ⟨#[115,121,109,109,101,116,114,121]⟩))),(10,1,(.c (.str ⟨#[115,99,97,108,101]⟩))),(11,1,(.c (.str ⟨#[115,117,109]⟩))),(12,1,(.c (.str ⟨#[99,111,114,101]⟩))),(13,1,(.c (.str ⟨#[114,101,112,101,97,116]⟩)))]),
 rm 0 1] .ret)
def Ek(Bb:Nat):cn:=
 rq [ri 2 (.ij (.c (.str ⟨#[]⟩)))] (.seq (rq [rm 3 0,wd 4 .lss 3 0,rm 5 4,wm 6 5 false 0,rg 7 5 false (.call Bb []),
 rg 8 5 false (.len .dt (.t 7)),rg 9 5 false (.bin .geq (.t 6) (.t 8)),
 wq 10 5 9] (wt 10 (rq [ri 2 (.ij (.c (.str ⟨#[]⟩)))] .ret) .skip)) (rq [ri 11 (.call Bb []),rm 12 0,
 wi 13 1 11 12,rl 14 1 false 13,rm 2 14] .ret))
def Lj:cn:=
 rq [wc 2 0] (rq [ri 3 (.xi false 14 1 [(.int .i64 0)] [(0,1,(ci 6)),(1,1,(ci 2)),(2,1,(ci 4)),(3,1,(ci 4)),(4,1,(ci 0)),(5,1,(ci 0)),(6,1,(ci 0)),(7,1,(ci 4)),(8,1,(ci 3)),(9,1,(ci 1)),(10,1,(ci 2)),(11,1,(ci 6)),(12,1,(ci 6)),(13,1,(ci 4))]),
 rm 4 0,wi 5 1 3 4,rl 6 1 false 5,rm 2 6] .ret)
def Li:cn:=
 rq [wc 2 0] (rq [ri 3 (.xi false 14 1 [(.int .i64 0)] [(0,1,(ci 0)),(1,1,(ci 0)),(2,1,(ci 0)),(3,1,(ci 0)),(4,1,(ci 2)),(5,1,(ci 2)),(6,1,(ci 2)),(7,1,(ci 1)),(8,1,(ci 1)),(9,1,(ci 1)),(10,1,(ci 1)),(11,1,(ci 1)),(12,1,(ci 1)),(13,1,(ci 1))]),
 rm 4 0,wi 5 1 3 4,rl 6 1 false 5,rm 2 6] .ret)
def N8(ze By x8 D3:Nat):cn:=
 rq [wx 1 3 0,wf 2 false] (.seq (.seq (.region [rf 4 0 1,rl 5 1 false 4,ri 6 (.call ze [(.t 5)]),
 ri 7 (.bin .eql (.t 6) (.c (.str ⟨#[]⟩))),rm 8 7,rg 9 8 false (.xj 1 (.t 1)),wl 10 8 false 1 false 9,rg 11 8 false (.len .dt (.t 10)),
 rg 12 8 false (.xj 0 (.t 1)),wl 13 8 false 1 false 12,rg 14 8 false (.call By [(.t 13)]),rg 15 8 false (.bin .neq (.t 11) (.t 14)),
 wq 16 8 15] true []) (wt 16 (rq [wf 2 false] .ret) .skip)) (.seq (rq [wc 3 0] (.block 0 (.loop (.seq (rq [rm 17 3,
 rf 18 1 1,rl 19 1 false 18,wn 20 19,wb 21 .lss 17 20] (wt 21 .skip (.exit 0))) (.seq (.block 1 (rq [rf 24 1 1,
 rl 25 1 false 24,rm 26 3,wi 27 3 25 26,rl 28 3 true 27,ri 29 (.call x8 [(.t 28)]),
 ri 30 (.un .not (.t 29))] (wt 30 (rq [wf 2 false] .ret) .skip))) (.region [rm 22 3,wd 23 .add 22 1,
 rm 3 23] false [])))))) (.seq (rq [rf 31 0 1,rl 32 1 false 31,wd 33 .eql 32 1,rm 34 33,rg 35 34 false (.xj 0 (.t 1)),
 wl 36 34 false 1 false 35,rg 37 34 false (.bin .eql (.t 36) (ci 2)),wq 38 34 37,rm 39 38,rg 40 39 false (.xj 0 (.t 1)),
 wl 41 39 false 1 false 40,rg 42 39 false (.bin .eql (.t 41) (ci 3)),wq 43 39 42] (wt 43 (rq [rf 44 2 1,
 rl 45 1 false 44,ri 46 (.call D3 [(.t 45)]),rm 2 46] .ret) .skip)) (rq [rf 47 2 1,rl 48 1 false 47,wn 49 48,
 wd 50 .eql 49 0,rm 2 50] .ret))))
def K4(ud ni:Nat):cn:=
 rq [wx 2 3 0,wo 4,wc 5 0] (.seq (.block 0 (rq [rl 13 3 true 2,ri 14 (.call ud [(.t 13)]),ri 15 (.un .not (.t 14)),
 rm 12 15] (wt 12 (rq [wo 4,wc 5 220] .ret) (rq [rm 17 1,ri 18 (.call ni [(.t 17)]),ri 19 (.un .not (.t 18)),
 rm 16 19] (wt 16 (rq [wo 4,
 wc 5 1] .ret) .skip))))) (rq [wo 6] (.seq (rq [wc 7 0] (.block 1 (.loop (.seq (rq [rm 20 7,rf 21 1 2,rl 22 1 false 21,
 wn 23 22,wb 24 .lss 20 23] (wt 24 .skip (.exit 1))) (.seq (.block 2 (rq [rf 27 1 2,rl 28 1 false 27,rm 29 7,
 wi 30 3 28 29,rl 31 3 true 30,ri 8 (.alloc [(.str ⟨#[]⟩),(.int .i64 0),(.int .i64 0)]),ws 3 8 31] (.seq (.region [rf 32 2 8,
 rl 33 1 false 32,rf 34 0 8,rl 35 1 false 34,ri 36 (.bin .eql (.t 35) (.c (.str ⟨#[]⟩))),rm 9 33,
 rm 10 36] true []) (.seq (rq [wc 11 0] (.block 3 (.loop (.seq (rq [rm 37 11,rm 38 1,wn 39 38,
 wb 40 .lss 37 39] (wt 40 .skip (.exit 3))) (.seq (.block 4 (.seq (.region [rm 43 1,rm 44 11,wi 45 2 43 44,rf 46 0 45,
 rl 47 1 false 46,rf 48 0 8,rl 49 1 false 48,wb 50 .eql 47 49] true []) (wt 50 (.region [rf 51 1 8,rl 52 1 false 51,rm 53 1,rm 54 11,
 wi 55 2 53 54,rf 56 1 55,rl 57 1 false 56,wb 58 .mul 52 57,rf 59 2 8,rl 60 1 false 59,wb 61 .add 58 60,rm 9 61,
 wf 10 true] true []) .skip))) (.region [rm 41 11,wd 42 .add 41 1,rm 11 42] false [])))))) (.seq (rq [rm 62 10,
 ri 63 (.un .not (.t 62))] (wt 63 (rq [wo 4,wc 5 4] .ret) .skip)) (.region [rm 64 6,rm 65 9,
 ri 66 (.xi false 1 1 [(.int .i64 0)] [(0,1,(.t 65))]),ri 67 (.app 1 8 (.t 64) (.t 66)),rm 6 67] false [])))))) (.region [rm 25 7,wd 26 .add 25 1,
 rm 7 26] false [])))))) (rq [rm 68 6,rm 4 68,wc 5 0] .ret))))
def N6:cn:=
 rq [wx 2 2 0,wc 4 0] (.seq (rq [wc 5 0] (.block 0 (.loop (.seq (rq [rm 6 5,rf 7 1 2,rl 8 1 false 7,wn 9 8,
 wb 10 .lss 6 9] (wt 10 .skip (.exit 0))) (.seq (.block 1 (rq [rf 13 1 2,rl 14 1 false 13,rm 15 5,wi 16 5 14 15,rf 17 0 16,
 rl 18 1 false 17,rm 19 1,wb 20 .eql 18 19] (wt 20 (rq [rm 21 5,rm 4 21] .ret) .skip))) (.region [rm 11 5,wd 12 .add 11 1,
 rm 5 12] false [])))))) (rq [wc 4 (-1)] .ret))
def Ql:cn:=
 rq [wf 4 false] (.seq (rq [wc 5 0] (.block 0 (.loop (.seq (rq [rm 6 5,rm 7 0,wn 8 7,
 wb 9 .lss 6 8] (wt 9 .skip (.exit 0))) (.seq (.block 1 (rq [rm 12 0,rm 13 5,wi 14 1 12 13,rl 15 1 false 14,rm 16 1,
 wb 17 .eql 15 16] (wt 17 (rq [wf 4 true] .ret) .skip))) (.region [rm 10 5,wd 11 .add 10 1,
 rm 5 11] false [])))))) (rq [wf 4 false] .ret))
def N3(yy:Nat):cn:=
 rq [wx 2 5 0,wf 4 false] (.seq (rq [wc 5 0] (.block 0 (.loop (.seq (rq [rm 6 5,rf 7 4 2,rl 8 1 false 7,
 wn 9 8,wb 10 .lss 6 9] (wt 10 .skip (.exit 0))) (.seq (.block 1 (rq [rm 13 1,rf 14 4 2,rl 15 1 false 14,rm 16 5,
 wi 17 1 15 16,rl 18 1 false 17,ri 19 (.call yy [(.t 13),(.t 18)]),
 ri 20 (.un .not (.t 19))] (wt 20 (rq [wf 4 false] .ret) .skip))) (.region [rm 11 5,wd 12 .add 11 1,
 rm 5 12] false [])))))) (rq [wf 4 true] .ret))
def N5(yy Cy:Nat):cn:=
 rq [wx 1 2 0,
 wo 2] (rq [wo 3] (.block 0 (.loop (.block 1 (rq [ri 4 (.ij (.c (.str ⟨#[]⟩)))] (.seq (rq [wc 5 0] (.block 2 (.loop (.seq (rq [rm 7 5,
 rf 8 1 1,rl 9 1 false 8,wn 10 9,wb 11 .lss 7 10] (wt 11 .skip (.exit 2))) (.seq (.block 3 (rq [rf 14 1 1,rl 15 1 false 14,
 rm 16 5,wi 17 5 15 16,rl 18 5 true 17,ri 6 (.alloc [(.str ⟨#[]⟩),(.int .i64 0),.bd,.bd,.bd]),ws 5 6 18] (rq [rm 19 3,rf 20 0 6,
 rl 21 1 false 20,ri 22 (.call yy [(.t 19),(.t 21)]),ri 23 (.un .not (.t 22)),rm 24 23,wl 25 24 true 5 true 6,wm 26 24 true 3,
 rg 27 24 true (.call Cy [(.t 25),(.t 26)]),wp 28 24 27,rm 29 28,wm 30 29 true 4,
 rg 31 29 true (.bin .eql (.t 30) (.c (.str ⟨#[]⟩))),wm 32 29 true 31,rg 33 32 false (.xj 0 (.t 6)),wl 34 32 false 1 false 33,
 wm 35 32 false 4,rg 36 32 false (.bin .lss (.t 34) (.t 35)),rg 37 29 true (.pick (.t 32) (.c (.bool true)) (.t 36)),
 wp 38 29 37] (wt 38 (.region [rf 39 0 6,rl 40 1 false 39,rm 4 40] false []) .skip)))) (.region [rm 12 5,
 wd 13 .add 12 1,rm 5 13] false [])))))) (.seq (rq [rm 41 4,ri 42 (.bin .eql (.t 41) (.c (.str ⟨#[]⟩)))] (wt 42 (rq [rm 43 3,
 rm 2 43] .ret) .skip)) (.region [rm 44 3,rm 45 4,ri 46 (.xi false 1 1 [(.str ⟨#[]⟩)] [(0,1,(.t 45))]),ri 47 (.app 1 16 (.t 44) (.t 46)),rm 3 47] false []))))))))
def N4(ni qh ud Bx D0 y0 Ba:Nat):cn:=
 rq [wx 1 2 0,wf 2 false] (.seq (rq [rf 8 0 1,rl 9 1 false 8,ri 10 (.call ni [(.t 9)]),ri 11 (.un .not (.t 10)),rm 12 11,
 rg 13 12 false (.xj 1 (.t 1)),wl 14 12 false 1 false 13,rg 15 12 false (.len .dt (.t 14)),rg 16 12 false (.bin .gtr (.t 15) (ci 20)),
 wq 17 12 16] (wt 17 (rq [wf 2 false] .ret) .skip)) (.seq (rq [wc 3 0] (.block 0 (.loop (.seq (rq [rm 18 3,
 rf 19 1 1,rl 20 1 false 19,wn 21 20,wb 22 .lss 18 21] (wt 22 .skip (.exit 0))) (.seq (.block 1 (rq [rf 25 1 1,
 rl 26 1 false 25,rm 27 3,wi 28 5 26 27,rl 29 5 true 28,ri 4 (.alloc [(.str ⟨#[]⟩),(.int .i64 0),.bd,.bd,.bd]),
 ws 5 4 29] (.seq (.seq (.region [rf 30 0 4,rl 31 1 false 30,ri 32 (.call qh [(.t 31)]),ri 33 (.un .not (.t 32)),rm 34 33,
 wm 35 34 false 3,rg 36 34 false (.bin .gtr (.t 35) (ci 0)),wm 37 34 false 36,rg 38 37 true (.xj 1 (.t 1)),wl 39 37 true 1 false 38,
 wm 40 37 true 3,rg 41 37 true (.bin .sub (.t 40) (ci 1)),rg 42 37 true (.te 5 (.t 39) (.t 41)),rg 43 37 true (.xj 0 (.t 42)),
 wl 44 37 true 1 false 43,rg 45 37 true (.xj 0 (.t 4)),wl 46 37 true 1 false 45,rg 47 37 true (.bin .geq (.t 44) (.t 46)),
 rg 48 34 false (.pick (.t 37) (.t 47) (.c (.bool false))),wq 49 34 48,rm 50 49,rg 51 50 false (.xj 1 (.t 4)),
 wl 52 50 false 3 true 51,rg 53 50 false (.call ud [(.t 52)]),rg 54 50 false (.un .not (.t 53)),wq 55 50 54,
 rm 56 55,rg 57 56 false (.xj 4 (.t 4)),wl 58 56 false 1 false 57,rg 59 56 false (.len .dt (.t 58)),rg 60 56 false (.xj 1 (.t 4)),
 rg 61 56 false (.xj 0 (.t 60)),wl 62 56 false 1 false 61,rg 63 56 false (.call Bx [(.t 62)]),rg 64 56 false (.bin .neq (.t 59) (.t 63)),
 wq 65 56 64] true []) (wt 65 (rq [wf 2 false] .ret) .skip)) (.seq (rq [wc 5 0] (.block 2 (.loop (.seq (rq [rm 66 5,
 rf 67 4 4,rl 68 1 false 67,wn 69 68,wb 70 .lss 66 69] (wt 70 .skip (.exit 2))) (.seq (.block 3 (.seq (.region [rl 73 2 true 1,
 rf 74 4 4,rl 75 1 false 74,rm 76 5,wi 77 1 75 76,rl 78 1 false 77,ri 79 (.call D0 [(.t 73),(.t 78)]),
 wd 80 .lss 79 0] true []) (wt 80 (rq [wf 2 false] .ret) .skip))) (.region [rm 71 5,wd 72 .add 71 1,
 rm 5 72] false [])))))) (rq [rf 82 1 4,rl 83 3 true 82,rf 84 0 1,rl 85 1 false 84,ri 86 (.call y0 [(.t 83),(.t 85)]),rm 81 86,rx 87 81 0,rx 88 81 1,rm 6 87,
 rm 7 88] (rq [rm 89 7,wd 90 .neq 89 0] (wt 90 (rq [wf 2 false] .ret) .skip))))))) (.region [rm 23 3,
 wd 24 .add 23 1,rm 3 24] false [])))))) (.seq (.region [rl 91 2 true 1,ri 92 (.call Ba [(.t 91)]),wn 93 92,rf 94 1 1,
 rl 95 1 false 94,wn 96 95,wb 97 .eql 93 96,rm 2 97] true []) .ret)))
def Nn:cn:=
 rq [wx 1 1 0,wo 2] (rq [wo 3] (.seq (rq [wc 4 0] (.block 0 (.loop (.seq (rq [rm 7 4,rf 8 0 1,rl 9 1 false 8,
 wn 10 9,
 wb 11 .lss 7 10] (wt 11 .skip (.exit 0))) (.seq (.block 1 (rq [wo 5] (.seq (rq [wc 6 0] (.block 2 (.loop (.seq (rq [rm 14 6,
 rf 15 0 1,rl 16 1 false 15,rm 17 4,wi 18 1 16 17,rl 19 1 false 18,wn 20 19,
 wb 21 .lss 14 20] (wt 21 .skip (.exit 2))) (.seq (.block 3 (.region [rm 24 5,rf 25 0 1,rl 26 1 false 25,rm 27 4,
 wi 28 1 26 27,rl 29 1 false 28,rm 30 6,wi 31 2 29 30,rl 32 2 true 31,
 ri 33 (.xi false 1 2 [(.int .i64 0),(.int .i64 0)] [(0,2,(.t 32))]),ri 34 (.app 2 16 (.t 24) (.t 33)),rm 5 34] false [])) (.region [rm 22 6,
 wd 23 .add 22 1,rm 6 23] false [])))))) (.region [rm 35 3,rm 36 5,ri 37 (.xi false 1 1 [.bd] [(0,1,(.t 36))]),ri 38 (.app 1 24 (.t 35) (.t 37)),
 rm 3 38] false [])))) (.region [rm 12 4,wd 13 .add 12 1,rm 4 13] false [])))))) (rq [rm 39 3,rm 2 39] .ret)))
def No:cn:=
 rq [wx 1 1 0,wf 2 false] (rq [rf 5 0 1,rl 6 1 false 5,wn 7 6,
 rm 3 7] (.seq (rq [wc 4 0] (.block 0 (.loop (.seq (rq [rm 8 4,rf 9 0 1,rl 10 1 false 9,wn 11 10,
 wb 12 .lss 8 11] (wt 12 .skip (.exit 0))) (.seq (.block 1 (.region [rm 15 3,rf 16 0 1,rl 17 1 false 16,rm 18 4,wi 19 1 17 18,
 rl 20 1 false 19,wn 21 20,wb 22 .add 15 21,rm 3 22] false [])) (.region [rm 13 4,wd 14 .add 13 1,
 rm 4 14] false [])))))) (rq [rm 23 3,wd 24 .leq 23 100,rm 2 24] .ret)))
def Nk(Be:Nat):cn:=
 rq [wx 1 3 0,ri 2 (.alloc [(.int .i64 0),.bd,.bd])] (.seq (.region [rf 7 0 1,rl 8 1 false 7,rf 9 2 1,rl 10 1 true 9,ri 11 (.call Be [(.t 10)]),
 ri 12 (.build [(.int .i64 0),.bd,.bd] [(0,1,(.t 8)),(2,1,(.t 11))]),ri 3 (.w8 3),
 rn (.init 3 3 (.t 12))] true []) (.seq (rq [wc 4 0] (.block 0 (.loop (.seq (rq [rm 13 4,rf 14 1 1,rl 15 1 false 14,wn 16 15,
 wb 17 .lss 13 16] (wt 17 .skip (.exit 0))) (.seq (.block 1 (rq [rf 20 1 1,rl 21 1 false 20,rm 22 4,wi 23 3 21 22,
 rl 24 3 true 23,ri 5 (.alloc [(.str ⟨#[]⟩),(.int .i64 0),(.int .i64 0)]),ws 3 5 24] (rq [rf 25 1 3,rl 26 1 false 25,rm 6 26] (.region [rm 27 6,
 rf 28 0 5,rl 29 1 false 28,rf 30 1 5,rl 31 1 false 30,rf 32 2 5,rl 33 1 false 32,
 ri 34 (.build [(.str ⟨#[]⟩),(.int .i64 0),(.int .i64 0)] [(0,1,(.t 29)),(1,1,(.t 31)),(2,1,(.t 33))]),
 ri 35 (.xi false 1 3 [(.str ⟨#[]⟩),(.int .i64 0),(.int .i64 0)] [(0,3,(.t 34))]),ri 36 (.app 3 32 (.t 27) (.t 35)),rf 37 1 3,
 ws 1 37 36] false [])))) (.region [rm 18 4,wd 19 .add 18 1,rm 4 19] false [])))))) (rq [rl 38 3 true 3,
 ws 3 2 38] .ret)))
def Ln:cn:=
 rq [wo 2] (rq [wo 3] (.seq (rq [wc 4 0] (.block 0 (.loop (.seq (rq [rm 5 4,rm 6 0,wn 7 6,
 wb 8 .lss 5 7] (wt 8 .skip (.exit 0))) (.seq (.block 1 (.region [rm 11 3,rm 12 0,rm 13 4,wi 14 2 12 13,rf 15 0 14,
 rl 16 1 false 15,rm 17 0,rm 18 4,wi 19 2 17 18,rf 20 1 19,rl 21 1 false 20,ri 22 (.build [(.str ⟨#[]⟩),(.int .i64 0)] [(0,1,(.t 16)),(1,1,(.t 21))]),
 ri 23 (.xi false 1 2 [(.str ⟨#[]⟩),(.int .i64 0)] [(0,2,(.t 22))]),ri 24 (.app 2 24 (.t 11) (.t 23)),rm 3 24] true [])) (.region [rm 9 4,
 wd 10 .add 9 1,rm 4 10] false [])))))) (rq [rm 25 3,rm 2 25] .ret)))
def Kz:cn:=
 rq [wf 4 false] (.seq (rq [rm 6 0,wn 7 6,rm 8 1,wn 9 8,
 wb 10 .neq 7 9] (wt 10 (rq [wf 4 false] .ret) .skip)) (.seq (rq [wc 5 0] (.block 0 (.loop (.seq (rq [rm 11 5,
 rm 12 0,wn 13 12,wb 14 .lss 11 13] (wt 14 .skip (.exit 0))) (.seq (.block 1 (.seq (.region [rm 17 0,rm 18 5,
 wi 19 1 17 18,rl 20 1 false 19,rm 21 1,rm 22 5,wi 23 1 21 22,rl 24 1 false 23,
 wb 25 .neq 20 24] true []) (wt 25 (rq [wf 4 false] .ret) .skip))) (.region [rm 15 5,wd 16 .add 15 1,
 rm 5 16] false [])))))) (rq [wf 4 true] .ret)))
def Nl(D6:Nat):cn:=
 rq [wx 2 3 0,wf 4 false] (.seq (rq [wc 5 0] (.block 0 (.loop (.seq (rq [rm 7 5,rm 8 1,wn 9 8,
 wb 10 .lss 7 9,rm 11 10,wm 12 11 true 5,rg 13 11 true (.bin .lss (.t 12) (ci 40)),
 wp 14 11 13] (wt 14 .skip (.exit 0))) (.seq (.block 1 (rq [rm 17 1,rm 18 5,wi 19 2 17 18,rf 20 0 19,
 rl 21 1 false 20,ri 22 (.len .str (.t 21)),wd 23 .gtr 22 100] (wt 23 (rq [wf 4 false] .ret) .skip))) (.region [rm 15 5,
 wd 16 .add 15 1,rm 5 16] false [])))))) (.seq (rq [wc 6 0] (.block 2 (.loop (.seq (rq [rm 24 6,rf 25 1 2,rl 26 1 false 25,
 wn 27 26,wb 28 .lss 24 27,rm 29 28,wm 30 29 true 6,rg 31 29 true (.bin .lss (.t 30) (ci 40)),
 wp 32 29 31] (wt 32 .skip (.exit 2))) (.seq (.block 3 (rq [rf 35 1 2,rl 36 1 false 35,rm 37 6,
 wi 38 3 36 37,rf 39 0 38,rl 40 1 false 39,ri 41 (.len .str (.t 40)),
 wd 42 .gtr 41 100] (wt 42 (rq [wf 4 false] .ret) .skip))) (.region [rm 33 6,wd 34 .add 33 1,
 rm 6 34] false [])))))) (rq [rm 43 1,wn 44 43,wd 45 .leq 44 40,rm 46 45,rg 47 46 true (.xj 1 (.t 2)),
 wl 48 46 true 1 false 47,rg 49 46 true (.len .dt (.t 48)),rg 50 46 true (.bin .leq (.t 49) (ci 40)),wp 51 46 50,
 rm 52 51,rg 53 52 true (.xj 2 (.t 2)),wl 54 52 true 1 true 53,rg 55 52 true (.call D6 [(.t 54)]),
 wp 56 52 55,rm 4 56] .ret)))
def Ni(zz xh:Nat):cn:=
 rq [wx 1 2 0,ri 2 (.alloc [.bd,.bd])] (rq [rf 6 0 1,rl 7 1 false 6,ri 8 (.call zz [(.t 7)]),ri 9 (.build [.bd,.bd] [(0,1,(.t 8))]),
 ri 3 (.alloc [.bd,.bd]),ws 2 3 9] (.seq (rq [wc 4 0] (.block 0 (.loop (.seq (rq [rm 10 4,rf 11 1 1,rl 12 1 false 11,
 wn 13 12,wb 14 .lss 10 13] (wt 14 .skip (.exit 0))) (.seq (.block 1 (rq [rf 17 1 3,rl 18 1 false 17,
 rm 5 18] (.region [rm 19 5,rf 20 1 1,rl 21 1 false 20,rm 22 4,wi 23 5 21 22,rl 24 5 true 23,ri 25 (.call xh [(.t 24)]),
 ri 26 (.xi false 1 5 [(.str ⟨#[]⟩),(.int .i64 0),.bd,.bd,.bd] [(0,5,(.t 25))]),ri 27 (.app 5 96 (.t 19) (.t 26)),rf 28 1 3,
 ws 1 28 27] false []))) (.region [rm 15 4,wd 16 .add 15 1,rm 4 16] false [])))))) (rq [rl 29 2 true 3,
 ws 2 2 29] .ret)))
def Pg(Bd:Nat):cn:=
 rq [wx 1 5 0,ri 2 (.alloc [(.str ⟨#[]⟩),(.int .i64 0),.bd,.bd,.bd])] (.seq (.region [rf 3 0 1,rl 4 1 false 3,rf 5 1 1,rl 6 3 true 5,
 ri 7 (.call Bd [(.t 6)]),rf 8 4 1,rl 9 1 false 8,ri 10 (.build [(.str ⟨#[]⟩),(.int .i64 0),.bd,.bd,.bd] [(0,1,(.t 4)),(1,3,(.t 7)),(4,1,(.t 9))]),
 ws 5 2 10] true []) .ret)
def J9(D5:Nat):cn:=
 rq [wx 1 2 0,wf 2 false] (.seq (rq [rf 6 1 1,rl 7 1 false 6,wn 8 7,
 wd 9 .gtr 8 25] (wt 9 (rq [wf 2 false] .ret) .skip)) (.seq (rq [wc 3 0] (.block 0 (.loop (.seq (rq [rm 10 3,
 rf 11 1 1,rl 12 1 false 11,wn 13 12,wb 14 .lss 10 13] (wt 14 .skip (.exit 0))) (.seq (.block 1 (rq [rf 17 1 1,
 rl 18 1 false 17,rm 19 3,wi 20 5 18 19,rl 21 5 true 20,ri 4 (.alloc [(.str ⟨#[]⟩),(.int .i64 0),.bd,.bd,.bd]),
 ws 5 4 21] (.seq (rq [rf 22 1 4,rl 23 3 true 22,rf 24 0 1,rl 25 1 false 24,ri 26 (.call D5 [(.t 23),(.t 25)]),ri 27 (.un .not (.t 26)),
 rm 28 27,rg 29 28 false (.xj 0 (.t 4)),wl 30 28 false 1 false 29,rg 31 28 false (.len .str (.t 30)),rg 32 28 false (.bin .gtr (.t 31) (ci 100)),
 wq 33 28 32,rm 34 33,rg 35 34 false (.xj 4 (.t 4)),wl 36 34 false 1 false 35,rg 37 34 false (.len .dt (.t 36)),
 rg 38 34 false (.bin .gtr (.t 37) (ci 10)),
 wq 39 34 38] (wt 39 (rq [wf 2 false] .ret) .skip)) (rq [wc 5 0] (.block 2 (.loop (.seq (rq [rm 40 5,
 rf 41 4 4,rl 42 1 false 41,wn 43 42,wb 44 .lss 40 43] (wt 44 .skip (.exit 2))) (.seq (.block 3 (rq [rf 47 4 4,
 rl 48 1 false 47,rm 49 5,wi 50 1 48 49,rl 51 1 false 50,ri 52 (.len .str (.t 51)),
 wd 53 .gtr 52 100] (wt 53 (rq [wf 2 false] .ret) .skip))) (.region [rm 45 5,wd 46 .add 45 1,
 rm 5 46] false []))))))))) (.region [rm 15 3,wd 16 .add 15 1,rm 3 16] false [])))))) (rq [wf 2 true] .ret)))
def Nj(xh Es:Nat):cn:=
 rq [wx 2 2 0,wx 3 2 1,wf 4 false] (.seq (rq [rf 14 0 2,rl 15 1 false 14,wn 16 15,rf 17 0 3,rl 18 1 false 17,
 wn 19 18,wb 20 .neq 16 19,rm 21 20,rg 22 21 false (.xj 1 (.t 2)),wl 23 21 false 1 false 22,
 rg 24 21 false (.len .dt (.t 23)),rg 25 21 false (.xj 1 (.t 3)),wl 26 21 false 1 false 25,rg 27 21 false (.len .dt (.t 26)),
 rg 28 21 false (.bin .neq (.t 24) (.t 27)),
 wq 29 21 28] (wt 29 (rq [wf 4 false] .ret) .skip)) (.seq (rq [wc 5 0] (.block 0 (.loop (.seq (rq [rm 30 5,
 rf 31 0 2,rl 32 1 false 31,wn 33 32,wb 34 .lss 30 33] (wt 34 .skip (.exit 0))) (.seq (.block 1 (.seq (.region [rf 37 0 2,
 rl 38 1 false 37,rm 39 5,wi 40 2 38 39,rf 41 0 40,rl 42 1 false 41,rf 43 0 3,rl 44 1 false 43,rm 45 5,wi 46 2 44 45,rf 47 0 46,
 rl 48 1 false 47,wb 49 .neq 42 48,rm 50 49,rg 51 50 false (.xj 0 (.t 2)),wl 52 50 false 1 false 51,wm 53 50 false 5,
 rg 54 50 false (.te 2 (.t 52) (.t 53)),rg 55 50 false (.xj 1 (.t 54)),wl 56 50 false 1 false 55,rg 57 50 false (.xj 0 (.t 3)),
 wl 58 50 false 1 false 57,wm 59 50 false 5,rg 60 50 false (.te 2 (.t 58) (.t 59)),rg 61 50 false (.xj 1 (.t 60)),
 wl 62 50 false 1 false 61,rg 63 50 false (.bin .neq (.t 56) (.t 62)),
 wq 64 50 63] true []) (wt 64 (rq [wf 4 false] .ret) .skip))) (.region [rm 35 5,
 wd 36 .add 35 1,rm 5 36] false [])))))) (.seq (rq [wc 6 0] (.block 2 (.loop (.seq (rq [rm 65 6,rf 66 1 2,rl 67 1 false 66,
 wn 68 67,wb 69 .lss 65 68] (wt 69 .skip (.exit 2))) (.seq (.block 3 (.seq (.region [rf 72 1 2,rl 73 1 false 72,rm 74 6,
 wi 75 5 73 74,rl 76 5 true 75,ri 77 (.call xh [(.t 76)]),rf 78 1 3,rl 79 1 false 78,rm 80 6,wi 81 5 79 80,rl 82 5 true 81,
 ri 7 (.w8 5),ri 8 (.w8 5),rn (.init 7 5 (.t 77)),rn (.init 8 5 (.t 82))] true []) (.seq (rq [rf 83 0 7,rl 84 1 false 83,rf 85 0 8,rl 86 1 false 85,
 wb 87 .neq 84 86,rm 88 87,rg 89 88 false (.xj 4 (.t 7)),wl 90 88 false 1 false 89,rg 91 88 false (.xj 4 (.t 8)),
 wl 92 88 false 1 false 91,rg 93 88 false (.call Es [(.t 90),(.t 92)]),rg 94 88 false (.un .not (.t 93)),
 wq 95 88 94,rm 96 95,rg 97 96 false (.xj 1 (.t 7)),rg 98 96 false (.xj 0 (.t 97)),wl 99 96 false 1 false 98,
 rg 100 96 false (.xj 1 (.t 8)),rg 101 96 false (.xj 0 (.t 100)),wl 102 96 false 1 false 101,rg 103 96 false (.bin .neq (.t 99) (.t 102)),
 wq 104 96 103,rm 105 104,rg 106 105 false (.xj 1 (.t 7)),rg 107 105 false (.xj 1 (.t 106)),
 wl 108 105 false 1 false 107,rg 109 105 false (.len .dt (.t 108)),rg 110 105 false (.xj 1 (.t 8)),rg 111 105 false (.xj 1 (.t 110)),
 wl 112 105 false 1 false 111,rg 113 105 false (.len .dt (.t 112)),rg 114 105 false (.bin .neq (.t 109) (.t 113)),
 wq 115 105 114,rm 116 115,rg 117 116 false (.xj 1 (.t 7)),rg 118 116 false (.xj 2 (.t 117)),
 wl 119 116 false 1 false 118,rg 120 116 false (.len .dt (.t 119)),rg 121 116 false (.xj 1 (.t 8)),rg 122 116 false (.xj 2 (.t 121)),
 wl 123 116 false 1 false 122,rg 124 116 false (.len .dt (.t 123)),rg 125 116 false (.bin .neq (.t 120) (.t 124)),
 wq 126 116 125] (wt 126 (rq [wf 4 false] .ret) .skip)) (.seq (rq [wc 9 0] (.block 4 (.loop (.seq (rq [rm 127 9,
 rf 128 1 7,rf 129 1 128,rl 130 1 false 129,wn 131 130,
 wb 132 .lss 127 131] (wt 132 .skip (.exit 4))) (.seq (.block 5 (.seq (.region [rf 135 1 7,rf 136 1 135,rl 137 1 false 136,rm 138 9,
 wi 139 3 137 138,rl 140 3 true 139,rf 141 1 8,rf 142 1 141,rl 143 1 false 142,rm 144 9,wi 145 3 143 144,rl 146 3 true 145,
 ri 147 (.eqs [.str,.int,.int] true (.t 140) (.t 146))] true []) (wt 147 (rq [wf 4 false] .ret) .skip))) (.region [rm 133 9,
 wd 134 .add 133 1,rm 9 134] false [])))))) (rq [wc 10 0] (.block 6 (.loop (.seq (rq [rm 148 10,rf 149 1 7,rf 150 2 149,rl 151 1 false 150,
 wn 152 151,wb 153 .lss 148 152] (wt 153 .skip (.exit 6))) (.seq (.block 7 (.seq (.region [rf 156 1 7,rf 157 2 156,
 rl 158 1 false 157,rm 159 10,wi 160 1 158 159,rl 161 1 false 160,rf 162 1 8,rf 163 2 162,rl 164 1 false 163,rm 165 10,
 wi 166 1 164 165,rl 167 1 false 166,rm 11 161,rm 12 167] true []) (.seq (rq [rm 168 11,wn 169 168,rm 170 12,
 wn 171 170,
 wb 172 .neq 169 171] (wt 172 (rq [wf 4 false] .ret) .skip)) (rq [wc 13 0] (.block 8 (.loop (.seq (rq [rm 173 13,
 rm 174 11,wn 175 174,wb 176 .lss 173 175] (wt 176 .skip (.exit 8))) (.seq (.block 9 (.seq (.region [rm 179 11,rm 180 13,
 wi 181 2 179 180,rl 182 2 true 181,rm 183 12,rm 184 13,wi 185 2 183 184,rl 186 2 true 185,
 ri 187 (.eqs [.int,.int] true (.t 182) (.t 186))] true []) (wt 187 (rq [wf 4 false] .ret) .skip))) (.region [rm 177 13,
 wd 178 .add 177 1,rm 13 178] false []))))))))) (.region [rm 154 10,wd 155 .add 154 1,rm 10 155] false [])))))))))) (.region [rm 70 6,
 wd 71 .add 70 1,rm 6 71] false [])))))) (rq [wf 4 true] .ret))))
def Pf:cn:=
 rq [ri 0 (.alloc [.bd,.bd])] (rq [ri 2 (.build [(.str ⟨#[]⟩),(.int .i64 0),(.int .i64 0)] []),ri 3 (.build [(.str ⟨#[]⟩),(.int .i64 0),(.int .i64 0)] []),
 ri 4 (.build [(.str ⟨#[]⟩),(.int .i64 0),(.int .i64 0)] []),ri 5 (.build [(.str ⟨#[]⟩),(.int .i64 0),(.int .i64 0)] [(0,1,(.c (.str ⟨#[119]⟩))),(1,1,(ci 1))]),
 ri 6 (.build [(.str ⟨#[]⟩),(.int .i64 0),(.int .i64 0)] [(2,1,(ci 1))]),ri 7 (.build [(.str ⟨#[]⟩),(.int .i64 0),(.int .i64 0)] [(2,1,(ci 1))]),
 ri 8 (.xi false 6 3 [(.str ⟨#[]⟩),(.int .i64 0),(.int .i64 0)] [(0,3,(.t 2)),(3,3,(.t 3)),(6,3,(.t 4)),(9,3,(.t 5)),(12,3,(.t 6)),(15,3,(.t 7))]),
 rm 1 8] (rq [ri 9 (.build [(.str ⟨#[]⟩),(.int .i64 0)] [(0,1,(.c (.str ⟨#[119]⟩))),(1,1,(ci 2))]),ri 10 (.xi false 1 2 [(.str ⟨#[]⟩),(.int .i64 0)] [(0,2,(.t 9))]),
 rm 11 1,ri 12 (.build [(.int .i64 0),.bd,.bd] [(0,1,(ci 0)),(1,1,(.t 11))]),
 ri 13 (.build [(.str ⟨#[]⟩),(.int .i64 0),.bd,.bd,.bd] [(0,1,(.c (.str ⟨#[97]⟩))),(1,3,(.t 12))]),ri 14 (.build [(.str ⟨#[]⟩),(.int .i64 0),(.int .i64 0)] []),
 ri 15 (.build [(.str ⟨#[]⟩),(.int .i64 0),(.int .i64 0)] []),ri 16 (.build [(.str ⟨#[]⟩),(.int .i64 0),(.int .i64 0)] []),
 ri 17 (.build [(.str ⟨#[]⟩),(.int .i64 0),(.int .i64 0)] [(2,1,(ci 1))]),ri 18 (.build [(.str ⟨#[]⟩),(.int .i64 0),(.int .i64 0)] [(2,1,(ci 1))]),
 ri 19 (.build [(.str ⟨#[]⟩),(.int .i64 0),(.int .i64 0)] [(2,1,(ci 2))]),
 ri 20 (.xi false 6 3 [(.str ⟨#[]⟩),(.int .i64 0),(.int .i64 0)] [(0,3,(.t 14)),(3,3,(.t 15)),(6,3,(.t 16)),(9,3,(.t 17)),(12,3,(.t 18)),(15,3,(.t 19))]),
 ri 21 (.build [(.int .i64 0),.bd,.bd] [(0,1,(ci 0)),(1,1,(.t 20))]),
 ri 22 (.build [(.str ⟨#[]⟩),(.int .i64 0),.bd,.bd,.bd] [(0,1,(.c (.str ⟨#[98]⟩))),(1,3,(.t 21))]),ri 23 (.build [(.int .i64 0),.bd,.bd] [(0,1,(ci 4))]),
 ri 24 (.xi false 2 1 [(.str ⟨#[]⟩)] [(0,1,(.c (.str ⟨#[98]⟩))),(1,1,(.c (.str ⟨#[97]⟩)))]),
 ri 25 (.build [(.str ⟨#[]⟩),(.int .i64 0),.bd,.bd,.bd] [(0,1,(.c (.str ⟨#[99]⟩))),(1,3,(.t 23)),(4,1,(.t 24))]),
 ri 26 (.xi false 3 5 [(.str ⟨#[]⟩),(.int .i64 0),.bd,.bd,.bd] [(0,5,(.t 13)),(5,5,(.t 22)),(10,5,(.t 25))]),
 ri 27 (.build [.bd,.bd] [(0,1,(.t 10)),(1,1,(.t 26))]),ws 2 0 27] .ret))
def B8(qz:Nat):cn:=
 rq [wx 1 9 0,wf 2 false] (rq [rf 3 1 1,rl 4 1 false 3,ri 5 (.len .str (.t 4)),wd 6 .leq 5 100,rm 7 6,
 rg 8 7 true (.xj 2 (.t 1)),wl 9 7 true 1 false 8,rg 10 7 true (.len .str (.t 9)),rg 11 7 true (.bin .leq (.t 10) (ci 100)),
 wp 12 7 11,rm 13 12,rg 14 13 true (.xj 4 (.t 1)),wl 15 13 true 5 true 14,
 rg 16 13 true (.xi false 1 5 [(.str ⟨#[]⟩),(.int .i64 0),.bd,.bd,.bd] [(0,5,(.t 15))]),rg 17 13 true (.build [.bd,.bd] [(1,1,(.t 16))]),
 rg 18 13 true (.call qz [(.t 17)]),wp 19 13 18,rm 2 19] .ret)
def Em:cn:=
 rq [wf 2 false] (rq [rm 3 0,wd 4 .geq 3 (-1000000),rm 5 4,wm 6 5 true 0,rg 7 5 true (.bin .leq (.t 6) (ci 1000000)),
 wp 8 5 7,rm 2 8] .ret)
def Bt:cn:=
 rq [wf 2 false] (.seq (rq [rm 5 0,ri 6 (.len .str (.t 5)),wd 7 .lss 6 1,rm 8 7,wm 9 8 false 0,
 rg 10 8 false (.len .str (.t 9)),rg 11 8 false (.bin .gtr (.t 10) (ci 20)),
 wq 12 8 11] (wt 12 (rq [wf 2 false] .ret) .skip)) (.seq (rq [rm 13 0,ri 14 (.len .str (.t 13)),
 wc 15 0] (.block 0 (.loop (rq [wb 16 .lss 15 14] (.seq (wt 16 .skip (.exit 0)) (.seq (.block 1 (rq [rm 17 15,rm 3 17] (rq [rm 18 0,
 rm 19 3,ri 20 (.Wy (.t 18) (.t 19)),rm 4 20] (rq [rm 21 4,ri 22 (.bin .lss (.t 21) (.c (.int .u8 97))),rm 23 22,wm 24 23 false 4,
 rg 25 23 false (.bin .gtr (.t 24) (.c (.int .u8 122))),wq 26 23 25,rm 27 26,wm 28 27 true 3,
 rg 29 27 true (.bin .eql (.t 28) (ci 0)),wm 30 27 true 29,wm 31 30 false 4,rg 32 30 false (.bin .lss (.t 31) (.c (.int .u8 48))),
 rg 33 27 true (.pick (.t 30) (.c (.bool true)) (.t 32)),wm 34 27 true 33,wm 35 34 false 4,rg 36 34 false (.bin .gtr (.t 35) (.c (.int .u8 57))),
 rg 37 27 true (.pick (.t 34) (.c (.bool true)) (.t 36)),
 wp 38 27 37] (wt 38 (rq [wf 2 false] .ret) .skip))))) (.region [wd 39 .add 15 1,
 rm 15 39] false []))))))) (rq [wf 2 true] .ret)))
def A9(j5 ou:Nat):cn:=
 rq [wc 2 0] (.seq (rq [rm 5 0,wn 6 5,
 wd 7 .gtr 6 20] (wt 7 (rq [wc 2 1] .ret) .skip)) (.seq (rq [rm 8 0,wn 9 8,
 wc 10 0] (.block 0 (.loop (rq [wb 11 .lss 10 9] (.seq (wt 11 .skip (.exit 0)) (.seq (.block 1 (rq [rm 12 10,
 wi 13 2 8 10,rl 14 2 true 13,ri 4 (.alloc [(.str ⟨#[]⟩),(.int .i64 0)]),rm 3 12,ws 2 4 14] (.seq (.region [rf 15 0 4,
 rl 16 1 false 15,ri 17 (.call j5 [(.t 16)]),ri 18 (.un .not (.t 17)),rm 19 18,rg 20 19 false (.xj 1 (.t 4)),wl 21 19 false 1 false 20,
 rg 22 19 false (.call ou [(.t 21)]),rg 23 19 false (.un .not (.t 22)),wq 24 19 23,rm 25 24,wm 26 25 false 3,
 rg 27 25 false (.bin .gtr (.t 26) (ci 0)),wm 28 25 false 27,wm 29 28 true 0,wm 30 28 true 3,rg 31 28 true (.bin .sub (.t 30) (ci 1)),
 rg 32 28 true (.te 2 (.t 29) (.t 31)),rg 33 28 true (.xj 0 (.t 32)),wl 34 28 true 1 false 33,rg 35 28 true (.xj 0 (.t 4)),
 wl 36 28 true 1 false 35,rg 37 28 true (.bin .geq (.t 34) (.t 36)),rg 38 25 false (.pick (.t 28) (.t 37) (.c (.bool false))),
 wq 39 25 38] true []) (wt 39 (rq [wc 2 1] .ret) .skip)))) (.region [wd 40 .add 10 1,
 rm 10 40] false []))))))) (rq [wc 2 0] .ret)))
def Ke(Al lr:Nat):cn:=
 rq [wx 2 3 0,wc 4 0] (.seq (rq [rl 6 3 true 2,ri 7 (.call Al [(.t 6)]),rm 5 7] (rq [rm 8 5,
 wd 9 .neq 8 0] (wt 9 (rq [rm 10 5,rm 4 10] .ret) .skip))) (rq [rm 11 1,ri 12 (.call lr [(.t 11)]),rm 4 12] .ret))
def Hf(Ak xt:Nat):cn:=
 rq [wx 2 3 0,wo 4,wc 5 0] (.seq (rq [rl 7 3 true 2,rm 8 1,ri 9 (.call Ak [(.t 7),(.t 8)]),rm 6 9] (rq [rm 10 6,
 wd 11 .neq 10 0] (wt 11 (rq [rm 12 6,wo 4,rm 5 12] .ret) .skip))) (rq [rl 13 3 true 2,rm 14 1,
 ri 15 (.call xt [(.t 13),(.t 14)]),rx 16 15 0,rx 17 15 1,rm 4 16,rm 5 17] .ret))
def He:cn:=
 rq [wx 2 3 0,wo 4,wc 5 0] (rq [ri 14 (.Ho),rm 6 14] (.seq (rq [rm 15 1,wn 16 15,
 wc 17 0] (.block 0 (.loop (rq [wb 18 .lss 17 16] (.seq (wt 18 .skip (.exit 0)) (.seq (.block 1 (rq [wi 19 2 15 17,
 rl 20 2 true 19,ri 8 (.alloc [(.str ⟨#[]⟩),(.int .i64 0)]),ws 2 8 20] (.region [rm 21 6,rf 22 0 8,rl 23 1 false 22,rf 24 1 8,rl 25 1 false 24,
 rn (.Wq (.one .str) (.t 21) (.t 23) (.t 25))] false []))) (.region [wd 26 .add 17 1,
 rm 17 26] false []))))))) (rq [wo 9] (.seq (rq [rf 27 1 2,rl 28 1 false 27,wn 29 28,
 wc 30 0] (.block 2 (.loop (rq [wb 31 .lss 30 29] (.seq (wt 31 .skip (.exit 2)) (.seq (.block 3 (rq [wi 32 3 28 30,
 rl 33 3 true 32,ri 11 (.alloc [(.str ⟨#[]⟩),(.int .i64 0),(.int .i64 0)]),ws 3 11 33] (rq [rm 35 6,rf 36 0 11,rl 37 1 false 36,
 ri 38 (.lookup (.one .str) (.int .i64 0) (.t 35) (.t 37) true),rm 34 38,rx 39 34 0,rx 40 34 1,rm 12 39,rm 13 40] (.seq (rq [rf 41 0 11,rl 42 1 false 41,
 ri 43 (.bin .neq (.t 42) (.c (.str ⟨#[]⟩))),rm 44 43,wm 45 44 true 13,rg 46 44 true (.un .not (.t 45)),
 wp 47 44 46] (wt 47 (rq [wo 4,wc 5 4] .ret) .skip)) (.seq (rq [rf 48 0 11,rl 49 1 false 48,
 ri 50 (.bin .eql (.t 49) (.c (.str ⟨#[]⟩)))] (wt 50 (.region [wc 12 0] false []) .skip)) (.region [rm 51 9,rf 52 1 11,rl 53 1 false 52,rm 54 12,
 wb 55 .mul 53 54,rf 56 2 11,rl 57 1 false 56,wb 58 .add 55 57,ri 59 (.xi false 1 1 [(.int .i64 0)] [(0,1,(.t 58))]),
 ri 60 (.app 1 8 (.t 51) (.t 59)),rm 9 60] false [])))))) (.region [wd 61 .add 30 1,rm 30 61] false []))))))) (rq [rm 62 9,rm 4 62,
 wc 5 0] .ret)))))
def Ar(mj:Nat):cn:=
 rq [wf 2 false] (rq [rm 3 0,wd 4 .geq 3 0,rm 5 4,wm 6 5 true 0,rg 7 5 true (.call mj []),
 rg 8 5 true (.ij (ci 14)),rg 9 5 true (.bin .lss (.t 6) (.t 8)),wp 10 5 9,rm 2 10] .ret)
def Kf(B4 B3 Az Ay Ax Aw Av Ee Au As A7 A6 A0 C2:Nat):cn:=
 rq [ri 0 (.alloc [(.str ⟨#[]⟩),(.int .i64 0),(.int .i64 0),.td,(.str ⟨#[]⟩),(.int .i64 0),(.int .i64 0),.td,(.str ⟨#[]⟩),(.int .i64 0),(.int .i64 0),.td,(.str ⟨#[]⟩),(.int .i64 0),(.int .i64 0),.td,(.str ⟨#[]⟩),(.int .i64 0),(.int .i64 0),.td,(.str ⟨#[]⟩),(.int .i64 0),(.int .i64 0),.td,(.str ⟨#[]⟩),(.int .i64 0),(.int .i64 0),.td,(.str ⟨#[]⟩),(.int .i64 0),(.int .i64 0),.td,(.str ⟨#[]⟩),(.int .i64 0),(.int .i64 0),.td,(.str ⟨#[]⟩),(.int .i64 0),(.int .i64 0),.td,(.str ⟨#[]⟩),(.int .i64 0),(.int .i64 0),.td,(.str ⟨#[]⟩),(.int .i64 0),(.int .i64 0),.td,(.str ⟨#[]⟩),(.int .i64 0),(.int .i64 0),.td,(.str ⟨#[]⟩),(.int .i64 0),(.int .i64 0),.td])] (rq [ri 1 (.build [(.str ⟨#[]⟩),(.int .i64 0),(.int .i64 0),.td] [(0,1,(.c (.str ⟨#[98,111,120]⟩))),(1,1,(ci 0)),(2,1,(ci 6)),(3,1,(.c (.mb B4 [])))]),
 ri 2 (.build [(.str ⟨#[]⟩),(.int .i64 0),(.int .i64 0),.td] [(0,1,(.c (.str ⟨#[112,114,105,115,109]⟩))),(1,1,(ci 0)),(2,1,(ci 2)),(3,1,(.c (.mb B3 [])))]),
 ri 3 (.build [(.str ⟨#[]⟩),(.int .i64 0),(.int .i64 0),.td] [(0,1,(.c (.str ⟨#[115,108,97,110,116]⟩))),(1,1,(ci 0)),(2,1,(ci 4)),(3,1,(.c (.mb Az [])))]),
 ri 4 (.build [(.str ⟨#[]⟩),(.int .i64 0),(.int .i64 0),.td] [(0,1,(.c (.str ⟨#[112,121,114,97,109,105,100]⟩))),(1,1,(ci 0)),(2,1,(ci 4)),(3,1,(.c (.mb Ay [])))]),
 ri 5 (.build [(.str ⟨#[]⟩),(.int .i64 0),(.int .i64 0),.td] [(0,1,(.c (.str ⟨#[117,110,105,111,110]⟩))),(1,1,(ci 2)),(2,1,(ci 0)),(3,1,(.c (.mb Ax [])))]),
 ri 6 (.build [(.str ⟨#[]⟩),(.int .i64 0),(.int .i64 0),.td] [(0,1,(.c (.str ⟨#[105,110,116,101,114,115,101,99,116]⟩))),(1,1,(ci 2)),(2,1,(ci 0)),(3,1,(.c (.mb Aw [])))]),
 ri 7 (.build [(.str ⟨#[]⟩),(.int .i64 0),(.int .i64 0),.td] [(0,1,(.c (.str ⟨#[115,117,98,116,114,97,99,116]⟩))),(1,1,(ci 2)),(2,1,(ci 0)),(3,1,(.c (.mb Av [])))]),
 ri 8 (.build [(.str ⟨#[]⟩),(.int .i64 0),(.int .i64 0),.td] [(0,1,(.c (.str ⟨#[99,108,105,112]⟩))),(1,1,(ci 1)),(2,1,(ci 4)),(3,1,(.c (.mb Ee [])))]),
 ri 9 (.build [(.str ⟨#[]⟩),(.int .i64 0),(.int .i64 0),.td] [(0,1,(.c (.str ⟨#[115,104,105,102,116]⟩))),(1,1,(ci 1)),(2,1,(ci 3)),(3,1,(.c (.mb Au [])))]),
 ri 10 (.build [(.str ⟨#[]⟩),(.int .i64 0),(.int .i64 0),.td] [(0,1,(.c (.str ⟨#[115,121,109,109,101,116,114,121]⟩))),(1,1,(ci 1)),(2,1,(ci 1)),(3,1,(.c (.mb As [])))]),
 ri 11 (.build [(.str ⟨#[]⟩),(.int .i64 0),(.int .i64 0),.td] [(0,1,(.c (.str ⟨#[115,99,97,108,101]⟩))),(1,1,(ci 1)),(2,1,(ci 2)),(3,1,(.c (.mb A7 [])))]),
 ri 12 (.build [(.str ⟨#[]⟩),(.int .i64 0),(.int .i64 0),.td] [(0,1,(.c (.str ⟨#[115,117,109]⟩))),(1,1,(ci 1)),(2,1,(ci 6)),(3,1,(.c (.mb A6 [])))]),
 ri 13 (.build [(.str ⟨#[]⟩),(.int .i64 0),(.int .i64 0),.td] [(0,1,(.c (.str ⟨#[99,111,114,101]⟩))),(1,1,(ci 1)),(2,1,(ci 6)),(3,1,(.c (.mb A0 [])))]),
 ri 14 (.build [(.str ⟨#[]⟩),(.int .i64 0),(.int .i64 0),.td] [(0,1,(.c (.str ⟨#[114,101,112,101,97,116]⟩))),(1,1,(ci 1)),(2,1,(ci 4)),(3,1,(.c (.mb C2 [])))]),
 ri 15 (.build [(.str ⟨#[]⟩),(.int .i64 0),(.int .i64 0),.td,(.str ⟨#[]⟩),(.int .i64 0),(.int .i64 0),.td,(.str ⟨#[]⟩),(.int .i64 0),(.int .i64 0),.td,(.str ⟨#[]⟩),(.int .i64 0),(.int .i64 0),.td,(.str ⟨#[]⟩),(.int .i64 0),(.int .i64 0),.td,(.str ⟨#[]⟩),(.int .i64 0),(.int .i64 0),.td,(.str ⟨#[]⟩),(.int .i64 0),(.int .i64 0),.td,(.str ⟨#[]⟩),(.int .i64 0),(.int .i64 0),.td,(.str ⟨#[]⟩),(.int .i64 0),(.int .i64 0),.td,(.str ⟨#[]⟩),(.int .i64 0),(.int .i64 0),.td,(.str ⟨#[]⟩),(.int .i64 0),(.int .i64 0),.td,(.str ⟨#[]⟩),(.int .i64 0),(.int .i64 0),.td,(.str ⟨#[]⟩),(.int .i64 0),(.int .i64 0),.td,(.str ⟨#[]⟩),(.int .i64 0),(.int .i64 0),.td] [(0,4,(.t 1)),(4,4,(.t 2)),(8,4,(.t 3)),(12,4,(.t 4)),(16,4,(.t 5)),(20,4,(.t 6)),(24,4,(.t 7)),(28,4,(.t 8)),(32,4,(.t 9)),(36,4,(.t 10)),(40,4,(.t 11)),(44,4,(.t 12)),(48,4,(.t 13)),(52,4,(.t 14))]),
 ws 56 0 15] .ret)
def Iw(mf mj:Nat):cn:=
 rq [wc 2 0,wc 3 0] (.seq (rq [rm 4 0,ri 5 (.call mf [(.t 4)]),ri 6 (.un .not (.t 5))] (wt 6 (rq [wc 2 0,
 wc 3 1] .ret) .skip)) (rq [ri 7 (.call mj []),rm 8 0,ri 9 (.a14 14 4 true (.t 7) (.t 8)),ri 10 (.Zh 1 1 false (.t 9)),rm 2 10,
 wc 3 0] .ret))
def Kg(mf mj kq uy Aj:Nat):cn:=
 rq [wx 1 3 0,wc 2 0] (.seq (.seq (.region [rf 3 0 1,rl 4 1 false 3,ri 5 (.call mf [(.t 4)]),ri 6 (.un .not (.t 5)),rm 7 6,
 rg 8 7 false (.xj 1 (.t 1)),wl 9 7 false 1 false 8,rg 10 7 false (.len .dt (.t 9)),rg 11 7 false (.call mj []),rg 12 7 false (.xj 0 (.t 1)),
 wl 13 7 false 1 false 12,rg 14 7 false (.a14 14 4 true (.t 11) (.t 13)),rg 15 7 false (.Zh 2 1 false (.t 14)),rg 16 7 false (.bin .neq (.t 10) (.t 15)),
 wq 17 7 16,rm 18 17,rg 19 18 false (.xj 1 (.t 1)),wl 20 18 false 1 false 19,
 rg 21 18 false (.call kq [(.t 20),(.c (.mb uy []))]),
 wq 22 18 21] true []) (wt 22 (rq [wc 2 220] .ret) .skip)) (.seq (rq [rf 23 0 1,
 rl 24 1 false 23] (.block 0 (.seq (rq [wd 31 .eql 24 1,rm 30 31] (wt 30 .skip (rq [wd 32 .eql 24 2,
 rm 30 32] (wt 30 .skip (.region [wd 33 .eql 24 3,rm 30 33] false []))))) (wt 30 (rq [rf 34 2 1,rl 35 1 true 34,
 ri 36 (.call Aj [(.t 35)]),wd 37 .neq 36 0] (wt 37 (rq [wc 2 220] .ret) .skip)) (rq [rf 25 2 1,rf 26 0 25,
 rl 27 1 false 26,wn 28 27,
 wd 29 .gtr 28 0] (wt 29 (rq [wc 2 220] .ret) .skip)))))) (rq [wc 2 0] .ret)))
def Hg(sl:Nat):cn:=
 rq [wx 1 3 0,wf 2 false] (rq [rl 3 3 true 1,ri 4 (.call sl [(.t 3)]),ri 5 (.un .not (.t 4)),rm 2 5] .ret)
def Db(ou j5:Nat):cn:=
 rq [wx 1 3 0,wf 2 false] (.seq (rq [rf 3 1 1,rl 4 1 false 3,ri 5 (.call ou [(.t 4)]),ri 6 (.un .not (.t 5)),rm 7 6,
 rg 8 7 false (.xj 2 (.t 1)),wl 9 7 false 1 false 8,rg 10 7 false (.call ou [(.t 9)]),rg 11 7 false (.un .not (.t 10)),
 wq 12 7 11] (wt 12 (rq [wf 2 false] .ret) .skip)) (rq [rf 13 0 1,rl 14 1 false 13,
 ri 15 (.call j5 [(.t 14)]),rm 16 15,rg 17 16 false (.xj 0 (.t 1)),wl 18 16 false 1 false 17,
 rg 19 16 false (.bin .eql (.t 18) (.c (.str ⟨#[]⟩))),wm 20 16 false 19,rg 21 20 true (.xj 1 (.t 1)),wl 22 20 true 1 false 21,
 rg 23 20 true (.bin .eql (.t 22) (ci 0)),rg 24 16 false (.pick (.t 20) (.t 23) (.c (.bool false))),wq 25 16 24,rm 2 25] .ret))
def Ff(nr:Nat):cn:=
 rq [wf 4 false] (rq [rm 5 0,rm 6 1,ri 7 (.call nr [(.t 5),(.t 6)]),wd 8 .geq 7 0,rm 4 8] .ret)
def Gx:cn:=
 rq [wc 4 0] (.seq (rq [rm 6 0,wn 7 6,
 wc 8 0] (.block 0 (.loop (rq [wb 9 .lss 8 7] (.seq (wt 9 .skip (.exit 0)) (.seq (.block 1 (rq [rm 10 8,rm 5 10] (rq [rm 11 1,
 rm 12 0,rm 13 5,wi 14 3 12 13,rl 15 3 true 14,ri 16 (.vb (.t 11) [(.t 15)])] (wt 16 (rq [rm 17 5,
 rm 4 17] .ret) .skip)))) (.region [wd 18 .add 8 1,rm 8 18] false []))))))) (rq [wc 4 (-1)] .ret))
def K1(rj:Nat):cn:=
 rq [wf 4 false] (rq [rm 5 0,rm 6 1,ri 7 (.call rj [(.t 5),(.t 6)]),wd 8 .geq 7 0,rm 4 8] .ret)
def Mc:cn:=
 rq [wc 4 0] (.seq (rq [rm 6 0,wn 7 6,
 wc 8 0] (.block 0 (.loop (rq [wb 9 .lss 8 7] (.seq (wt 9 .skip (.exit 0)) (.seq (.block 1 (rq [rm 10 8,rm 5 10] (rq [rm 11 1,
 rm 12 0,rm 13 5,wi 14 1 12 13,rl 15 1 false 14,ri 16 (.vb (.t 11) [(.t 15)])] (wt 16 (rq [rm 17 5,
 rm 4 17] .ret) .skip)))) (.region [wd 18 .add 8 1,rm 8 18] false []))))))) (rq [wc 4 (-1)] .ret))
def N2(wv:Nat):cn:=
 rq [wf 4 false] (rq [rm 5 0,rm 6 1,ri 7 (.call wv [(.t 5),(.t 6)]),wd 8 .geq 7 0,rm 4 8] .ret)
def D8:cn:=
 rq [wc 4 0] (.seq (rq [rm 6 0,wn 7 6,
 wc 8 0] (.block 0 (.loop (rq [wb 9 .lss 8 7] (.seq (wt 9 .skip (.exit 0)) (.seq (.block 1 (rq [rm 10 8,rm 5 10] (rq [rm 11 1,
 rm 12 0,rm 13 5,wi 14 1 12 13,rl 15 1 false 14,wb 16 .eql 11 15] (wt 16 (rq [rm 17 5,
 rm 4 17] .ret) .skip)))) (.region [wd 18 .add 8 1,rm 8 18] false []))))))) (rq [wc 4 (-1)] .ret))
def Ia:cn:=
 rq [wc 4 0] (.seq (rq [rm 6 0,wn 7 6,
 wc 8 0] (.block 0 (.loop (rq [wb 9 .lss 8 7] (.seq (wt 9 .skip (.exit 0)) (.seq (.block 1 (rq [rm 10 8,rm 5 10] (rq [rm 11 1,
 rm 12 0,rm 13 5,wi 14 5 12 13,rl 15 5 true 14,ri 16 (.vb (.t 11) [(.t 15)])] (wt 16 (rq [rm 17 5,
 rm 4 17] .ret) .skip)))) (.region [wd 18 .add 8 1,rm 8 18] false []))))))) (rq [wc 4 (-1)] .ret))
def K5(lr j5 ux zi s6 j8 qq:Nat):cn:=
 rq [wx 1 2 0,wc 2 0] (.seq (rq [rf 11 0 1,rl 12 1 false 11,ri 13 (.call lr [(.t 12)]),wd 14 .neq 13 0,
 rm 15 14,rg 16 15 false (.xj 1 (.t 1)),wl 17 15 false 1 false 16,rg 18 15 false (.len .dt (.t 17)),rg 19 15 false (.bin .gtr (.t 18) (ci 20)),
 wq 20 15 19] (wt 20 (rq [wc 2 230] .ret) .skip)) (.seq (rq [rf 21 1 1,rl 22 1 false 21,
 wn 23 22,
 wc 24 0] (.block 0 (.loop (rq [wb 25 .lss 24 23] (.seq (wt 25 .skip (.exit 0)) (.seq (.block 1 (rq [rm 26 24,
 wi 27 5 22 24,rl 28 5 true 27,ri 4 (.alloc [(.str ⟨#[]⟩),(.int .i64 0),.bd,.bd,.bd]),rm 3 26,
 ws 5 4 28] (.seq (.region [rf 29 0 4,rl 30 1 false 29,ri 31 (.call j5 [(.t 30)]),ri 32 (.un .not (.t 31)),rm 33 32,
 wm 34 33 false 3,rg 35 33 false (.bin .gtr (.t 34) (ci 0)),wm 36 33 false 35,rg 37 36 true (.xj 1 (.t 1)),wl 38 36 true 1 false 37,
 wm 39 36 true 3,rg 40 36 true (.bin .sub (.t 39) (ci 1)),rg 41 36 true (.te 5 (.t 38) (.t 40)),rg 42 36 true (.xj 0 (.t 41)),
 wl 43 36 true 1 false 42,rg 44 36 true (.xj 0 (.t 4)),wl 45 36 true 1 false 44,rg 46 36 true (.bin .geq (.t 43) (.t 45)),
 rg 47 33 false (.pick (.t 36) (.t 46) (.c (.bool false))),
 wq 48 33 47] true []) (wt 48 (rq [wc 2 230] .ret) .skip)))) (.region [wd 49 .add 24 1,
 rm 24 49] false []))))))) (.seq (rq [rf 50 1 1,rl 51 1 false 50,wn 52 51,
 wc 53 0] (.block 2 (.loop (rq [wb 54 .lss 53 52] (.seq (wt 54 .skip (.exit 2)) (.seq (.block 3 (rq [wi 55 5 51 53,
 rl 56 5 true 55,ri 6 (.alloc [(.str ⟨#[]⟩),(.int .i64 0),.bd,.bd,.bd]),ws 5 6 56] (.seq (rq [rf 58 1 6,rl 59 3 true 58,rf 60 0 1,
 rl 61 1 false 60,ri 62 (.call ux [(.t 59),(.t 61)]),rm 57 62,rx 63 57 0,rx 64 57 1,rm 7 63,rm 8 64] (rq [rm 65 8,
 wd 66 .neq 65 0] (wt 66 (rq [wc 2 230] .ret) .skip))) (.seq (rq [rf 68 1 6,rf 69 0 68,rl 70 1 false 69,
 ri 71 (.call zi [(.t 70)]),rm 67 71,rx 72 67 0,rx 73 67 1,rm 9 72,rm 10 73] (rq [rm 74 9,rf 75 4 6,rl 76 1 false 75,wn 77 76,
 wb 78 .neq 74 77] (wt 78 (rq [wc 2 230] .ret) .skip))) (rq [rf 79 4 6,rl 80 1 false 79,ri 81 (.Kr s6 [(.t 1)]),
 ri 82 (.call j8 [(.t 80),(.t 81)])] (wt 82 (rq [wc 2 230] .ret) .skip)))))) (.region [wd 83 .add 53 1,
 rm 53 83] false []))))))) (.seq (.seq (.region [rl 84 2 true 1,ri 85 (.call qq [(.t 84)]),wn 86 85,rf 87 1 1,rl 88 1 false 87,
 wn 89 88,wb 90 .neq 86 89] true []) (wt 90 (rq [wc 2 230] .ret) .skip)) (rq [wc 2 0] .ret)))))
def H9(vl:Nat):cn:=
 rq [wf 3 false] (rq [rl 4 2 true 1,rm 5 0,ri 6 (.call vl [(.t 4),(.t 5)]),ri 7 (.Hp .ptr false (.t 6)),rm 3 7] .ret)
def F0:cn:=
 rq [wx 2 2 0,ri 4 (.ij (.c .Ti))] (.seq (rq [rf 6 1 2,rl 7 1 false 6,wn 8 7,
 wc 9 0] (.block 0 (.loop (rq [wb 10 .lss 9 8] (.seq (wt 10 .skip (.exit 0)) (.seq (.block 1 (rq [rm 11 9,rm 5 11] (rq [rf 12 1 2,
 rl 13 1 false 12,rm 14 5,wi 15 5 13 14,rf 16 0 15,rl 17 1 false 16,rm 18 1,wb 19 .eql 17 18] (wt 19 (rq [rf 20 1 2,
 rl 21 1 false 20,rm 22 5,wi 23 5 21 22,rm 4 23] .ret) .skip)))) (.region [wd 24 .add 9 1,
 rm 9 24] false []))))))) (rq [ri 4 (.ij (.c .Ti))] .ret))
def Cd(k9 o6 j8:Nat):cn:=
 rq [wx 2 5 0,wf 3 false] (rq [rl 4 1 false 1,rf 5 0 2,rl 6 1 false 5,ri 7 (.call k9 [(.t 4),(.t 6)]),
 ri 8 (.un .not (.t 7)),rm 9 8,rg 10 9 true (.xj 4 (.t 2)),wl 11 9 true 1 false 10,rg 12 9 true (.Kr o6 [(.t 1)]),
 rg 13 9 true (.call j8 [(.t 11),(.t 12)]),rg 14 9 true (.un .not (.t 13)),wp 15 9 14,rm 3 15] .ret)
def B7(k9:Nat):cn:=
 rq [wf 3 false] (rq [rl 4 1 false 1,rm 5 0,ri 6 (.call k9 [(.t 4),(.t 5)]),ri 7 (.un .not (.t 6)),rm 3 7] .ret)
def Gy:cn:=
 rq [wc 4 0] (.seq (rq [rm 6 0,wn 7 6,
 wc 8 0] (.block 0 (.loop (rq [wb 9 .lss 8 7] (.seq (wt 9 .skip (.exit 0)) (.seq (.block 1 (rq [rm 10 8,rm 5 10] (rq [rm 11 1,
 rm 12 0,rm 13 5,wi 14 2 12 13,rl 15 2 true 14,ri 16 (.vb (.t 11) [(.t 15)])] (wt 16 (rq [rm 17 5,
 rm 4 17] .ret) .skip)))) (.region [wd 18 .add 8 1,rm 8 18] false []))))))) (rq [wc 4 (-1)] .ret))
def Kb(s8 ll:Nat):cn:=
 rq [wx 2 2 0,wx 3 1 1,wc 4 0] (rq [rf 5 0 2,rl 6 1 false 5,ri 7 (.Kr s8 [(.t 3)]),
 ri 8 (.call ll [(.t 6),(.t 7)]),rm 4 8] .ret)
def Ka(s7 gr:Nat):cn:=
 rq [wx 2 2 0,wx 3 1 1,wc 4 0] (rq [rf 5 1 2,rl 6 1 false 5,ri 7 (.Kr s7 [(.t 3)]),
 ri 8 (.call gr [(.t 6),(.t 7)]),rm 4 8] .ret)
def Hc:cn:=
 rq [wx 2 2 0,wf 3 false] (rq [rf 4 0 2,rl 5 1 false 4,rl 6 1 false 1,wb 7 .eql 5 6,rm 3 7] .ret)
def Ha:cn:=
 rq [wx 2 5 0,wf 3 false] (rq [rf 4 0 2,rl 5 1 false 4,rl 6 1 false 1,wb 7 .eql 5 6,rm 3 7] .ret)
def K3:cn:=
 rq [wo 2] (.seq (rq [rm 3 0,
 ri 4 (.Hp .dt false (.t 3))] (wt 4 (rq [wo 2] .ret) .skip)) (rq [ri 5 (.xi false 0 2 [(.str ⟨#[]⟩),(.int .i64 0)] []),rm 6 0,
 ri 7 (.app 2 24 (.t 5) (.t 6)),rm 2 7] .ret))
def Q5:cn:=
 rq [wo 2] (.seq (rq [rm 3 0,
 ri 4 (.Hp .dt false (.t 3))] (wt 4 (rq [wo 2] .ret) .skip)) (rq [ri 5 (.xi false 0 1 [(.str ⟨#[]⟩)] []),rm 6 0,
 ri 7 (.app 1 16 (.t 5) (.t 6)),rm 2 7] .ret))
def K2:cn:=
 rq [wo 2] (.seq (rq [rm 3 0,
 ri 4 (.Hp .dt false (.t 3))] (wt 4 (rq [wo 2] .ret) .skip)) (rq [ri 5 (.xi false 0 3 [(.str ⟨#[]⟩),(.int .i64 0),(.int .i64 0)] []),
 rm 6 0,ri 7 (.app 3 32 (.t 5) (.t 6)),rm 2 7] .ret))
def Ky:cn:=
 rq [wo 2] (.seq (rq [rm 3 0,
 ri 4 (.Hp .dt false (.t 3))] (wt 4 (rq [wo 2] .ret) .skip)) (rq [ri 5 (.xi false 0 2 [(.int .i64 0),(.int .i64 0)] []),rm 6 0,
 ri 7 (.app 2 16 (.t 5) (.t 6)),rm 2 7] .ret))
def xk:cn:=
 rq [wo 4] (rq [wo 5] (.seq (rq [rm 8 0,wn 9 8,
 wc 10 0] (.block 0 (.loop (rq [wb 11 .lss 10 9] (.seq (wt 11 .skip (.exit 0)) (.seq (.block 1 (rq [wi 12 5 8 10,
 rl 13 5 true 12,ri 7 (.alloc [(.str ⟨#[]⟩),(.int .i64 0),.bd,.bd,.bd]),ws 5 7 13] (.region [rm 14 5,rm 15 1,rl 16 5 true 7,
 ri 17 (.vb (.t 15) [(.t 16)]),ri 18 (.xi false 1 5 [(.str ⟨#[]⟩),(.int .i64 0),.bd,.bd,.bd] [(0,5,(.t 17))]),ri 19 (.app 5 96 (.t 14) (.t 18)),
 rm 5 19] false []))) (.region [wd 20 .add 10 1,rm 10 20] false []))))))) (rq [rm 21 5,rm 4 21] .ret)))
def xl:cn:=
 rq [wo 4] (rq [wo 5] (.seq (rq [rm 8 0,wn 9 8,
 wc 10 0] (.block 0 (.loop (rq [wb 11 .lss 10 9] (.seq (wt 11 .skip (.exit 0)) (.seq (.block 1 (rq [wi 12 1 8 10,
 rl 13 1 false 12,rm 7 13] (.region [rm 14 5,rm 15 1,rm 16 7,ri 17 (.vb (.t 15) [(.t 16)]),ri 18 (.xi false 1 1 [.bd] [(0,1,(.t 17))]),
 ri 19 (.app 1 24 (.t 14) (.t 18)),rm 5 19] false []))) (.region [wd 20 .add 10 1,rm 10 20] false []))))))) (rq [rm 21 5,rm 4 21] .ret)))
def Lo(lp j9 ie ed:Nat):cn:=
 rq [wx 1 5 0,ri 2 (.alloc [(.str ⟨#[]⟩),(.int .i64 0),.bd,.bd,.bd])] (rq [rf 3 4 1,rl 4 1 false 3,ri 5 (.call lp [(.t 4)]),rf 6 4 1,
 ws 1 6 5] (rq [rf 7 1 1,rf 8 1 7,rl 9 1 false 8,ri 10 (.call j9 [(.t 9)]),rf 11 1 1,rf 12 1 11,
 ws 1 12 10] (rq [rf 13 1 1,rf 14 2 13,rf 15 0 14,rl 16 1 false 15,
 ri 17 (.call ie [(.t 16),(.c (.mb ed []))]),ri 18 (.build [.bd] [(0,1,(.t 17))]),rf 19 1 1,rf 20 2 19,
 ws 1 20 18] (rq [rl 21 5 true 1,ws 5 2 21] .ret))))
def Iv(dm cw ft:Nat):cn:=
 rq [wx 1 2 0,ri 2 (.alloc [.bd,.bd])] (.seq (.region [rf 3 0 1,rl 4 1 false 3,ri 5 (.call dm [(.t 4)]),rf 6 1 1,rl 7 1 false 6,
 ri 8 (.call cw [(.t 7),(.c (.mb ft []))]),ri 9 (.build [.bd,.bd] [(0,1,(.t 5)),(1,1,(.t 8))]),
 ws 2 2 9] true []) .ret)
def It(tx:Nat):cn:=
 rq [wx 1 2 0,wf 2 false] (rq [rl 3 2 true 1,ri 4 (.call tx [(.t 3)]),ri 5 (.un .not (.t 4)),rm 2 5] .ret)
def Br:cn:=
 rq [wx 1 1 0,wc 2 0] (rq [wc 3 0] (.seq (rq [rf 6 0 1,rl 7 1 false 6,wn 8 7,
 wc 9 0] (.block 0 (.loop (rq [wb 10 .lss 9 8] (.seq (wt 10 .skip (.exit 0)) (.seq (.block 1 (rq [wi 11 1 7 9,
 rl 12 1 false 11,rm 5 12] (.region [rm 13 3,rm 14 5,wn 15 14,wb 16 .add 13 15,
 rm 3 16] false []))) (.region [wd 17 .add 9 1,rm 9 17] false []))))))) (rq [rm 18 3,rm 2 18] .ret)))
def zq:cn:=
 rq [wx 1 1 0,wo 2] (rq [wo 3] (.seq (rq [rf 8 0 1,rl 9 1 false 8,wn 10 9,
 wc 11 0] (.block 0 (.loop (rq [wb 12 .lss 11 10] (.seq (wt 12 .skip (.exit 0)) (.seq (.block 1 (rq [wi 13 1 9 11,
 rl 14 1 false 13,rm 5 14] (rq [rm 15 5,wn 16 15,
 wc 17 0] (.block 2 (.loop (rq [wb 18 .lss 17 16] (.seq (wt 18 .skip (.exit 2)) (.seq (.block 3 (rq [rm 19 17,
 wi 20 2 15 17,rl 21 2 true 20,ri 7 (.alloc [(.int .i64 0),(.int .i64 0)]),rm 6 19,ws 2 7 21] (.region [rm 22 3,rl 23 2 true 7,
 rm 24 5,rm 25 6,wd 26 .add 25 1,rm 27 5,wn 28 27,wb 29 .rem 26 28,wi 30 2 24 29,rl 31 2 true 30,
 ri 32 (.build [(.int .i64 0),(.int .i64 0),(.int .i64 0),(.int .i64 0)] [(0,2,(.t 23)),(2,2,(.t 31))]),
 ri 33 (.xi false 1 4 [(.int .i64 0),(.int .i64 0),(.int .i64 0),(.int .i64 0)] [(0,4,(.t 32))]),ri 34 (.app 4 32 (.t 22) (.t 33)),
 rm 3 34] true []))) (.region [wd 35 .add 17 1,rm 17 35] false []))))))))) (.region [wd 36 .add 11 1,
 rm 11 36] false []))))))) (rq [rm 37 3,rm 2 37] .ret)))
def Aq:cn:=
 rq [wx 1 2 0,wf 2 false] (rq [wa 3 2 1 1 0,rl 4 1 false 3,wa 5 2 1 1 1,rl 6 1 false 5,
 ri 7 (.Ce true (.t 4) (.t 6)),wd 8 .leq 7 500,rm 9 8,rg 10 9 true (.tf 2 1 (.t 1) (ci 0)),wl 11 9 true 1 false 10,
 rg 12 9 true (.tf 2 1 (.t 1) (ci 1)),wl 13 9 true 1 false 12,rg 14 9 true (.Ce false (.t 11) (.t 13)),rg 15 9 true (.bin .geq (.t 14) (ci (-500))),
 wp 16 9 15,rm 2 16] .ret)
def Dw:cn:=
 rq [wx 2 2 0,wx 3 2 1,ri 4 (.alloc [(.int .i64 0),(.int .i64 0)])] (rq [wa 5 2 1 2 0,rl 6 1 false 5,
 wa 7 2 1 3 0,rl 8 1 false 7,wb 9 .sub 6 8,wa 10 2 1 2 1,rl 11 1 false 10,wa 12 2 1 3 1,
 rl 13 1 false 12,wb 14 .sub 11 13,ri 15 (.build [(.int .i64 0),(.int .i64 0)] [(0,1,(.t 9)),(1,1,(.t 14))]),ws 2 4 15] .ret)
def Fz(j7:Nat):cn:=
 rq [wf 4 false] (rq [rm 5 0,rm 6 1,ri 7 (.call j7 [(.t 5),(.t 6)]),wd 8 .geq 7 0,rm 4 8] .ret)
def Ib:cn:=
 rq [wc 4 0] (.seq (rq [rm 6 0,wn 7 6,
 wc 8 0] (.block 0 (.loop (rq [wb 9 .lss 8 7] (.seq (wt 9 .skip (.exit 0)) (.seq (.block 1 (rq [rm 10 8,rm 5 10] (rq [rm 11 1,
 rm 12 0,rm 13 5,wi 14 2 12 13,rl 15 2 true 14,ri 16 (.vb (.t 11) [(.t 15)])] (wt 16 (rq [rm 17 5,
 rm 4 17] .ret) .skip)))) (.region [wd 18 .add 8 1,rm 8 18] false []))))))) (rq [wc 4 (-1)] .ret))
def Is(sg pq:Nat):cn:=
 rq [wf 2 false] (rq [ri 10 (.Ho),rm 3 10] (.seq (rq [rm 11 0,wn 12 11,
 wc 13 0] (.block 0 (.loop (rq [wb 14 .lss 13 12] (.seq (wt 14 .skip (.exit 0)) (.seq (.block 1 (rq [wi 15 4 11 13,
 rl 16 4 true 15,ri 5 (.alloc [(.int .i64 0),(.int .i64 0),(.int .i64 0),(.int .i64 0)]),ws 4 5 16] (.seq (rq [wa 17 2 2 5 0,
 rl 18 2 true 17,wa 19 2 2 5 1,rl 20 2 true 19,ri 21 (.eqs [.int,.int] false (.t 18) (.t 20)),rm 22 21,wm 23 22 false 3,
 wl 24 22 false 4 true 5,rg 25 22 false (.lookup (.row [.int,.int,.int,.int]) (.bool false) (.t 23) (.t 24) false),
 wq 26 22 25,rm 27 26,wm 28 27 false 3,rg 29 27 false (.tf 2 2 (.t 5) (ci 1)),wl 30 27 false 2 true 29,
 rg 31 27 false (.tf 2 2 (.t 5) (ci 0)),wl 32 27 false 2 true 31,
 rg 33 27 false (.build [(.int .i64 0),(.int .i64 0),(.int .i64 0),(.int .i64 0)] [(0,2,(.t 30)),(2,2,(.t 32))]),
 rg 34 27 false (.lookup (.row [.int,.int,.int,.int]) (.bool false) (.t 28) (.t 33) false),
 wq 35 27 34] (wt 35 (rq [wf 2 false] .ret) .skip)) (.region [rm 36 3,rl 37 4 true 5,
 rn (.Wq (.row [.int,.int,.int,.int]) (.t 36) (.t 37) (.c (.bool true)))] false [])))) (.region [wd 38 .add 13 1,
 rm 13 38] false []))))))) (.seq (rq [rm 39 0,wn 40 39,
 wc 41 0] (.block 2 (.loop (rq [wb 42 .lss 41 40] (.seq (wt 42 .skip (.exit 2)) (.seq (.block 3 (rq [rm 43 41,
 wi 44 4 39 41,rl 45 4 true 44,ri 7 (.alloc [(.int .i64 0),(.int .i64 0),(.int .i64 0),(.int .i64 0)]),rm 6 43,
 ws 4 7 45] (rq [rm 46 0,wn 47 46,
 wc 48 0] (.block 4 (.loop (rq [wb 49 .lss 48 47] (.seq (wt 49 .skip (.exit 4)) (.seq (.block 5 (rq [rm 50 48,
 wi 51 4 46 48,rl 52 4 true 51,ri 9 (.alloc [(.int .i64 0),(.int .i64 0),(.int .i64 0),(.int .i64 0)]),rm 8 50,
 ws 4 9 52] (rq [rl 53 4 true 7,wa 54 2 2 9 0,rl 55 2 true 54,ri 56 (.call sg [(.t 53),(.t 55)]),rm 57 56,
 wm 58 57 false 8,wm 59 57 false 6,rg 60 57 false (.bin .lss (.t 58) (.t 59)),wm 61 57 false 60,wl 62 61 true 4 true 7,
 wl 63 61 true 4 true 9,rg 64 61 true (.call pq [(.t 62),(.t 63)]),rg 65 57 false (.pick (.t 61) (.t 64) (.c (.bool false))),
 wq 66 57 65] (wt 66 (rq [wf 2 false] .ret) .skip)))) (.region [wd 67 .add 48 1,
 rm 48 67] false []))))))))) (.region [wd 68 .add 41 1,rm 41 68] false []))))))) (rq [wf 2 true] .ret))))
def D9(dr ib:Nat):cn:=
 rq [wx 2 4 0,wx 3 2 1,wf 4 false] (.seq (.region [wa 7 2 2 2 0,rl 8 2 true 7,rl 9 2 true 3,
 ri 10 (.call dr [(.t 8),(.t 9)]),wa 11 2 2 2 1,rl 12 2 true 11,rl 13 2 true 3,ri 14 (.call dr [(.t 12),(.t 13)]),
 ri 5 (.w8 2),ri 6 (.w8 2),rn (.init 5 2 (.t 10)),rn (.init 6 2 (.t 14))] true []) (rq [rl 15 2 true 5,rl 16 2 true 6,
 ri 17 (.call ib [(.t 15),(.t 16)]),wd 18 .eql 17 0,rm 19 18,rg 20 19 true (.tf 2 1 (.t 5) (ci 0)),wl 21 19 true 1 false 20,
 rg 22 19 true (.tf 2 1 (.t 6) (ci 0)),wl 23 19 true 1 false 22,rg 24 19 true (.bin .mul (.t 21) (.t 23)),rg 25 19 true (.tf 2 1 (.t 5) (ci 1)),
 wl 26 19 true 1 false 25,rg 27 19 true (.tf 2 1 (.t 6) (ci 1)),wl 28 19 true 1 false 27,rg 29 19 true (.bin .mul (.t 26) (.t 28)),
 rg 30 19 true (.bin .add (.t 24) (.t 29)),rg 31 19 true (.bin .lss (.t 30) (ci 0)),wp 32 19 31,rm 4 32] .ret))
def Ae(o7:Nat):cn:=
 rq [wx 2 4 0,wx 3 4 1,wf 4 false] (rq [ri 5 (.ij (.c (.mb o7 [])))] (.seq (.region [rm 6 5,
 rl 7 4 true 2,wa 8 2 2 3 0,rl 9 2 true 8,ri 10 (.vb (.t 6) [(.t 7),(.t 9)]),rm 11 5,rl 12 4 true 2,wa 13 2 2 3 1,rl 14 2 true 13,
 ri 15 (.vb (.t 11) [(.t 12),(.t 14)]),wb 16 .mul 10 15,wd 17 .lss 16 0,rm 18 17,wm 19 18 true 5,
 wl 20 18 true 4 true 3,rg 21 18 true (.tf 2 2 (.t 2) (ci 0)),wl 22 18 true 2 true 21,rg 23 18 true (.vb (.t 19) [(.t 20),(.t 22)]),
 wm 24 18 true 5,wl 25 18 true 4 true 3,rg 26 18 true (.tf 2 2 (.t 2) (ci 1)),wl 27 18 true 2 true 26,
 rg 28 18 true (.vb (.t 24) [(.t 25),(.t 27)]),rg 29 18 true (.bin .mul (.t 23) (.t 28)),rg 30 18 true (.bin .lss (.t 29) (ci 0)),
 wp 31 18 30,rm 4 31] true []) .ret))
def yj(dr ib:Nat):cn:=
 rq [wx 2 4 0,wx 3 2 1,wc 4 0] (.seq (.region [wa 5 2 2 2 1,rl 6 2 true 5,wa 7 2 2 2 0,
 rl 8 2 true 7,ri 9 (.call dr [(.t 6),(.t 8)]),rl 10 2 true 3,wa 11 2 2 2 0,rl 12 2 true 11,
 ri 13 (.call dr [(.t 10),(.t 12)]),ri 14 (.call ib [(.t 9),(.t 13)]),ri 15 (.Ce false (ci 1) (.t 14)),
 ri 16 (.Ce true (ci (-1)) (.t 15)),rm 4 16] true []) .ret)
def K7:cn:=
 rq [wx 2 2 0,wx 3 2 1,wc 4 0] (rq [wa 5 2 1 2 0,rl 6 1 false 5,wa 7 2 1 3 1,rl 8 1 false 7,
 wb 9 .mul 6 8,wa 10 2 1 2 1,rl 11 1 false 10,wa 12 2 1 3 0,rl 13 1 false 12,wb 14 .mul 11 13,
 wb 15 .sub 9 14,rm 4 15] .ret)
def Ll(dr ib:Nat):cn:=
 rq [wx 3 2 0,wx 4 2 1,wx 5 2 2,wc 6 0] (.seq (.region [rl 8 2 true 4,rl 9 2 true 3,
 ri 10 (.call dr [(.t 8),(.t 9)]),rl 11 2 true 5,rl 12 2 true 4,ri 13 (.call dr [(.t 11),(.t 12)]),
 ri 14 (.call ib [(.t 10),(.t 13)]),rm 7 14] true []) (rq [rm 15 7,ri 16 (.Ce false (ci 1) (.t 15)),ri 17 (.Ce true (ci (-1)) (.t 16)),
 rm 6 17] .ret))
def Iu(ib:Nat):cn:=
 rq [wf 2 false] (.seq (rq [rm 16 0,wn 17 16,
 wc 18 0] (.block 0 (.loop (rq [wb 19 .lss 18 17] (.seq (wt 19 .skip (.exit 0)) (.seq (.block 1 (rq [rm 20 18,
 wi 21 4 16 18,rl 22 4 true 21,ri 4 (.alloc [(.int .i64 0),(.int .i64 0),(.int .i64 0),(.int .i64 0)]),rm 3 20,
 ws 4 4 22] (rq [wa 23 2 2 4 0,wa 24 2 1 23 0,rl 25 1 false 24,wa 26 2 2 4 1,
 wa 27 2 1 26 0,rl 28 1 false 27,wb 29 .add 25 28,wa 30 2 2 4 0,wa 31 2 1 30 1,rl 32 1 false 31,
 wa 33 2 2 4 1,wa 34 2 1 33 1,rl 35 1 false 34,wb 36 .add 32 35,
 ri 37 (.build [(.int .i64 0),(.int .i64 0)] [(0,1,(.t 29)),(1,1,(.t 36))]),ri 5 (.alloc [(.int .i64 0),(.int .i64 0)]),
 ws 2 5 37] (rq [wc 6 0,wc 7 1] (.seq (rq [wa 38 2 2 4 0,wa 39 2 1 38 1,rl 40 1 false 39,
 wa 41 2 2 4 1,wa 42 2 1 41 1,rl 43 1 false 42,wb 44 .eql 40 43] (wt 44 (.region [wc 6 1,
 wc 7 0] false []) .skip)) (rq [wc 8 0] (.seq (rq [rm 45 0,wn 46 45,
 wc 47 0] (.block 2 (.loop (rq [wb 48 .lss 47 46] (.seq (wt 48 .skip (.exit 2)) (.seq (.block 3 (rq [rm 49 47,
 wi 50 4 45 47,rl 51 4 true 50,ri 10 (.alloc [(.int .i64 0),(.int .i64 0),(.int .i64 0),(.int .i64 0)]),rm 9 49,
 ws 4 10 51] (.seq (.region [rm 52 6,wa 53 2 2 10 0,ri 54 (.tf 2 1 (.t 53) (.t 52)),rl 55 1 false 54,
 ri 56 (.bin .mul (ci 2) (.t 55)),rm 57 6,ri 58 (.tf 2 1 (.t 5) (.t 57)),rl 59 1 false 58,wb 60 .sub 56 59,rm 61 7,wa 62 2 2 10 0,
 ri 63 (.tf 2 1 (.t 62) (.t 61)),rl 64 1 false 63,ri 65 (.bin .mul (ci 2) (.t 64)),rm 66 7,ri 67 (.tf 2 1 (.t 5) (.t 66)),rl 68 1 false 67,
 wb 69 .sub 65 68,ri 70 (.build [(.int .i64 0),(.int .i64 0)] [(0,1,(.t 60)),(1,1,(.t 69))]),rm 71 6,wa 72 2 2 10 1,
 ri 73 (.tf 2 1 (.t 72) (.t 71)),rl 74 1 false 73,ri 75 (.bin .mul (ci 2) (.t 74)),rm 76 6,ri 77 (.tf 2 1 (.t 5) (.t 76)),rl 78 1 false 77,
 wb 79 .sub 75 78,rm 80 7,wa 81 2 2 10 1,ri 82 (.tf 2 1 (.t 81) (.t 80)),rl 83 1 false 82,ri 84 (.bin .mul (ci 2) (.t 83)),rm 85 7,
 ri 86 (.tf 2 1 (.t 5) (.t 85)),rl 87 1 false 86,wb 88 .sub 84 87,ri 89 (.build [(.int .i64 0),(.int .i64 0)] [(0,1,(.t 79)),(1,1,(.t 88))]),
 ri 11 (.w8 2),ri 12 (.w8 2),rn (.init 11 2 (.t 70)),rn (.init 12 2 (.t 89))] true []) (.seq (rq [rm 90 9,rm 91 3,wb 92 .eql 90 91,rm 93 92,
 rg 94 93 false (.tf 2 1 (.t 11) (ci 1)),wl 95 93 false 1 false 94,rg 96 93 false (.bin .gtr (.t 95) (ci 0)),rg 97 93 false (.tf 2 1 (.t 12) (ci 1)),
 wl 98 93 false 1 false 97,rg 99 93 false (.bin .gtr (.t 98) (ci 0)),rg 100 93 false (.beq false (.t 96) (.t 99)),
 wq 101 93 100] (wt 101 (.exit 3) .skip)) (rq [wa 102 2 1 12 1,rl 103 1 false 102,
 wa 104 2 1 11 1,rl 105 1 false 104,wb 106 .gtr 103 105,rm 13 106] (rq [rl 107 2 true 11,rl 108 2 true 12,
 ri 109 (.call ib [(.t 107),(.t 108)]),wd 110 .gtr 109 0,rm 111 13,
 ri 112 (.beq false (.t 110) (.t 111))] (wt 112 (rq [rm 113 13] (wt 113 (.region [rm 114 8,wd 115 .add 114 1,
 rm 8 115] false []) (.region [rm 116 8,wd 117 .sub 116 1,rm 8 117] false []))) .skip))))))) (.region [wd 118 .add 47 1,
 rm 47 118] false []))))))) (.seq (rq [rm 119 6,wd 120 .eql 119 1] (wt 120 (.region [rm 121 8,ri 122 (.un .neg (.t 121)),
 rm 8 122] false []) .skip)) (rq [rm 123 8,rm 14 123] (.seq (.region [rm 124 7,wa 125 2 2 4 1,ri 126 (.tf 2 1 (.t 125) (.t 124)),rl 127 1 false 126,
 rm 128 7,wa 129 2 2 4 0,ri 130 (.tf 2 1 (.t 129) (.t 128)),rl 131 1 false 130,wb 132 .gtr 127 131,
 rm 15 132] true []) (.seq (rq [rm 133 15,rm 134 6,wd 135 .eql 134 0,ri 136 (.beq false (.t 133) (.t 135))] (wt 136 (.region [rm 137 14,
 wd 138 .add 137 1,rm 14 138] false []) .skip)) (rq [rm 139 14,
 wd 140 .neq 139 1] (wt 140 (rq [wf 2 false] .ret) .skip))))))))))))) (.region [wd 141 .add 18 1,
 rm 18 141] false []))))))) (rq [wf 2 true] .ret))
def Bq:cn:=
 rq [wx 1 2 0,wc 2 0] (.seq (rq [wa 3 2 1 1 1,rl 4 1 false 3,wd 5 .gtr 4 0,rm 6 5,
 rg 7 6 false (.tf 2 1 (.t 1) (ci 1)),wl 8 6 false 1 false 7,rg 9 6 false (.bin .eql (.t 8) (ci 0)),wm 10 6 false 9,
 rg 11 10 true (.tf 2 1 (.t 1) (ci 0)),wl 12 10 true 1 false 11,rg 13 10 true (.bin .gtr (.t 12) (ci 0)),
 rg 14 6 false (.pick (.t 10) (.t 13) (.c (.bool false))),
 wq 15 6 14] (wt 15 (rq [wc 2 0] .ret) .skip)) (rq [wc 2 1] .ret))
def K8(zy ib:Nat):cn:=
 rq [wx 2 2 0,wx 3 2 1,wc 4 0] (.seq (.seq (.region [rl 7 2 true 2,ri 8 (.call zy [(.t 7)]),rl 9 2 true 3,
 ri 10 (.call zy [(.t 9)]),rm 5 8,rm 6 10] true []) (rq [rm 11 5,rm 12 6,wb 13 .neq 11 12] (wt 13 (rq [rm 14 5,rm 15 6,
 wb 16 .sub 14 15,rm 4 16] .ret) .skip))) (rq [rl 17 2 true 2,rl 18 2 true 3,ri 19 (.call ib [(.t 17),(.t 18)]),ri 20 (.un .neg (.t 19)),
 rm 4 20] .ret))
structure Pr(P:Program)where
 mo:P.follows .mixedOrders=true
 lq:Nat
 yn:Nat
 ss:Nat
 D2:Nat
 J0:Nat
 zf:Nat
 uw:Nat
 Bz:Nat
 Bc:Nat
 Er:Nat
 D1:Nat
 D3:Nat
 qp:Nat
 qh:Nat
 ni:Nat
 x8:Nat
 Bb:Nat
 ze:Nat
 By:Nat
 Bx:Nat
 ud:Nat
 y0:Nat
 D0:Nat
 yy:Nat
 Cy:Nat
 Ba:Nat
 Cz:Nat
 Be:Nat
 D6:Nat
 Bd:Nat
 zz:Nat
 Es:Nat
 D5:Nat
 ue:Nat
 xh:Nat
 qz:Nat
 za:Nat
 Cj:Nat
 D4:Nat
 ou:Nat
 j5:Nat
 lr:Nat
 Ak:Nat
 Al:Nat
 ux:Nat
 xt:Nat
 mf:Nat
 mj:Nat
 B4:Nat
 B3:Nat
 Az:Nat
 Ay:Nat
 Ax:Nat
 Aw:Nat
 Av:Nat
 Ee:Nat
 Au:Nat
 As:Nat
 A7:Nat
 A6:Nat
 A0:Nat
 C2:Nat
 zi:Nat
 kq:Nat
 uy:Nat
 Aj:Nat
 sl:Nat
 nr:Nat
 j8:Nat
 rj:Nat
 k9:Nat
 wv:Nat
 gr:Nat
 la:Nat
 s6:Nat
 qq:Nat
 vl:Nat
 me:Nat
 o6:Nat
 ll:Nat
 gq:Nat
 s8:Nat
 ja:Nat
 s7:Nat
 dm:Nat
 lp:Nat
 j9:Nat
 ed:Nat
 cw:Nat
 ie:Nat
 ft:Nat
 jk:Nat
 x9:Nat
 tx:Nat
 qk:Nat
 mu:Nat
 dr:Nat
 l5:Nat
 j7:Nat
 zg:Nat
 sg:Nat
 pq:Nat
 ib:Nat
 o7:Nat
 C0:Nat
 zh:Nat
 zy:Nat
 qy:Nat
 a3w:dj P lq {}=some (Nf,[.tmp 6],30)
 a83:dj P yn {}=some (H7,[.tmp 2],9)
 a3t:dj P ss {}=some (Na,[.cell 4 2 true],16)
 a3s:dj P D2 {}=some (Cx,[.tmp 2],21)
 aew:dj P J0 {}=some (Te lq,[.tmp 4],58)
 X4:dj P zf {}=some (Ir lq yn,[.tmp 4],43)
 Va:dj P uw {}=some (H8,[.tmp 4],38)
 a1g:dj P Bz {}=some (Lk uw,[.tmp 6],33)
 a3v:dj P Bc {}=some (Nc,[.tmp 2],47)
 a84:dj P Er {rb:=[(8,[61])]}=some (Pe lq,[.tmp 4],175)
 a3r:dj P D1 {}=some (N9 ss Bz,[.tmp 4],112)
 a3u:dj P D3 {}=some (Nb D2 Bc J0 zf Er D1,[.tmp 2],176)
 a1d:dj P qp {}=some (Gz,[.tmp 2],9)
 a81:dj P qh {}=some (H6,[.tmp 2],47)
 Sc:dj P ni {}=some (Bl qh qp,[.tmp 2],47)
 Tu:dj P x8 {}=some (G3 qp qh,[.tmp 2],26)
 a3p:dj P Bb {}=some (N7,[.tmp 0],2)
 X3:dj P ze {}=some (Ek Bb,[.tmp 2],15)
 a1f:dj P By {}=some (Lj,[.tmp 2],7)
 a1e:dj P Bx {}=some (Li,[.tmp 2],7)
 a3q:dj P ud {}=some (N8 ze By x8 D3,[.tmp 2],51)
 Z3:dj P y0 {}=some (K4 ud ni,[.tmp 4,.tmp 5],69)
 a3o:dj P D0 {}=some (N6,[.tmp 4],22)
 abi:dj P yy {}=some (Ql,[.tmp 4],18)
 a3l:dj P Cy {}=some (N3 yy,[.tmp 4],21)
 a3n:dj P Ba {}=some (N5 yy Cy,[.tmp 2],48)
 a3m:dj P Cz {}=some (N4 ni qh ud Bx D0 y0 Ba,[.tmp 2],98)
 a4a:dj P Be {}=some (Nn,[.tmp 2],40)
 a4b:dj P D6 {}=some (No,[.tmp 2],25)
 a47:dj P Bd {}=some (Nk Be,[.cell 2 3 true],39)
 a1k:dj P zz {}=some (Ln,[.tmp 2],26)
 a89:dj P Es {}=some (Kz,[.tmp 4],26)
 a48:dj P D5 {}=some (Nl D6,[.tmp 4],57)
 a3z:dj P ue {}=some (Ni zz xh,[.cell 2 2 true],30)
 a88:dj P xh {}=some (Pg Bd,[.cell 2 5 true],11)
 a42:dj P qz {}=some (J9 D5,[.tmp 2],54)
 a43:dj P za {}=some (Nj xh Es,[.tmp 4],188)
 a86:dj P Cj {}=some (Pf,[.cell 0 2 true],28)
 Nz:dj P D4 {}=some (B8 qz,[.tmp 2],20)
 X9:dj P ou {}=some (Em,[.tmp 2],9)
 Xa:dj P j5 {}=some (Bt,[.tmp 2],40)
 Qb:dj P lr {}=some (A9 j5 ou,[.tmp 2],41)
 Zd:dj P Ak {}=some (Ke Al lr,[.tmp 4],13)
 Vg:dj P ux {}=some (Hf Ak xt,[.tmp 4,.tmp 5],18)
 Vf:dj P xt {}=some (He,[.tmp 4,.tmp 5],63)
 Qz:dj P mf {}=some (Ar mj,[.tmp 2],11)
 Ze:dj P mj {}=some (Kf B4 B3 Az Ay Ax Aw Av Ee Au As A7 A6 A0 C2,[.cell 0 56 true],16)
 Xb:dj P zi {}=some (Iw mf mj,[.tmp 2,.tmp 3],11)
 Zf:dj P Al {}=some (Kg mf mj kq uy Aj,[.tmp 2],38)
 Vh:dj P uy {}=some (Hg sl,[.tmp 2],6)
 Qa:dj P sl {}=some (Db ou j5,[.tmp 2],26)
 Fj:dj P kq {}=some (Ff nr,[.tmp 4],9)
 Hr:dj P nr {}=some (Gx,[.tmp 4],19)
 Kk:dj P j8 {}=some (K1 rj,[.tmp 4],9)
 Md:dj P rj {}=some (Mc,[.tmp 4],19)
 Nx:dj P k9 {}=some (N2 wv,[.tmp 4],9)
 Q7:dj P wv {}=some (D8,[.tmp 4],19)
 Ic:dj P gr {}=some (Ia,[.tmp 4],19)
 Z4:dj P la {}=some (K5 lr j5 ux zi s6 j8 qq,[.tmp 2],91)
 Vb:dj P s6 {}=some (H9 vl,[.tmp 3],8)
 Sd:dj P vl {}=some (F0,[.tmp 4],25)
 Po:dj P me {}=some (Cd k9 o6 j8,[.tmp 3],16)
 Ny:dj P o6 {}=some (B7 k9,[.tmp 3],8)
 Hs:dj P ll {}=some (Gy,[.tmp 4],19)
 Za:dj P gq {}=some (Kb s8 ll,[.tmp 4],9)
 Z9:dj P ja {}=some (Ka s7 gr,[.tmp 4],9)
 Vd:dj P s8 {}=some (Hc,[.tmp 3],8)
 Vc:dj P s7 {}=some (Ha,[.tmp 3],8)
 Ct:dj P dm {}=some (K3,[.tmp 2],8)
 Ij:dj P lp {}=some (Q5,[.tmp 2],8)
 xz:dj P j9 {}=some (K2,[.tmp 2],8)
 yl:dj P ed {}=some (Ky,[.tmp 2],8)
 Jr:dj P cw {}=some (xk,[.tmp 4],22)
 Js:dj P ie {}=some (xl,[.tmp 4],22)
 a1l:dj P ft {}=some (Lo lp j9 ie ed,[.cell 2 5 true],22)
 X8:dj P jk {}=some (Iv dm cw ft,[.cell 2 2 true],10)
 X6:dj P x9 {}=some (It tx,[.tmp 2],6)
 Oq:dj P qk {}=some (Br,[.tmp 2],19)
 Lv:dj P mu {}=some (zq,[.tmp 2],38)
 Qx:dj P tx {}=some (Aq,[.tmp 2],17)
 Qy:dj P dr {}=some (Dw,[.cell 4 2 true],16)
 Gd:dj P l5 {}=some (Fz j7,[.tmp 4],9)
 Ie:dj P j7 {}=some (Ib,[.tmp 4],19)
 X5:dj P zg {}=some (Is sg pq,[.tmp 2],69)
 Q8:dj P sg {}=some (D9 dr ib,[.tmp 4],33)
 Me:dj P pq {}=some (Ae o7,[.tmp 4],32)
 L8:dj P o7 {}=some (yj dr ib,[.tmp 4],17)
 Z6:dj P ib {}=some (K7,[.tmp 4],16)
 a1h:dj P C0 {}=some (Ll dr ib,[.tmp 6],18)
 X7:dj P zh {}=some (Iu ib,[.tmp 2],142)
 a1j:dj P zy {}=some (Bq,[.tmp 2],16)
 Z7:dj P qy {}=some (K8 zy ib,[.tmp 4],21)
def Dt(me gr:Nat):cn:=
 rq [wx 1 2 0,wo 2] (rq [ri 3 (.alloc [.bd])] (.block 0 (.loop (.block 1 (rq [rf 5 1 1,rl 6 1 false 5,
 ri 7 (.Kr me [(.t 3)]),ri 8 (.call gr [(.t 6),(.t 7)]),rm 4 8] (.seq (rq [rm 9 4,
 wd 10 .lss 9 0] (wt 10 (rq [rl 11 1 false 3,rm 2 11] .ret) .skip)) (.region [rl 12 1 false 3,rf 13 1 1,rl 14 1 false 13,rm 15 4,
 wi 16 5 14 15,rf 17 0 16,rl 18 1 false 17,ri 19 (.xi true 1 1 [(.str ⟨#[]⟩)] [(0,1,(.t 18))]),ri 20 (.app 1 16 (.t 12) (.t 19)),
 ws 1 3 20] true [])))))))
structure Pr2(P:Program)extends Pr P where
 Qu:dj P qq {imm:=[19]}=some (Dt me gr,[.tmp 2],21)
def K6:cn:=
 rq [ri 2 (.alloc [.L0,.L0])] (rq [ri 6 (.Ho),ri 7 (.Ho),ri 8 (.build [.L0,.L0] [(0,1,(.t 6)),(1,1,(.t 7))]),ri 3 (.alloc [.L0,.L0]),
 ws 2 3 8] (.seq (rq [rm 9 0,wn 10 9,
 wc 11 0] (.block 0 (.loop (rq [wb 12 .lss 11 10] (.seq (wt 12 .skip (.exit 0)) (.seq (.block 1 (rq [wi 13 4 9 11,
 rl 14 4 true 13,ri 5 (.alloc [(.int .i64 0),(.int .i64 0),(.int .i64 0),(.int .i64 0)]),ws 4 5 14] (rq [rf 15 0 3,rl 16 1 false 15,
 wa 17 2 2 5 0,rl 18 2 true 17,wa 20 2 2 5 1,rl 21 2 true 20,ri 22 (.xi false 1 2 [(.int .i64 0),(.int .i64 0)] [(0,2,(.t 21))]),
 rn (.Xc (.row [.int,.int]) 2 16 (.t 16) (.t 18) (.t 22) [23,19,24,25])] (.region [rf 26 1 3,rl 27 1 false 26,wa 28 2 2 5 1,rl 29 2 true 28,
 wa 31 2 2 5 0,rl 32 2 true 31,ri 33 (.xi false 1 2 [(.int .i64 0),(.int .i64 0)] [(0,2,(.t 32))]),
 rn (.Xc (.row [.int,.int]) 2 16 (.t 27) (.t 29) (.t 33) [34,30,35,36])] false [])))) (.region [wd 37 .add 11 1,
 rm 11 37] false []))))))) (.seq (.seq (.freeze) (.region [rl 38 2 true 3,ws 2 2 38] false [])) .ret)))
def Dv(C0:Nat):cn:=
 rq [wx 2 2 0,wx 3 2 1,wf 4 false] (.seq (.region [rf 5 0 2,rl 6 1 false 5,rl 7 2 true 3,
 ri 8 (.lookup (.row [.int,.int]) .bd (.t 6) (.t 7) false),wn 9 8,wd 10 .neq 9 1,rm 11 10,rg 12 11 false (.xj 1 (.t 2)),
 wl 13 11 false 1 false 12,wl 14 11 false 2 true 3,rg 15 11 false (.lookup (.row [.int,.int]) .bd (.t 13) (.t 14) false),
 rg 16 11 false (.te 2 (.t 15) (ci 0)),wl 17 11 false 2 true 16,wl 18 11 false 2 true 3,rg 19 11 false (.xj 0 (.t 2)),
 wl 20 11 false 1 false 19,wl 21 11 false 2 true 3,rg 22 11 false (.lookup (.row [.int,.int]) .bd (.t 20) (.t 21) false),
 rg 23 11 false (.te 2 (.t 22) (ci 0)),wl 24 11 false 2 true 23,rg 25 11 false (.call C0 [(.t 17),(.t 18),(.t 24)]),
 rg 26 11 false (.bin .neq (.t 25) (ci 0)),wq 27 11 26,rm 4 27] true []) .ret)
def G5(dr pk qy:Nat):cn:=
 rq [wx 3 2 0,wx 4 2 1,wx 5 2 2,ri 6 (.alloc [(.int .i64 0),(.int .i64 0)])] (rq [rf 15 0 3,rl 16 1 false 15,rl 17 2 true 5,
 ri 18 (.lookup (.row [.int,.int]) .bd (.t 16) (.t 17) false),rm 7 18] (rq [rm 19 7,ri 20 (.te 2 (.t 19) (ci 0)),rl 21 2 true 20,
 ri 8 (.alloc [(.int .i64 0),(.int .i64 0)]),ws 2 8 21] (rq [rl 22 2 true 4,rl 23 2 true 5,ri 24 (.call dr [(.t 22),(.t 23)]),
 ri 9 (.alloc [(.int .i64 0),(.int .i64 0)]),ws 2 9 24] (rq [ri 25 (.Kr pk [(.t 5),(.t 9)]),rm 10 25] (.seq (rq [rm 26 7,
 ri 27 (.slice 2 (.t 26) (some (ci 1)) none),wn 28 27,
 wc 29 0] (.block 0 (.loop (rq [wb 30 .lss 29 28] (.seq (wt 30 .skip (.exit 0)) (.seq (.block 1 (rq [wi 31 2 27 29,
 rl 32 2 true 31,ri 12 (.alloc [(.int .i64 0),(.int .i64 0)]),ws 2 12 32] (.seq (.region [rm 33 10,rl 34 2 true 12,ri 35 (.vb (.t 33) [(.t 34)]),
 rm 36 10,rl 37 2 true 8,ri 38 (.vb (.t 36) [(.t 37)]),rm 13 35,rm 14 38] true []) (.seq (.region [rm 39 13,rm 40 39,wm 41 40 true 14,
 rg 42 40 true (.un .not (.t 41)),wp 43 40 42,rm 44 43,wm 45 44 false 13,wm 46 44 false 14,
 rg 47 44 false (.beq false (.t 45) (.t 46)),wm 48 44 false 47,wl 49 48 true 2 true 12,wl 50 48 true 2 true 5,
 rg 51 48 true (.call dr [(.t 49),(.t 50)]),wl 52 48 true 2 true 8,wl 53 48 true 2 true 5,
 rg 54 48 true (.call dr [(.t 52),(.t 53)]),rg 55 48 true (.call qy [(.t 51),(.t 54)]),rg 56 48 true (.bin .gtr (.t 55) (ci 0)),
 rg 57 44 false (.pick (.t 48) (.t 56) (.c (.bool false))),wq 58 44 57] true []) (wt 58 (.region [rl 59 2 true 12,
 ws 2 8 59] false []) .skip))))) (.region [wd 60 .add 29 1,rm 29 60] false []))))))) (rq [rl 61 2 true 8,
 ws 2 6 61] .ret))))))
def Du(dr qy:Nat):cn:=
 rq [wx 3 2 0,wf 4 false] (.seq (.region [rl 5 2 true 3,rl 6 2 true 1,ri 7 (.call dr [(.t 5),(.t 6)]),rl 8 2 true 2,
 ri 9 (.call qy [(.t 7),(.t 8)]),wd 10 .lss 9 0,rm 4 10] true []) .ret)
def F1(ed sj ke nn gp qx:Nat):cn:=
 rq [wx 2 2 0,wo 4] (rq [rm 8 1,ri 9 (.ti ed [(.t 8)]),ri 10 (.Kr sj [(.t 2)]),
 ri 11 (.ti ke [(.t 9),(.t 10)]),rm 1 11] (.seq (.seq (.freeze) (.region [rm 12 1,rm 5 12] false [])) (.seq (rq [rm 13 1,
 wn 14 13,
 wc 15 0] (.block 0 (.loop (rq [wb 16 .lss 15 14] (.seq (wt 16 .skip (.exit 0)) (.seq (.block 1 (rq [rm 17 15,
 rm 6 17] (.seq (.region [rm 18 1,rm 19 6,ri 20 (.slice 2 (.t 18) (some (.t 19)) none),rm 21 1,rm 22 6,ri 23 (.slice 2 (.t 21) none (some (.t 22))),
 ri 24 (.xi true 2 1 [.bd] [(0,1,(.t 20)),(1,1,(.t 23))]),ri 25 (.call nn [(.t 24)]),rm 7 25] true []) (rq [rm 26 7,rm 27 5,
 ri 28 (.call gp [(.t 26),(.t 27),(.c (.mb qx []))]),wd 29 .lss 28 0] (wt 29 (.region [rm 30 7,
 rm 5 30] false []) .skip))))) (.region [wd 31 .add 15 1,rm 15 31] false []))))))) (rq [rm 32 5,ri 33 (.call ed [(.t 32)]),
 rm 4 33] .ret))))
def Da(tv:Nat):cn:=
 rq [wx 2 2 0,wf 3 false] (rq [rl 4 2 true 1,rl 5 2 true 2,ri 6 (.call tv [(.t 4),(.t 5)]),ri 7 (.un .not (.t 6)),
 rm 3 7] .ret)
def uj(j7:Nat):cn:=
 rq [wo 4] (rq [rm 8 0,rm 9 1,ri 10 (.call j7 [(.t 8),(.t 9)]),rm 5 10] (.seq (rq [rm 11 5,
 wd 12 .eql 11 (-1)] (wt 12 (rq [rm 13 0,rm 4 13] .ret) .skip)) (.seq (rq [rm 14 5,wd 15 .add 14 1,
 rm 6 15] (.block 0 (.loop (.seq (rq [rm 16 6,rm 17 0,wn 18 17,
 wb 19 .lss 16 18] (wt 19 .skip (.exit 0))) (.seq (.block 1 (rq [rm 22 0,rm 23 6,wi 24 2 22 23,rl 25 2 true 24,
 ri 7 (.alloc [(.int .i64 0),(.int .i64 0)]),ws 2 7 25] (rq [rm 26 1,rl 27 2 true 7,ri 28 (.vb (.t 26) [(.t 27)]),
 ri 29 (.un .not (.t 28))] (wt 29 (rq [rm 30 0,rm 31 5,rl 32 2 true 7,wi 33 2 30 31,ws 2 33 32] (.region [rm 34 5,
 wd 35 .add 34 1,rm 5 35] false [])) .skip)))) (.region [rm 20 6,wd 21 .add 20 1,rm 6 21] false [])))))) (rq [rm 36 0,rm 37 5,
 ri 38 (.Kv 2 (.t 36) (some (.t 37)) none none),rn (.clr [(.int .i64 0),(.int .i64 0)] (.t 38))] (rq [rm 39 0,rm 40 5,ri 41 (.Le 2 (.t 39) (.t 40)),
 rm 4 41] .ret)))))
def zp:cn:=
 rq [wo 4] (.seq (rq [rm 5 1,wd 6 .lss 5 0] (wt 6 (.region [ri 7 (.bad),rn (.bad)] false []) .skip)) (.seq (rq [rm 8 1,rm 9 0,
 ri 10 (.a8n (.t 9)),rm 11 0,wn 12 11,wb 13 .sub 10 12,wb 14 .sub 8 13,rm 1 14] (rq [rm 15 1,
 wd 16 .gtr 15 0] (wt 16 (.region [rm 17 0,rm 18 0,ri 19 (.a8n (.t 18)),ri 20 (.slice 2 (.t 17) none (some (.t 19))),rm 21 1,
 ri 22 (.Zi 2 16 [(.int .i64 0),(.int .i64 0)] (.t 20) (.t 21)),rm 23 0,wn 24 23,ri 25 (.Le 2 (.t 22) (.t 24)),
 rm 0 25] false []) .skip))) (rq [rm 26 0,rm 4 26] .ret)))
def xx(oq:Nat):cn:=
 rq [wo 2] (rq [wc 3 0] (.seq (rq [rm 9 0,wn 10 9,
 wc 11 0] (.block 0 (.loop (rq [wb 12 .lss 11 10] (.seq (wt 12 .skip (.exit 0)) (.seq (.block 1 (rq [wi 13 1 9 11,
 rl 14 1 false 13,rm 5 14] (rq [rm 15 3,rm 16 5,wn 17 16,wb 18 .add 15 17,rm 3 18] (rq [rm 19 3,
 wd 20 .lss 19 0] (wt 20 (.region [ri 21 (.bad),rn (.bad)] false []) .skip))))) (.region [wd 22 .add 11 1,
 rm 11 22] false []))))))) (rq [rm 23 3,ri 24 (.ti oq [(.c .bd),(.t 23)]),rm 6 24] (.seq (rq [rm 25 0,wn 26 25,
 wc 27 0] (.block 2 (.loop (rq [wb 28 .lss 27 26] (.seq (wt 28 .skip (.exit 2)) (.seq (.block 3 (rq [wi 29 1 25 27,
 rl 30 1 false 29,rm 8 30] (.region [rm 31 6,rm 32 8,ri 33 (.app 2 16 (.t 31) (.t 32)),rm 6 33] false []))) (.region [wd 34 .add 27 1,
 rm 27 34] false []))))))) (rq [rm 35 6,rm 2 35] .ret)))))
def Cc(vn:Nat):cn:=
 rq [wc 4 0] (.seq (rq [rm 9 0,wn 10 9,
 wc 11 0] (.block 0 (.loop (rq [wb 12 .lss 11 10] (.seq (wt 12 .skip (.exit 0)) (.seq (.block 1 (rq [rm 13 11,
 wi 14 1 9 11,rl 15 1 false 14,rm 5 13,rm 6 15] (.seq (rq [rm 16 5,rm 17 1,wn 18 17,
 wb 19 .geq 16 18] (wt 19 (rq [wc 4 1] .ret) .skip)) (rq [rm 20 1,rm 21 5,wi 22 1 20 21,rl 23 1 false 22,
 rm 7 23] (rq [rm 24 6,rm 25 7,ri 26 (.call vn [(.t 24),(.t 25)]),rm 8 26] (rq [rm 27 8,wd 28 .neq 27 0] (wt 28 (rq [rm 29 8,
 rm 4 29] .ret) .skip))))))) (.region [wd 30 .add 11 1,rm 11 30] false []))))))) (.seq (rq [rm 31 0,wn 32 31,rm 33 1,
 wn 34 33,wb 35 .lss 32 34] (wt 35 (rq [wc 4 (-1)] .ret) .skip)) (rq [wc 4 0] .ret)))
def tn:cn:=
 rq [wc 6 0] (.seq (rq [rm 11 0,wn 12 11,
 wc 13 0] (.block 0 (.loop (rq [wb 14 .lss 13 12] (.seq (wt 14 .skip (.exit 0)) (.seq (.block 1 (rq [rm 15 13,
 wi 16 2 11 13,rl 17 2 true 16,ri 8 (.alloc [(.int .i64 0),(.int .i64 0)]),rm 7 15,ws 2 8 17] (.seq (rq [rm 18 7,rm 19 1,
 wn 20 19,wb 21 .geq 18 20] (wt 21 (rq [wc 6 1] .ret) .skip)) (rq [rm 22 1,rm 23 7,
 wi 24 2 22 23,rl 25 2 true 24,ri 9 (.alloc [(.int .i64 0),(.int .i64 0)]),ws 2 9 25] (rq [rm 26 2,rl 27 2 true 8,rl 28 2 true 9,
 ri 29 (.vb (.t 26) [(.t 27),(.t 28)]),rm 10 29] (rq [rm 30 10,wd 31 .neq 30 0] (wt 31 (rq [rm 32 10,
 rm 6 32] .ret) .skip))))))) (.region [wd 33 .add 13 1,rm 13 33] false []))))))) (.seq (rq [rm 34 0,wn 35 34,rm 36 1,
 wn 37 36,wb 38 .lss 35 37] (wt 38 (rq [wc 6 (-1)] .ret) .skip)) (rq [wc 6 0] .ret)))
def Ng(re:Nat):cn:=
 rq [wx 2 2 0,wx 3 2 1,wc 4 0] (.seq (.region [ri 5 (.a8v 2 1 (.t 2)),ri 6 (.a8v 2 1 (.t 3)),
 ri 7 (.call re [(.t 5),(.t 6)]),rm 4 7] true []) .ret)
def F3(uz:Nat):cn:=
 rq [wc 4 0] (rq [rm 7 0,ri 8 (.call uz [(.t 7)]),rm 5 8] (rq [rm 9 1,ri 10 (.call uz [(.t 9)]),
 rm 6 10] (.seq (rq [rm 11 5] (wt 11 (.seq (rq [rm 12 6] (wt 12 (rq [wc 4 0] .ret) .skip)) (rq [wc 4 (-1)] .ret)) .skip)) (.seq (rq [rm 13 6] (wt 13 (rq [wc 4 1] .ret) .skip)) (.seq (rq [rm 14 0,
 rm 15 1,wb 16 .lss 14 15] (wt 16 (rq [wc 4 (-1)] .ret) .skip)) (.seq (rq [rm 17 0,rm 18 1,
 wb 19 .gtr 17 18] (wt 19 (rq [wc 4 1] .ret) .skip)) (rq [wc 4 0] .ret)))))))
def Hh:cn:=
 rq [wf 2 false] (rq [rm 3 0,rm 4 0,wb 5 .neq 3 4,rm 2 5] .ret)
def Bp(ew l7:Nat):cn:=
 rq [wo 2] (rq [rm 3 0,ri 4 (.ti ew [(.t 3),(.c (.mb l7 []))])] (rq [rm 5 0,rm 2 5] .ret))
def G4(gp qx:Nat):cn:=
 rq [wc 4 0] (rq [rm 5 0,rm 6 1,ri 7 (.call gp [(.t 5),(.t 6),(.c (.mb qx []))]),rm 4 7] .ret)
def F2(qw xa lz kj:Nat):cn:=
 rq [ri 2 (.alloc [.bd])] (rq [rm 10 0,ri 11 (.call qw [(.t 10)]),ri 3 (.alloc [.L0,.L0]),ws 2 3 11] (rq [ri 12 (.Ho),
 rm 4 12] (rq [wo 5] (.seq .skip (.seq (rq [rm 13 0,wn 14 13,
 wc 15 0] (.block 0 (.loop (rq [wb 16 .lss 15 14] (.seq (wt 16 .skip (.exit 0)) (.seq (.block 1 (rq [wi 17 4 13 15,
 rl 18 4 true 17,ri 7 (.alloc [(.int .i64 0),(.int .i64 0),(.int .i64 0),(.int .i64 0)]),ws 4 7 18] (.seq (rq [rm 19 4,rl 20 4 true 7,
 ri 21 (.lookup (.row [.int,.int,.int,.int]) (.bool false) (.t 19) (.t 20) false)] (wt 21 (.exit 1) .skip)) (rq [wo 8] (.seq (rq [rl 22 4 true 7,
 ri 9 (.alloc [(.int .i64 0),(.int .i64 0),(.int .i64 0),(.int .i64 0)]),ws 4 9 22] (.block 2 (.loop (.seq (rq [rm 23 4,rl 24 4 true 9,
 ri 25 (.lookup (.row [.int,.int,.int,.int]) (.bool false) (.t 23) (.t 24) false),
 ri 26 (.un .not (.t 25))] (wt 26 .skip (.exit 2))) (.seq (.block 3 (rq [rm 36 4,rl 37 4 true 9,
 rn (.Wq (.row [.int,.int,.int,.int]) (.t 36) (.t 37) (.c (.bool true)))] (.region [rm 38 8,wa 39 2 2 9 0,rl 40 2 true 39,
 ri 41 (.xi false 1 2 [(.int .i64 0),(.int .i64 0)] [(0,2,(.t 40))]),ri 42 (.app 2 16 (.t 38) (.t 41)),
 rm 8 42] false []))) (.seq (rq [rl 43 4 true 9] (.region [ri 9 (.alloc [(.int .i64 0),(.int .i64 0),(.int .i64 0),(.int .i64 0)]),
 ws 4 9 43] false [])) (.region [wa 27 2 2 9 1,rl 28 2 true 27,rl 29 2 true 3,wa 30 2 2 9 0,rl 31 2 true 30,
 wa 32 2 2 9 1,rl 33 2 true 32,ri 34 (.call xa [(.t 29),(.t 31),(.t 33)]),
 ri 35 (.build [(.int .i64 0),(.int .i64 0),(.int .i64 0),(.int .i64 0)] [(0,2,(.t 28)),(2,2,(.t 34))]),
 ws 4 9 35] true []))))))) (.seq (.freeze) (.region [rm 44 5,rl 45 2 true 3,rm 46 8,ri 47 (.call lz [(.t 45),(.t 46)]),
 ri 48 (.xi false 1 1 [.bd] [(0,1,(.t 47))]),ri 49 (.app 1 24 (.t 44) (.t 48)),rm 5 49] false []))))))) (.region [wd 50 .add 15 1,
 rm 15 50] false []))))))) (rq [rm 51 5,ri 52 (.ti kj [(.t 51)]),ri 53 (.build [.bd] [(0,1,(.t 52))]),ws 1 2 53] .ret))))))
def u5:cn:=
 rq [wf 4 false] (.seq (rq [rm 6 0,wn 7 6,rm 8 1,wn 9 8,
 wb 10 .neq 7 9] (wt 10 (rq [wf 4 false] .ret) .skip)) (.seq (rq [rm 11 0,wn 12 11,
 wc 13 0] (.block 0 (.loop (rq [wb 14 .lss 13 12] (.seq (wt 14 .skip (.exit 0)) (.seq (.block 1 (rq [rm 15 13,
 rm 5 15] (.seq (.region [rm 16 0,rm 17 5,wi 18 2 16 17,rl 19 2 true 18,rm 20 1,rm 21 5,wi 22 2 20 21,rl 23 2 true 22,
 ri 24 (.eqs [.int,.int] true (.t 19) (.t 23))] true []) (wt 24 (rq [wf 4 false] .ret) .skip)))) (.region [wd 25 .add 13 1,
 rm 13 25] false []))))))) (rq [wf 4 true] .ret)))
def kh:cn:=
 rq [wf 6 false] (.seq (rq [rm 10 0,wn 11 10,rm 12 1,wn 13 12,
 wb 14 .neq 11 13] (wt 14 (rq [wf 6 false] .ret) .skip)) (.seq (rq [rm 15 0,wn 16 15,
 wc 17 0] (.block 0 (.loop (rq [wb 18 .lss 17 16] (.seq (wt 18 .skip (.exit 0)) (.seq (.block 1 (rq [rm 19 17,
 wi 20 1 15 17,rl 21 1 false 20,rm 7 19,rm 8 21] (rq [rm 22 1,rm 23 7,wi 24 1 22 23,rl 25 1 false 24,rm 9 25] (rq [rm 26 2,rm 27 8,
 rm 28 9,ri 29 (.vb (.t 26) [(.t 27),(.t 28)]),
 ri 30 (.un .not (.t 29))] (wt 30 (rq [wf 6 false] .ret) .skip))))) (.region [wd 31 .add 17 1,
 rm 17 31] false []))))))) (rq [wf 6 true] .ret)))
def Lm(qk l5 x9 mu zg zh s5 qw lz kj fa fu:Nat):cn:=
 rq [wx 1 1 0,ri 2 (.alloc [.bd]),wc 3 0] (.seq (rq [rl 12 1 true 1,ri 13 (.call qk [(.t 12)]),
 wd 14 .gtr 13 60,rm 15 14,rg 16 15 false (.xj 0 (.t 1)),wl 17 15 false 1 false 16,rg 18 15 false (.len .dt (.t 17)),
 rg 19 15 false (.bin .gtr (.t 18) (ci 60)),wq 20 15 19] (wt 20 (rq [ri 21 (.build [.bd] []),ws 1 2 21,
 wc 3 170] .ret) .skip)) (.seq (rq [rf 22 0 1,rl 23 1 false 22,wn 24 23,
 wc 25 0] (.block 0 (.loop (rq [wb 26 .lss 25 24] (.seq (wt 26 .skip (.exit 0)) (.seq (.block 1 (rq [wi 27 1 23 25,
 rl 28 1 false 27,rm 5 28] (rq [rm 29 5,wn 30 29,wd 31 .lss 30 3,rm 32 31,wm 33 32 false 5,
 rg 34 32 false (.call l5 [(.t 33),(.c (.mb x9 []))]),
 wq 35 32 34] (wt 35 (rq [ri 36 (.build [.bd] []),ws 1 2 36,
 wc 3 170] .ret) .skip)))) (.region [wd 37 .add 25 1,rm 25 37] false []))))))) (rq [rl 38 1 true 1,
 ri 39 (.call mu [(.t 38)]),rm 6 39] (.seq (rq [rm 40 6,ri 41 (.call zg [(.t 40)]),ri 42 (.un .not (.t 41)),rm 43 42,
 wm 44 43 false 6,rg 45 43 false (.call zh [(.t 44)]),rg 46 43 false (.un .not (.t 45)),
 wq 47 43 46] (wt 47 (rq [ri 48 (.build [.bd] []),ws 1 2 48,
 wc 3 170] .ret) .skip)) (rq [rm 49 6,ri 50 (.call s5 [(.t 49)]),ri 7 (.alloc [.bd]),ws 1 7 50] (rq [rm 51 6,
 ri 52 (.call qw [(.t 51)]),ri 8 (.alloc [.L0,.L0]),ws 2 8 52] (rq [wo 9] (.seq (rq [rf 53 0 1,rl 54 1 false 53,
 wn 55 54,
 wc 56 0] (.block 2 (.loop (rq [wb 57 .lss 56 55] (.seq (wt 57 .skip (.exit 2)) (.seq (.block 3 (rq [wi 58 1 54 56,
 rl 59 1 false 58,rm 11 59] (.region [rm 60 9,rl 61 2 true 8,rm 62 11,ri 63 (.call lz [(.t 61),(.t 62)]),ri 64 (.xi false 1 1 [.bd] [(0,1,(.t 63))]),
 ri 65 (.app 1 24 (.t 60) (.t 64)),rm 9 65] false []))) (.region [wd 66 .add 56 1,
 rm 56 66] false []))))))) (.seq (.seq (.both (rq [rm 67 9] (.both (rq [ri 68 (.ti kj [(.t 67)])] (rq [rf 69 0 7] (rq [rl 70 1 false 69] (rq [ri 71 (.call fa [(.t 68),(.t 70),(.c (.mb fu []))])] (rq [ri 72 (.un .not (.t 71))] .skip))))) (rq [rf 69 0 7] (.both (rq [ri 68 (.ti kj [(.t 67)])] (rq [rl 70 1 false 69] (rq [ri 71 (.call fa [(.t 68),(.t 70),(.c (.mb fu []))])] (rq [ri 72 (.un .not (.t 71))] .skip)))) (rq [rl 70 1 false 69] (rq [ri 68 (.ti kj [(.t 67)])] (rq [ri 71 (.call fa [(.t 68),(.t 70),(.c (.mb fu []))])] (rq [ri 72 (.un .not (.t 71))] .skip)))))))) (rq [rf 69 0 7] (.both (rq [rm 67 9] (.both (rq [ri 68 (.ti kj [(.t 67)])] (rq [rl 70 1 false 69] (rq [ri 71 (.call fa [(.t 68),(.t 70),(.c (.mb fu []))])] (rq [ri 72 (.un .not (.t 71))] .skip)))) (rq [rl 70 1 false 69] (rq [ri 68 (.ti kj [(.t 67)])] (rq [ri 71 (.call fa [(.t 68),(.t 70),(.c (.mb fu []))])] (rq [ri 72 (.un .not (.t 71))] .skip)))))) (rq [rl 70 1 false 69] (rq [rm 67 9] (rq [ri 68 (.ti kj [(.t 67)])] (rq [ri 71 (.call fa [(.t 68),(.t 70),(.c (.mb fu []))])] (rq [ri 72 (.un .not (.t 71))] .skip)))))))) (wt 72 (rq [ri 73 (.build [.bd] []),
 ws 1 2 73,wc 3 170] .ret) .skip)) (rq [rl 74 1 true 7,ws 1 2 74,wc 3 0] .ret))))))))))
def K9(C1:Nat):cn:=
 rq [wx 1 1 0,wc 2 0] (rq [rl 6 1 true 1,ri 7 (.call C1 [(.t 6)]),rm 5 7,rx 8 5 0,rx 9 5 1,ri 3 (.alloc [.bd]),
 ws 1 3 8,rm 4 9] (rq [rm 10 4,rm 2 10] .ret))
structure Pr3(P:Program)extends Pr2 P where
 qw:Nat
 tv:Nat
 xa:Nat
 pk:Nat
 lz:Nat
 sj:Nat
 ke:Nat
 nn:Nat
 gp:Nat
 qx:Nat
 oq:Nat
 re:Nat
 vn:Nat
 uz:Nat
 kj:Nat
 ew:Nat
 l7:Nat
 s5:Nat
 fu:Nat
 fa:Nat
 C1:Nat
 Z5:dj P qw {dyn:=[8]}=some (K6,[.cell 2 2 true],39)
 Qw:dj P tv {}=some (Dv C0,[.tmp 4],28)
 Tw:dj P xa {}=some (G5 dr pk qy,[.cell 6 2 true],62)
 Qv:dj P pk {}=some (Du dr qy,[.tmp 4],11)
 Se:dj P lz {imm:=[24],ce:=[9,11],dyn:=[2]}=some (F1 ed sj ke nn gp qx,[.tmp 4],34)
 Q9:dj P sj {}=some (Da tv,[.tmp 3],8)
 Ht:dj P ke {kp:=[38],cv:=[41]}=some (uj j7,[.tmp 4],42)
 Lu:dj P oq {cv:=[25]}=some (zp,[.tmp 4],27)
 Kl:dj P nn {ce:=[24]}=some (xx oq,[.tmp 2],36)
 Pn:dj P re {}=some (Cc vn,[.tmp 4],36)
 Ge:dj P gp {}=some (tn,[.tmp 6],39)
 a3x:dj P qx {}=some (Ng re,[.tmp 4],8)
 Si:dj P vn {}=some (F3 uz,[.tmp 4],20)
 Vi:dj P uz {}=some (Hh,[.tmp 2],6)
 Oo:dj P kj {ce:=[4]}=some (Bp ew l7,[.tmp 2],6)
 Tv:dj P l7 {}=some (G4 gp qx,[.tmp 4],8)
 Sf:dj P s5 {ce:=[52],dyn:=[16]}=some (F2 qw xa lz kj,[.cell 2 1 true],54)
 L7:dj P fu {}=some (u5,[.tmp 4],26)
 yf:dj P fa {}=some (kh,[.tmp 6],32)
 a1i:dj P C1 {ce:=[68],od:=[20]}=some (Lm qk l5 x9 mu zg zh s5 qw lz kj fa fu,[.cell 2 1 true,.tmp 3],75)
 Z8:dj P Aj {}=some (K9 C1,[.tmp 2],11)
def Kc(lp j9 ie ed:Nat):cn:=
 rq [wx 1 5 0,ri 2 (.alloc [(.str ⟨#[]⟩),(.int .i64 0),.bd,.bd,.bd])] (rq [rf 3 4 1,rl 4 1 false 3,ri 5 (.pz lp [(.t 4)]),rf 6 4 1,
 ws 1 6 5] (rq [rf 7 1 1,rf 8 1 7,rl 9 1 false 8,ri 10 (.pz j9 [(.t 9)]),rf 11 1 1,rf 12 1 11,
 ws 1 12 10] (rq [rf 13 1 1,rf 14 2 13,rf 15 0 14,rl 16 1 false 15,
 ri 17 (.call ie [(.t 16),(.c (.mb ed []))]),ri 18 (.build [.bd] [(0,1,(.t 17))]),rf 19 1 1,rf 20 2 19,
 ws 1 20 18] (rq [rl 21 5 true 1,ws 5 2 21] .ret))))
def wz:cn:=
 rq [wo 4] (rq [wo 5] (.seq (rq [rm 8 0,wn 9 8,
 wc 10 0] (.block 0 (.loop (rq [wb 11 .lss 10 9] (.seq (wt 11 .skip (.exit 0)) (.seq (.block 1 (rq [wi 12 5 8 10,
 rl 13 5 true 12,ri 7 (.alloc [(.str ⟨#[]⟩),(.int .i64 0),.bd,.bd,.bd]),ws 5 7 13] (.region [rm 14 5,rm 15 1,rl 16 5 true 7,
 ri 17 (.Lz (.t 15) [(.t 16)]),ri 18 (.Xg 1 5 [(.str ⟨#[]⟩),(.int .i64 0),.bd,.bd,.bd] [(0,5,(.t 17))]),ri 19 (.app 5 96 (.t 14) (.t 18)),
 rm 5 19] false []))) (.region [wd 20 .add 10 1,rm 10 20] false []))))))) (rq [rm 21 5,rm 4 21] .ret)))
def Hd(dm cw ft:Nat):cn:=
 rq [wx 1 2 0,
 ri 2 (.alloc [.bd,.bd])] (.seq (.both (rq [rf 3 0 1] (.both (rq [rl 4 1 false 3] (.both (rq [ri 5 (.pz dm [(.t 4)])] (rq [rf 6 1 1] (rq [rl 7 1 false 6] (rq [ri 8 (.pz cw [(.t 7),(.c (.mb ft []))])] (rq [ri 9 (.build [.bd,.bd] [(0,1,(.t 5)),(1,1,(.t 8))])] (rq [ws 2 2 9] .skip)))))) (rq [rf 6 1 1] (.both (rq [ri 5 (.pz dm [(.t 4)])] (rq [rl 7 1 false 6] (rq [ri 8 (.pz cw [(.t 7),(.c (.mb ft []))])] (rq [ri 9 (.build [.bd,.bd] [(0,1,(.t 5)),(1,1,(.t 8))])] (rq [ws 2 2 9] .skip))))) (rq [rl 7 1 false 6] (rq [ri 5 (.pz dm [(.t 4)])] (rq [ri 8 (.pz cw [(.t 7),(.c (.mb ft []))])] (rq [ri 9 (.build [.bd,.bd] [(0,1,(.t 5)),(1,1,(.t 8))])] (rq [ws 2 2 9] .skip))))))))) (rq [rf 6 1 1] (.both (rq [rl 4 1 false 3] (.both (rq [ri 5 (.pz dm [(.t 4)])] (rq [rl 7 1 false 6] (rq [ri 8 (.pz cw [(.t 7),(.c (.mb ft []))])] (rq [ri 9 (.build [.bd,.bd] [(0,1,(.t 5)),(1,1,(.t 8))])] (rq [ws 2 2 9] .skip))))) (rq [rl 7 1 false 6] (rq [ri 5 (.pz dm [(.t 4)])] (rq [ri 8 (.pz cw [(.t 7),(.c (.mb ft []))])] (rq [ri 9 (.build [.bd,.bd] [(0,1,(.t 5)),(1,1,(.t 8))])] (rq [ws 2 2 9] .skip))))))) (rq [rl 7 1 false 6] (rq [rl 4 1 false 3] (rq [ri 5 (.pz dm [(.t 4)])] (rq [ri 8 (.pz cw [(.t 7),(.c (.mb ft []))])] (rq [ri 9 (.build [.bd,.bd] [(0,1,(.t 5)),(1,1,(.t 8))])] (rq [ws 2 2 9] .skip)))))))))) (rq [rf 6 1 1] (.both (rq [rf 3 0 1] (.both (rq [rl 4 1 false 3] (.both (rq [ri 5 (.pz dm [(.t 4)])] (rq [rl 7 1 false 6] (rq [ri 8 (.pz cw [(.t 7),(.c (.mb ft []))])] (rq [ri 9 (.build [.bd,.bd] [(0,1,(.t 5)),(1,1,(.t 8))])] (rq [ws 2 2 9] .skip))))) (rq [rl 7 1 false 6] (rq [ri 5 (.pz dm [(.t 4)])] (rq [ri 8 (.pz cw [(.t 7),(.c (.mb ft []))])] (rq [ri 9 (.build [.bd,.bd] [(0,1,(.t 5)),(1,1,(.t 8))])] (rq [ws 2 2 9] .skip))))))) (rq [rl 7 1 false 6] (rq [rl 4 1 false 3] (rq [ri 5 (.pz dm [(.t 4)])] (rq [ri 8 (.pz cw [(.t 7),(.c (.mb ft []))])] (rq [ri 9 (.build [.bd,.bd] [(0,1,(.t 5)),(1,1,(.t 8))])] (rq [ws 2 2 9] .skip)))))))) (rq [rl 7 1 false 6] (rq [rf 3 0 1] (rq [rl 4 1 false 3] (rq [ri 5 (.pz dm [(.t 4)])] (rq [ri 8 (.pz cw [(.t 7),(.c (.mb ft []))])] (rq [ri 9 (.build [.bd,.bd] [(0,1,(.t 5)),(1,1,(.t 8))])] (rq [ws 2 2 9] .skip)))))))))) .ret)
def Kd(ph pg pe pb pa lh kz:Nat):cn:=
 rq [ri 0 (.alloc [.td,.td,.td,.td,.td,.td,.td])] (rq [ri 1 (.build [.td,.td,.td,.td,.td,.td,.td] [(0,1,(.c (.mb ph []))),(1,1,(.c (.mb pg []))),(2,1,(.c (.mb pe []))),(3,1,(.c (.mb pb []))),(4,1,(.c (.mb pa []))),(5,1,(.c (.mb lh []))),(6,1,(.c (.mb kz [])))]),
 ws 7 0 1] .ret)
def qf(gq:Nat):cn:=
 rq [wx 3 9 1,wc 4 0] (.seq (.region [rm 6 0,rk 7 6,rl 8 2 true 7,rf 9 1 3,rl 10 1 false 9,ri 11 (.call gq [(.t 8),(.t 10)]),
 rm 5 11] true []) (.seq (rq [rm 12 5,wd 13 .lss 12 0] (wt 13 (rq [wc 4 4] .ret) .skip)) (.seq (.region [rm 14 0,rk 15 14,
 rf 16 0 15,rl 17 1 false 16,rm 18 5,rf 19 3 3,rl 20 1 false 19,wi 21 2 17 18,rf 22 1 21,
 ws 1 22 20] true []) (rq [wc 4 0] .ret))))
def mh(gq:Nat):cn:=
 rq [wx 3 9 1,wc 4 0] (.seq (.seq (.region [rm 5 0,rk 6 5,rl 7 2 true 6,rf 8 1 3,rl 9 1 false 8,ri 10 (.call gq [(.t 7),(.t 9)]),
 wd 11 .geq 10 0] true []) (wt 11 (rq [wc 4 7] .ret) .skip)) (.seq (.region [rm 12 0,rm 13 0,rk 14 13,rf 15 0 14,rl 16 1 false 15,
 rf 17 1 3,rl 18 1 false 17,rf 19 3 3,rl 20 1 false 19,ri 21 (.build [(.str ⟨#[]⟩),(.int .i64 0)] [(0,1,(.t 18)),(1,1,(.t 20))]),
 ri 22 (.xi true 1 2 [(.str ⟨#[]⟩),(.int .i64 0)] [(0,2,(.t 21))]),ri 23 (.app 2 24 (.t 16) (.t 22)),rk 24 12,rf 25 0 24,
 ws 1 25 23] true []) (rq [wc 4 0] .ret)))
def qe(gq lg:Nat):cn:=
 rq [wx 3 9 1,wc 4 0] (.seq (.region [rm 6 0,rk 7 6,rl 8 2 true 7,rf 9 1 3,rl 10 1 false 9,ri 11 (.call gq [(.t 8),(.t 10)]),
 rm 5 11] true []) (.seq (rq [rm 12 5,wd 13 .lss 12 0] (wt 13 (rq [wc 4 4] .ret) .skip)) (rq [rm 14 0,rm 15 0,rk 16 15,rf 17 0 16,
 rl 18 1 false 17,rm 19 5,rm 20 5,wd 21 .add 20 1,ri 22 (.ti lg [(.t 18),(.t 19),(.t 21)]),rk 23 14,rf 24 0 23,
 ws 1 24 22] (rq [wc 4 0] .ret))))
def p9(ja ft:Nat):cn:=
 rq [wx 3 9 1,wc 4 0] (.seq (.seq (.region [rm 6 0,rk 7 6,rl 8 2 true 7,rf 9 4 3,rf 10 0 9,rl 11 1 false 10,
 ri 12 (.call ja [(.t 8),(.t 11)]),rm 5 12] true []) (rq [rm 13 5,wd 14 .geq 13 0] (wt 14 (.region [rm 15 0,rk 16 15,rf 17 1 16,
 rl 18 1 false 17,rm 19 5,rf 20 4 3,rl 21 5 true 20,ri 22 (.call ft [(.t 21)]),wi 23 5 18 19,
 ws 5 23 22] true []) (.region [rm 24 0,rm 25 0,rk 26 25,rf 27 1 26,rl 28 1 false 27,rf 29 4 3,rl 30 5 true 29,ri 31 (.call ft [(.t 30)]),
 ri 32 (.xi true 1 5 [(.str ⟨#[]⟩),(.int .i64 0),.bd,.bd,.bd] [(0,5,(.t 31))]),ri 33 (.app 5 96 (.t 28) (.t 32)),rk 34 24,rf 35 1 34,
 ws 1 35 33] true [])))) (rq [wc 4 0] .ret))
def qd(ja lu:Nat):cn:=
 rq [wx 3 9 1,wc 4 0] (.seq (.region [rm 6 0,rk 7 6,rl 8 2 true 7,rf 9 1 3,rl 10 1 false 9,ri 11 (.call ja [(.t 8),(.t 10)]),
 rm 5 11] true []) (.seq (rq [rm 12 5,wd 13 .lss 12 0] (wt 13 (rq [wc 4 4] .ret) .skip)) (rq [rm 14 0,rm 15 0,rk 16 15,rf 17 1 16,
 rl 18 1 false 17,rm 19 5,rm 20 5,wd 21 .add 20 1,ri 22 (.ti lu [(.t 18),(.t 19),(.t 21)]),rk 23 14,rf 24 1 23,
 ws 1 24 22] (rq [wc 4 0] .ret))))
def qo(ja:Nat):cn:=
 rq [wx 3 9 1,wc 4 0] (.seq (.region [rm 10 0,rk 11 10,rl 12 2 true 11,rf 13 1 3,rl 14 1 false 13,ri 15 (.call ja [(.t 12),(.t 14)]),
 rm 5 15] true []) (.seq (.block 0 (rq [rm 17 5,wd 18 .lss 17 0,rm 16 18] (wt 16 (rq [wc 4 4] .ret) (.seq (.region [rm 20 0,
 rk 21 20,rl 22 2 true 21,rf 23 2 3,rl 24 1 false 23,ri 25 (.call ja [(.t 22),(.t 24)]),wd 26 .geq 25 0,
 rm 19 26] true []) (wt 19 (rq [wc 4 7] .ret) .skip))))) (.seq (.region [rm 27 0,rk 28 27,rf 29 1 28,rl 30 1 false 29,rm 31 5,rf 32 2 3,
 rl 33 1 false 32,wi 34 5 30 31,rf 35 0 34,ws 1 35 33] true []) (.seq (rq [rm 36 0,rk 37 36,rf 38 1 37,rl 39 1 false 38,
 wn 40 39,
 wc 41 0] (.block 1 (.loop (rq [wb 42 .lss 41 40] (.seq (wt 42 .skip (.exit 1)) (.seq (.block 2 (rq [wi 43 5 39 41,
 rl 44 5 true 43,ri 7 (.alloc [(.str ⟨#[]⟩),(.int .i64 0),.bd,.bd,.bd]),ws 5 7 44] (rq [rf 45 4 7,rl 46 1 false 45,wn 47 46,
 wc 48 0] (.block 3 (.loop (rq [wb 49 .lss 48 47] (.seq (wt 49 .skip (.exit 3)) (.seq (.block 4 (rq [rm 50 48,
 wi 51 1 46 48,rl 52 1 false 51,rm 8 50,rm 9 52] (rq [rm 53 9,rf 54 1 3,rl 55 1 false 54,
 wb 56 .eql 53 55] (wt 56 (.region [rf 57 4 7,rl 58 1 false 57,rm 59 8,rf 60 2 3,rl 61 1 false 60,wi 62 1 58 59,
 ws 1 62 61] false []) .skip)))) (.region [wd 63 .add 48 1,rm 48 63] false []))))))))) (.region [wd 64 .add 41 1,
 rm 41 64] false []))))))) (rq [wc 4 0] .ret)))))
def oi(gq:Nat):cn:=
 rq [wx 3 9 1,wc 4 0] (.seq (.region [rm 9 0,rk 10 9,rl 11 2 true 10,rf 12 1 3,rl 13 1 false 12,ri 14 (.call gq [(.t 11),(.t 13)]),
 rm 5 14] true []) (.seq (.block 0 (rq [rm 16 5,wd 17 .lss 16 0,rm 15 17] (wt 15 (rq [wc 4 4] .ret) (.seq (.region [rm 19 0,
 rk 20 19,rl 21 2 true 20,rf 22 2 3,rl 23 1 false 22,ri 24 (.call gq [(.t 21),(.t 23)]),wd 25 .geq 24 0,
 rm 18 25] true []) (wt 18 (rq [wc 4 7] .ret) .skip))))) (.seq (.region [rm 26 0,rk 27 26,rf 28 0 27,rl 29 1 false 28,rm 30 5,rf 31 2 3,
 rl 32 1 false 31,wi 33 2 29 30,rf 34 0 33,ws 1 34 32] true []) (.seq (rq [rm 35 0,rk 36 35,rf 37 1 36,rl 38 1 false 37,
 wn 39 38,
 wc 40 0] (.block 1 (.loop (rq [wb 41 .lss 40 39] (.seq (wt 41 .skip (.exit 1)) (.seq (.block 2 (rq [wi 42 5 38 40,
 rl 43 5 true 42,ri 7 (.alloc [(.str ⟨#[]⟩),(.int .i64 0),.bd,.bd,.bd]),ws 5 7 43] (rq [rf 44 1 7,rf 45 1 44,rl 46 1 false 45,
 wn 47 46,
 wc 48 0] (.block 3 (.loop (rq [wb 49 .lss 48 47] (.seq (wt 49 .skip (.exit 3)) (.seq (.block 4 (rq [rm 50 48,
 rm 8 50] (.seq (.region [rf 51 1 7,rf 52 1 51,rl 53 1 false 52,rm 54 8,wi 55 3 53 54,rf 56 0 55,rl 57 1 false 56,rf 58 1 3,rl 59 1 false 58,
 wb 60 .eql 57 59] true []) (wt 60 (.region [rf 61 1 7,rf 62 1 61,rl 63 1 false 62,rm 64 8,rf 65 2 3,rl 66 1 false 65,
 wi 67 3 63 64,rf 68 0 67,ws 1 68 66] false []) .skip)))) (.region [wd 69 .add 48 1,
 rm 48 69] false []))))))))) (.region [wd 70 .add 40 1,rm 40 70] false []))))))) (rq [wc 4 0] .ret)))))
def Jn:cn:=
 rq [wo 6] (rq [rm 8 0,rm 9 1,rm 10 2,rm 11 0,wn 12 11,
 ri 13 (.Kv 2 (.t 8) (some (.t 9)) (some (.t 10)) (some (.t 12)))] (.seq (rq [rm 14 1,rm 15 2,wb 16 .eql 14 15] (wt 16 (rq [rm 17 0,
 rm 6 17] .ret) .skip)) (rq [rm 18 0,wn 19 18,rm 7 19] (.seq (.region [rm 20 0,rm 21 1,ri 22 (.Kv 2 (.t 20) none (some (.t 21)) none),rm 23 0,
 rm 24 2,ri 25 (.Kv 2 (.t 23) (some (.t 24)) none none),ri 26 (.app 2 24 (.t 22) (.t 25)),rm 0 26] true []) (rq [rm 27 0,rm 28 0,wn 29 28,rm 30 7,
 ri 31 (.Kv 2 (.t 27) (some (.t 29)) (some (.t 30)) none),rn (.clr [(.str ⟨#[]⟩),(.int .i64 0)] (.t 31))] (rq [ri 32 (.trim (.t 0)),rm 6 32] .ret))))))
def K0:cn:=
 rq [wo 6] (rq [rm 8 0,rm 9 1,rm 10 2,rm 11 0,wn 12 11,
 ri 13 (.Kv 5 (.t 8) (some (.t 9)) (some (.t 10)) (some (.t 12)))] (.seq (rq [rm 14 1,rm 15 2,wb 16 .eql 14 15] (wt 16 (rq [rm 17 0,
 rm 6 17] .ret) .skip)) (rq [rm 18 0,wn 19 18,rm 7 19] (.seq (.region [rm 20 0,rm 21 1,ri 22 (.Kv 5 (.t 20) none (some (.t 21)) none),rm 23 0,
 rm 24 2,ri 25 (.Kv 5 (.t 23) (some (.t 24)) none none),ri 26 (.app 5 96 (.t 22) (.t 25)),rm 0 26] true []) (rq [rm 27 0,rm 28 0,wn 29 28,rm 30 7,
 ri 31 (.Kv 5 (.t 27) (some (.t 29)) (some (.t 30)) none),rn (.clr [(.str ⟨#[]⟩),(.int .i64 0),.bd,.bd,.bd] (.t 31))] (rq [ri 32 (.trim (.t 0)),
 rm 6 32] .ret))))))
def Jz:cn:=
 rq [wo 6] (rq [rm 8 0,rm 9 1,rm 10 2,rm 11 0,wn 12 11,
 ri 13 (.Kv 2 (.t 8) (some (.t 9)) (some (.t 10)) (some (.t 12)))] (.seq (rq [rm 14 1,rm 15 2,wb 16 .eql 14 15] (wt 16 (rq [rm 17 0,
 rm 6 17] .ret) .skip)) (rq [rm 18 0,wn 19 18,rm 7 19] (.seq (.region [rm 20 0,rm 21 1,ri 22 (.Kv 2 (.t 20) none (some (.t 21)) none),rm 23 0,
 rm 24 2,ri 25 (.Kv 2 (.t 23) (some (.t 24)) none none),ri 26 (.app 2 48 (.t 22) (.t 25)),rm 0 26] true []) (rq [rm 27 0,rm 28 0,wn 29 28,rm 30 7,
 ri 31 (.Kv 2 (.t 27) (some (.t 29)) (some (.t 30)) none),rn (.clr [.bd,.bd] (.t 31))] (rq [ri 32 (.trim (.t 0)),rm 6 32] .ret))))))
def r5(l8 mz fw my ga:Nat):cn:=
 rq [wx 1 2 0,ri 2 (.alloc [.bd,.bd])] (rq [ri 3 (.alloc [.td]),rn (.store 1 (.t 3) (.c (.mb l8 [])))] (rq [rf 4 0 1,rl 5 1 false 4,
 ri 6 (.Kr mz [(.t 3)]),ri 7 (.pz fw [(.t 5),(.t 6)])] (rq [rf 8 1 1,rl 9 1 false 8,
 ri 10 (.Kr my [(.t 3)]),ri 11 (.pz ga [(.t 9),(.t 10)])] (rq [rl 12 2 true 1,
 ws 2 2 12] .ret))))
def zr:cn:=
 rq [wc 4 0] (.seq (.block 0 (rq [rm 6 0,rm 7 1,wb 8 .lss 6 7,rm 5 8] (wt 5 (rq [wc 4 (-1)] .ret) (rq [rm 10 0,rm 11 1,
 wb 12 .gtr 10 11,rm 9 12] (wt 9 (rq [wc 4 1] .ret) .skip))))) (rq [wc 4 0] .ret))
def G7:cn:=
 rq [wx 3 2 0,wx 4 2 1,wc 5 0] (rq [rl 6 1 false 2,rf 7 0 3,rl 8 1 false 7,rf 9 0 4,rl 10 1 false 9,
 ri 11 (.vb (.t 6) [(.t 8),(.t 10)]),rm 5 11] .ret)
def G6:cn:=
 rq [wx 3 5 0,wx 4 5 1,wc 5 0] (rq [rl 6 1 false 2,rf 7 0 3,rl 8 1 false 7,rf 9 0 4,rl 10 1 false 9,
 ri 11 (.vb (.t 6) [(.t 8),(.t 10)]),rm 5 11] .ret)
def lj(ki:Nat):cn:=
 .region [rm 4 0,rm 5 0,wn 6 5,rm 7 1,ri 8 (.pz ki [(.t 4),(.t 6),(.t 7)])] false []
def ly(ko:Nat):cn:=
 .region [rm 4 0,rm 5 0,wn 6 5,rm 7 1,ri 8 (.pz ko [(.t 4),(.t 6),(.t 7)])] false []
def Ez(ia fg:Nat):cn:=
 rq [wc 6 20] (rq [rm 10 6,wc 7 0,rm 8 10] (.seq (.block 0 (.loop (.seq (rq [rm 11 8,rm 12 1,
 wb 13 .leq 11 12] (wt 13 .skip (.exit 0))) (.block 1 (rq [rm 14 0,rm 15 7,rm 16 8,rm 17 2,
 ri 18 (.pz ia [(.t 14),(.t 15),(.t 16),(.t 17)])] (rq [rm 19 8,rm 7 19] (.region [rm 20 8,rm 21 6,
 wb 22 .add 20 21,rm 8 22] false []))))))) (rq [rm 23 0,rm 24 7,rm 25 1,rm 26 2,
 ri 27 (.pz ia [(.t 23),(.t 24),(.t 25),(.t 26)])] (.block 2 (.loop (.seq (rq [rm 28 6,rm 29 1,
 wb 30 .lss 28 29] (wt 30 .skip (.exit 2))) (.block 3 (rq [rm 31 6,ri 32 (.bin .mul (ci 2) (.t 31)),wc 7 0,
 rm 8 32] (.seq (.block 4 (.loop (.seq (rq [rm 33 8,rm 34 1,wb 35 .leq 33 34] (wt 35 .skip (.exit 4))) (.block 5 (rq [rm 36 0,rm 37 7,rm 38 7,
 rm 39 6,wb 40 .add 38 39,rm 41 8,rm 42 2,ri 43 (.pz fg [(.t 36),(.t 37),(.t 40),(.t 41),(.t 42)])] (rq [rm 44 8,
 rm 7 44] (.region [rm 45 8,rm 46 6,ri 47 (.bin .mul (ci 2) (.t 46)),wb 48 .add 45 47,rm 8 48] false []))))))) (.seq (rq [rm 49 7,rm 50 6,
 wb 51 .add 49 50,rm 9 51] (rq [rm 52 9,rm 53 1,wb 54 .lss 52 53] (wt 54 (.region [rm 55 0,rm 56 7,rm 57 9,rm 58 1,rm 59 2,
 ri 60 (.pz fg [(.t 55),(.t 56),(.t 57),(.t 58),(.t 59)])] false []) .skip))) (.region [rm 61 6,wd 62 .mul 61 2,
 rm 6 62] false [])))))))))))
def Fe(il fk:Nat):cn:=
 rq [wc 6 20] (rq [rm 10 6,wc 7 0,rm 8 10] (.seq (.block 0 (.loop (.seq (rq [rm 11 8,rm 12 1,
 wb 13 .leq 11 12] (wt 13 .skip (.exit 0))) (.block 1 (rq [rm 14 0,rm 15 7,rm 16 8,rm 17 2,
 ri 18 (.pz il [(.t 14),(.t 15),(.t 16),(.t 17)])] (rq [rm 19 8,rm 7 19] (.region [rm 20 8,rm 21 6,
 wb 22 .add 20 21,rm 8 22] false []))))))) (rq [rm 23 0,rm 24 7,rm 25 1,rm 26 2,
 ri 27 (.pz il [(.t 23),(.t 24),(.t 25),(.t 26)])] (.block 2 (.loop (.seq (rq [rm 28 6,rm 29 1,
 wb 30 .lss 28 29] (wt 30 .skip (.exit 2))) (.block 3 (rq [rm 31 6,ri 32 (.bin .mul (ci 2) (.t 31)),wc 7 0,
 rm 8 32] (.seq (.block 4 (.loop (.seq (rq [rm 33 8,rm 34 1,wb 35 .leq 33 34] (wt 35 .skip (.exit 4))) (.block 5 (rq [rm 36 0,rm 37 7,rm 38 7,
 rm 39 6,wb 40 .add 38 39,rm 41 8,rm 42 2,ri 43 (.pz fk [(.t 36),(.t 37),(.t 40),(.t 41),(.t 42)])] (rq [rm 44 8,
 rm 7 44] (.region [rm 45 8,rm 46 6,ri 47 (.bin .mul (ci 2) (.t 46)),wb 48 .add 45 47,rm 8 48] false []))))))) (.seq (rq [rm 49 7,rm 50 6,
 wb 51 .add 49 50,rm 9 51] (rq [rm 52 9,rm 53 1,wb 54 .lss 52 53] (wt 54 (.region [rm 55 0,rm 56 7,rm 57 9,rm 58 1,rm 59 2,
 ri 60 (.pz fk [(.t 55),(.t 56),(.t 57),(.t 58),(.t 59)])] false []) .skip))) (.region [rm 61 6,wd 62 .mul 61 2,
 rm 6 62] false [])))))))))))
def C5:cn:=
 rq [rm 10 1,wd 11 .add 10 1,rm 8 11] (.block 0 (.loop (.seq (rq [rm 12 8,rm 13 2,
 wb 14 .lss 12 13] (wt 14 .skip (.exit 0))) (.seq (.block 1 (rq [rm 17 8,rm 9 17] (.block 2 (.loop (.seq (.seq (.region [rm 18 9,rm 19 1,
 wb 20 .gtr 18 19,rm 21 20,wm 22 21 true 3,wm 23 21 true 0,wm 24 21 true 9,rg 25 21 true (.te 2 (.t 23) (.t 24)),
 wl 26 21 true 2 true 25,wm 27 21 true 0,wm 28 21 true 9,rg 29 21 true (.bin .sub (.t 28) (ci 1)),
 rg 30 21 true (.te 2 (.t 27) (.t 29)),wl 31 21 true 2 true 30,rg 32 21 true (.vb (.t 22) [(.t 26),(.t 31)]),rg 33 21 true (.bin .lss (.t 32) (ci 0)),
 wp 34 21 33] true []) (wt 34 .skip (.exit 2))) (.seq (.block 3 (.region [rm 37 0,rm 38 9,rm 39 0,rm 40 9,
 wd 41 .sub 40 1,rm 42 0,rm 43 9,wd 44 .sub 43 1,wi 45 2 42 44,rl 46 2 true 45,rm 47 0,rm 48 9,
 wi 49 2 47 48,rl 50 2 true 49,wi 51 2 37 38,ws 2 51 46,wi 52 2 39 41,
 ws 2 52 50] true [])) (.region [rm 35 9,wd 36 .sub 35 1,rm 9 36] false []))))))) (.region [rm 15 8,wd 16 .add 15 1,
 rm 8 16] false [])))))
def Cb:cn:=
 rq [rm 10 1,wd 11 .add 10 1,rm 8 11] (.block 0 (.loop (.seq (rq [rm 12 8,rm 13 2,
 wb 14 .lss 12 13] (wt 14 .skip (.exit 0))) (.seq (.block 1 (rq [rm 17 8,rm 9 17] (.block 2 (.loop (.seq (.seq (.region [rm 18 9,rm 19 1,
 wb 20 .gtr 18 19,rm 21 20,wm 22 21 true 3,wm 23 21 true 0,wm 24 21 true 9,rg 25 21 true (.te 5 (.t 23) (.t 24)),
 wl 26 21 true 5 true 25,wm 27 21 true 0,wm 28 21 true 9,rg 29 21 true (.bin .sub (.t 28) (ci 1)),
 rg 30 21 true (.te 5 (.t 27) (.t 29)),wl 31 21 true 5 true 30,rg 32 21 true (.vb (.t 22) [(.t 26),(.t 31)]),rg 33 21 true (.bin .lss (.t 32) (ci 0)),
 wp 34 21 33] true []) (wt 34 .skip (.exit 2))) (.seq (.block 3 (.region [rm 37 0,rm 38 9,rm 39 0,rm 40 9,
 wd 41 .sub 40 1,rm 42 0,rm 43 9,wd 44 .sub 43 1,wi 45 5 42 44,rl 46 5 true 45,rm 47 0,rm 48 9,
 wi 49 5 47 48,rl 50 5 true 49,wi 51 5 37 38,ws 5 51 46,wi 52 5 39 41,
 ws 5 52 50] true [])) (.region [rm 35 9,wd 36 .sub 35 1,rm 9 36] false []))))))) (.region [rm 15 8,wd 16 .add 15 1,
 rm 8 16] false [])))))
def Ds(rz fg:Nat):cn:=
 .seq (rq [rm 25 2,rm 26 1,wb 27 .sub 25 26,wd 28 .eql 27 1] (wt 28 (rq [rm 29 2,rm 10 29] (rq [rm 30 3,
 rm 11 30] (.seq (.block 0 (.loop (.seq (rq [rm 31 10,rm 32 11,wb 33 .lss 31 32] (wt 33 .skip (.exit 0))) (.block 1 (rq [rm 34 10,rm 35 11,
 wb 36 .add 34 35,ri 37 (.conv .u64 (.t 36)),ri 38 (.bin .shr (.t 37) (.c (.int .u64 1))),ri 39 (.conv .i64 (.t 38)),rm 12 39] (.seq (.region [rm 40 4,
 rm 41 0,rm 42 12,wi 43 2 41 42,rl 44 2 true 43,rm 45 0,rm 46 1,wi 47 2 45 46,rl 48 2 true 47,ri 49 (.vb (.t 40) [(.t 44),(.t 48)]),
 wd 50 .lss 49 0] true []) (wt 50 (.region [rm 51 12,wd 52 .add 51 1,rm 10 52] false []) (.region [rm 53 12,
 rm 11 53] false [])))))))) (.seq (rq [rm 54 1,rm 13 54] (.block 2 (.loop (.seq (rq [rm 55 13,rm 56 10,wd 57 .sub 56 1,
 wb 58 .lss 55 57] (wt 58 .skip (.exit 2))) (.seq (.block 3 (.region [rm 61 0,rm 62 13,rm 63 0,rm 64 13,wd 65 .add 64 1,
 rm 66 0,rm 67 13,wd 68 .add 67 1,wi 69 2 66 68,rl 70 2 true 69,rm 71 0,rm 72 13,wi 73 2 71 72,rl 74 2 true 73,
 wi 75 2 61 62,ws 2 75 70,wi 76 2 63 65,ws 2 76 74] true [])) (.region [rm 59 13,
 wd 60 .add 59 1,rm 13 60] false [])))))) .ret)))) .skip)) (.seq (rq [rm 77 3,rm 78 2,wb 79 .sub 77 78,
 wd 80 .eql 79 1] (wt 80 (rq [rm 81 1,rm 14 81] (rq [rm 82 2,rm 15 82] (.seq (.block 4 (.loop (.seq (rq [rm 83 14,rm 84 15,
 wb 85 .lss 83 84] (wt 85 .skip (.exit 4))) (.block 5 (rq [rm 86 14,rm 87 15,wb 88 .add 86 87,ri 89 (.conv .u64 (.t 88)),
 ri 90 (.bin .shr (.t 89) (.c (.int .u64 1))),ri 91 (.conv .i64 (.t 90)),rm 16 91] (.seq (.region [rm 92 4,rm 93 0,rm 94 2,wi 95 2 93 94,rl 96 2 true 95,
 rm 97 0,rm 98 16,wi 99 2 97 98,rl 100 2 true 99,ri 101 (.vb (.t 92) [(.t 96),(.t 100)]),wd 102 .lss 101 0,
 ri 103 (.un .not (.t 102))] true []) (wt 103 (.region [rm 104 16,wd 105 .add 104 1,rm 14 105] false []) (.region [rm 106 16,
 rm 15 106] false [])))))))) (.seq (rq [rm 107 2,rm 17 107] (.block 6 (.loop (.seq (rq [rm 108 17,rm 109 14,
 wb 110 .gtr 108 109] (wt 110 .skip (.exit 6))) (.seq (.block 7 (.region [rm 113 0,rm 114 17,rm 115 0,rm 116 17,
 wd 117 .sub 116 1,rm 118 0,rm 119 17,wd 120 .sub 119 1,wi 121 2 118 120,rl 122 2 true 121,rm 123 0,rm 124 17,
 wi 125 2 123 124,rl 126 2 true 125,wi 127 2 113 114,ws 2 127 122,wi 128 2 115 117,
 ws 2 128 126] true [])) (.region [rm 111 17,wd 112 .sub 111 1,rm 17 112] false [])))))) .ret)))) .skip)) (rq [rm 129 1,rm 130 3,
 wb 131 .add 129 130,ri 132 (.conv .u64 (.t 131)),ri 133 (.bin .shr (.t 132) (.c (.int .u64 1))),ri 134 (.conv .i64 (.t 133)),rm 18 134] (rq [rm 135 18,
 rm 136 2,wb 137 .add 135 136,rm 19 137] (rq [wc 20 0,wc 21 0] (.seq (rq [rm 138 2,rm 139 18,
 wb 140 .gtr 138 139] (wt 140 (rq [rm 141 19,rm 142 3,wb 143 .sub 141 142,rm 20 143] (.region [rm 144 18,
 rm 21 144] false [])) (rq [rm 145 1,rm 20 145] (.region [rm 146 2,rm 21 146] false [])))) (rq [rm 147 19,wd 148 .sub 147 1,
 rm 22 148] (.seq (.block 8 (.loop (.seq (rq [rm 149 20,rm 150 21,wb 151 .lss 149 150] (wt 151 .skip (.exit 8))) (.block 9 (rq [rm 152 20,
 rm 153 21,wb 154 .add 152 153,ri 155 (.conv .u64 (.t 154)),ri 156 (.bin .shr (.t 155) (.c (.int .u64 1))),ri 157 (.conv .i64 (.t 156)),
 rm 23 157] (.seq (.region [rm 158 4,rm 159 0,rm 160 22,rm 161 23,wb 162 .sub 160 161,wi 163 2 159 162,rl 164 2 true 163,rm 165 0,
 rm 166 23,wi 167 2 165 166,rl 168 2 true 167,ri 169 (.vb (.t 158) [(.t 164),(.t 168)]),wd 170 .lss 169 0,
 ri 171 (.un .not (.t 170))] true []) (wt 171 (.region [rm 172 23,wd 173 .add 172 1,rm 20 173] false []) (.region [rm 174 23,
 rm 21 174] false [])))))))) (rq [rm 175 19,rm 176 20,wb 177 .sub 175 176,rm 24 177] (.seq (rq [rm 178 20,rm 179 2,wb 180 .lss 178 179,
 rm 181 180,wm 182 181 true 2,wm 183 181 true 24,rg 184 181 true (.bin .lss (.t 182) (.t 183)),
 wp 185 181 184] (wt 185 (.region [rm 186 0,rm 187 20,rm 188 2,rm 189 24,rm 190 4,
 ri 191 (.call rz [(.t 186),(.t 187),(.t 188),(.t 189),(.t 190)])] false []) .skip)) (.seq (rq [rm 192 1,rm 193 20,
 wb 194 .lss 192 193,rm 195 194,wm 196 195 true 20,wm 197 195 true 18,rg 198 195 true (.bin .lss (.t 196) (.t 197)),
 wp 199 195 198] (wt 199 (.region [rm 200 0,rm 201 1,rm 202 20,rm 203 18,rm 204 4,
 ri 205 (.call fg [(.t 200),(.t 201),(.t 202),(.t 203),(.t 204)])] false []) .skip)) (rq [rm 206 18,rm 207 24,
 wb 208 .lss 206 207,rm 209 208,wm 210 209 true 24,wm 211 209 true 3,rg 212 209 true (.bin .lss (.t 210) (.t 211)),
 wp 213 209 212] (wt 213 (.region [rm 214 0,rm 215 18,rm 216 24,rm 217 3,rm 218 4,
 ri 219 (.call fg [(.t 214),(.t 215),(.t 216),(.t 217),(.t 218)])] false []) .skip))))))))))))
def Ej(sr fk:Nat):cn:=
 .seq (rq [rm 25 2,rm 26 1,wb 27 .sub 25 26,wd 28 .eql 27 1] (wt 28 (rq [rm 29 2,rm 10 29] (rq [rm 30 3,
 rm 11 30] (.seq (.block 0 (.loop (.seq (rq [rm 31 10,rm 32 11,wb 33 .lss 31 32] (wt 33 .skip (.exit 0))) (.block 1 (rq [rm 34 10,rm 35 11,
 wb 36 .add 34 35,ri 37 (.conv .u64 (.t 36)),ri 38 (.bin .shr (.t 37) (.c (.int .u64 1))),ri 39 (.conv .i64 (.t 38)),rm 12 39] (.seq (.region [rm 40 4,
 rm 41 0,rm 42 12,wi 43 5 41 42,rl 44 5 true 43,rm 45 0,rm 46 1,wi 47 5 45 46,rl 48 5 true 47,ri 49 (.vb (.t 40) [(.t 44),(.t 48)]),
 wd 50 .lss 49 0] true []) (wt 50 (.region [rm 51 12,wd 52 .add 51 1,rm 10 52] false []) (.region [rm 53 12,
 rm 11 53] false [])))))))) (.seq (rq [rm 54 1,rm 13 54] (.block 2 (.loop (.seq (rq [rm 55 13,rm 56 10,wd 57 .sub 56 1,
 wb 58 .lss 55 57] (wt 58 .skip (.exit 2))) (.seq (.block 3 (.region [rm 61 0,rm 62 13,rm 63 0,rm 64 13,wd 65 .add 64 1,
 rm 66 0,rm 67 13,wd 68 .add 67 1,wi 69 5 66 68,rl 70 5 true 69,rm 71 0,rm 72 13,wi 73 5 71 72,rl 74 5 true 73,
 wi 75 5 61 62,ws 5 75 70,wi 76 5 63 65,ws 5 76 74] true [])) (.region [rm 59 13,
 wd 60 .add 59 1,rm 13 60] false [])))))) .ret)))) .skip)) (.seq (rq [rm 77 3,rm 78 2,wb 79 .sub 77 78,
 wd 80 .eql 79 1] (wt 80 (rq [rm 81 1,rm 14 81] (rq [rm 82 2,rm 15 82] (.seq (.block 4 (.loop (.seq (rq [rm 83 14,rm 84 15,
 wb 85 .lss 83 84] (wt 85 .skip (.exit 4))) (.block 5 (rq [rm 86 14,rm 87 15,wb 88 .add 86 87,ri 89 (.conv .u64 (.t 88)),
 ri 90 (.bin .shr (.t 89) (.c (.int .u64 1))),ri 91 (.conv .i64 (.t 90)),rm 16 91] (.seq (.region [rm 92 4,rm 93 0,rm 94 2,wi 95 5 93 94,rl 96 5 true 95,
 rm 97 0,rm 98 16,wi 99 5 97 98,rl 100 5 true 99,ri 101 (.vb (.t 92) [(.t 96),(.t 100)]),wd 102 .lss 101 0,
 ri 103 (.un .not (.t 102))] true []) (wt 103 (.region [rm 104 16,wd 105 .add 104 1,rm 14 105] false []) (.region [rm 106 16,
 rm 15 106] false [])))))))) (.seq (rq [rm 107 2,rm 17 107] (.block 6 (.loop (.seq (rq [rm 108 17,rm 109 14,
 wb 110 .gtr 108 109] (wt 110 .skip (.exit 6))) (.seq (.block 7 (.region [rm 113 0,rm 114 17,rm 115 0,rm 116 17,
 wd 117 .sub 116 1,rm 118 0,rm 119 17,wd 120 .sub 119 1,wi 121 5 118 120,rl 122 5 true 121,rm 123 0,rm 124 17,
 wi 125 5 123 124,rl 126 5 true 125,wi 127 5 113 114,ws 5 127 122,wi 128 5 115 117,
 ws 5 128 126] true [])) (.region [rm 111 17,wd 112 .sub 111 1,rm 17 112] false [])))))) .ret)))) .skip)) (rq [rm 129 1,rm 130 3,
 wb 131 .add 129 130,ri 132 (.conv .u64 (.t 131)),ri 133 (.bin .shr (.t 132) (.c (.int .u64 1))),ri 134 (.conv .i64 (.t 133)),rm 18 134] (rq [rm 135 18,
 rm 136 2,wb 137 .add 135 136,rm 19 137] (rq [wc 20 0,wc 21 0] (.seq (rq [rm 138 2,rm 139 18,
 wb 140 .gtr 138 139] (wt 140 (rq [rm 141 19,rm 142 3,wb 143 .sub 141 142,rm 20 143] (.region [rm 144 18,
 rm 21 144] false [])) (rq [rm 145 1,rm 20 145] (.region [rm 146 2,rm 21 146] false [])))) (rq [rm 147 19,wd 148 .sub 147 1,
 rm 22 148] (.seq (.block 8 (.loop (.seq (rq [rm 149 20,rm 150 21,wb 151 .lss 149 150] (wt 151 .skip (.exit 8))) (.block 9 (rq [rm 152 20,
 rm 153 21,wb 154 .add 152 153,ri 155 (.conv .u64 (.t 154)),ri 156 (.bin .shr (.t 155) (.c (.int .u64 1))),ri 157 (.conv .i64 (.t 156)),
 rm 23 157] (.seq (.region [rm 158 4,rm 159 0,rm 160 22,rm 161 23,wb 162 .sub 160 161,wi 163 5 159 162,rl 164 5 true 163,rm 165 0,
 rm 166 23,wi 167 5 165 166,rl 168 5 true 167,ri 169 (.vb (.t 158) [(.t 164),(.t 168)]),wd 170 .lss 169 0,
 ri 171 (.un .not (.t 170))] true []) (wt 171 (.region [rm 172 23,wd 173 .add 172 1,rm 20 173] false []) (.region [rm 174 23,
 rm 21 174] false [])))))))) (rq [rm 175 19,rm 176 20,wb 177 .sub 175 176,rm 24 177] (.seq (rq [rm 178 20,rm 179 2,wb 180 .lss 178 179,
 rm 181 180,wm 182 181 true 2,wm 183 181 true 24,rg 184 181 true (.bin .lss (.t 182) (.t 183)),
 wp 185 181 184] (wt 185 (.region [rm 186 0,rm 187 20,rm 188 2,rm 189 24,rm 190 4,
 ri 191 (.call sr [(.t 186),(.t 187),(.t 188),(.t 189),(.t 190)])] false []) .skip)) (.seq (rq [rm 192 1,rm 193 20,
 wb 194 .lss 192 193,rm 195 194,wm 196 195 true 20,wm 197 195 true 18,rg 198 195 true (.bin .lss (.t 196) (.t 197)),
 wp 199 195 198] (wt 199 (.region [rm 200 0,rm 201 1,rm 202 20,rm 203 18,rm 204 4,
 ri 205 (.call fk [(.t 200),(.t 201),(.t 202),(.t 203),(.t 204)])] false []) .skip)) (rq [rm 206 18,rm 207 24,
 wb 208 .lss 206 207,rm 209 208,wm 210 209 true 24,wm 211 209 true 3,rg 212 209 true (.bin .lss (.t 210) (.t 211)),
 wp 213 209 212] (wt 213 (.region [rm 214 0,rm 215 18,rm 216 24,rm 217 3,rm 218 4,
 ri 219 (.call fk [(.t 214),(.t 215),(.t 216),(.t 217),(.t 218)])] false []) .skip))))))))))))
def Ai(vo jk ot la:Nat):cn:=
 rq [wx 2 2 0,wx 3 9 1,ri 4 (.alloc [.bd,.bd]),wc 5 0] (.seq (.seq (.region [rf 8 0 3,rl 9 1 false 8,
 wd 10 .lss 9 0,rm 11 10,rg 12 11 false (.xj 0 (.t 3)),wl 13 11 false 1 false 12,rg 14 11 false (.call vo []),
 rg 15 11 false (.ij (ci 7)),rg 16 11 false (.bin .geq (.t 13) (.t 15)),
 wq 17 11 16] true []) (wt 17 (rq [ri 18 (.build [.bd,.bd] []),ws 2 4 18,
 wc 5 1] .ret) .skip)) (rq [rl 19 2 true 2,ri 20 (.pz jk [(.t 19)]),ri 6 (.alloc [.bd,.bd]),
 ws 2 6 20] (.seq (.seq (.seq (.freeze) (.region [ri 21 (.call vo []),rf 22 0 3,rl 23 1 false 22,ri 24 (.a14 7 1 false (.t 21) (.t 23)),
 rl 25 9 true 3,ri 26 (.Kn (.t 24) [(.t 6),(.t 25)]),rm 7 26] true [])) (rq [rm 27 7,
 wd 28 .neq 27 0] (wt 28 (rq [ri 29 (.build [.bd,.bd] []),rm 30 7,ws 2 4 29,
 rm 5 30] .ret) .skip))) (.seq (.seq (.freeze) (.region [rl 31 2 true 6,ri 32 (.pz ot [(.t 31)]),
 ws 2 6 32] false [])) (.seq (rq [rl 33 2 true 6,ri 34 (.call la [(.t 33)]),
 wd 35 .neq 34 0] (wt 35 (rq [ri 36 (.build [.bd,.bd] []),ws 2 4 36,
 wc 5 230] .ret) .skip)) (rq [rl 37 2 true 6,ws 2 4 37,wc 5 0] .ret))))))
def Np(la jk:Nat):cn:=
 rq [wx 1 2 0,ri 2 (.ij (.c .Ti)),wc 3 0] (.seq (rq [rl 4 2 true 1,ri 5 (.call la [(.t 4)]),
 wd 6 .neq 5 0] (wt 6 (rq [ri 2 (.ij (.c .Ti)),wc 3 230] .ret) .skip)) (rq [rl 7 2 true 1,
 ri 8 (.call jk [(.t 7)]),ri 9 (.Ho),ri 10 (.build [.bd,.bd,.bd,.bd,.L0] [(0,2,(.t 8)),(4,1,(.t 9))]),wx 11 5 10,rm 2 11,
 wc 3 0] .ret))
def um(jk:Nat):cn:=
 rq [ri 2 (.alloc [.bd,.bd])] (.seq (rq [rm 3 0,ri 4 (.Hp .ptr false (.t 3))] (wt 4 (rq [ri 5 (.build [.bd,.bd] []),
 ws 2 2 5] .ret) .skip)) (rq [rm 6 0,rk 7 6,rf 8 0 7,rl 9 2 true 8,ri 10 (.call jk [(.t 9)]),ws 2 2 10] .ret))
def xm(tg qc:Nat):cn:=
 rq [wx 3 9 1,wc 4 0] (.seq (rq [rm 7 0,
 ri 8 (.Hp .ptr false (.t 7))] (wt 8 (rq [wc 4 3] .ret) .skip)) (.seq (.region [rm 10 0,rk 11 10,rf 12 0 11,rl 13 2 true 12,rl 14 9 true 3,
 ri 15 (.call tg [(.t 13),(.t 14)]),rm 9 15,rx 16 9 0,rx 17 9 1,ri 5 (.w8 2),rn (.init 5 2 (.t 16)),rm 6 17] true []) (.seq (rq [rm 18 6,
 wd 19 .eql 18 0] (wt 19 (.region [rm 20 0,rl 21 2 true 5,
 ri 22 (.ti qc [(.t 20),(.t 21)])] false []) .skip)) (rq [rm 23 6,rm 4 23] .ret))))
def uk(iq:Nat):cn:=
 rq [wc 2 0] (.seq (rq [rm 3 0,ri 4 (.Hp .ptr false (.t 3))] (wt 4 (rq [wc 2 3] .ret) .skip)) (.seq (.region [rm 5 0,rm 6 0,rk 7 6,
 rf 8 2 7,rm 9 0,rk 10 9,rf 11 3 10,ri 12 (.ti iq [(.t 5),(.t 8),(.t 11)]),rm 2 12] true []) .ret))
def uo(iq:Nat):cn:=
 rq [wc 2 0] (.seq (rq [rm 3 0,ri 4 (.Hp .ptr false (.t 3))] (wt 4 (rq [wc 2 3] .ret) .skip)) (.seq (.region [rm 5 0,rm 6 0,rk 7 6,
 rf 8 3 7,rm 9 0,rk 10 9,rf 11 2 10,ri 12 (.ti iq [(.t 5),(.t 8),(.t 11)]),rm 2 12] true []) .ret))
def Bs:cn:=
 rq [wc 2 0,wc 3 0] (.seq (rq [rm 4 0,ri 5 (.Hp .ptr false (.t 4))] (wt 5 (rq [wc 2 0,
 wc 3 0] .ret) .skip)) (.seq (.region [rm 6 0,rk 7 6,rf 8 2 7,rl 9 1 false 8,wn 10 9,rm 11 0,rk 12 11,rf 13 3 12,rl 14 1 false 13,
 wn 15 14,rm 2 10,rm 3 15] true []) .ret))
def uq(j5:Nat):cn:=
 rq [wc 4 0] (.seq (rq [rm 7 0,ri 8 (.Hp .ptr false (.t 7))] (wt 8 (rq [wc 4 3] .ret) .skip)) (rq [rm 10 0,rk 11 10,rf 12 4 11,
 rl 13 1 false 12,rm 14 1,ri 15 (.lookup (.one .str) (.agg [.bd,.bd]) (.t 13) (.t 14) true),rm 9 15,rx 16 9 0,rx 17 9 1,ri 5 (.alloc [.bd,.bd]),
 ws 2 5 16,rm 6 17] (.seq (.block 0 (rq [rm 19 1,ri 20 (.call j5 [(.t 19)]),ri 21 (.un .not (.t 20)),
 rm 18 21] (wt 18 (rq [wc 4 240] .ret) (rq [rm 23 6,rm 24 23,wm 25 24 false 0,rg 26 24 false (.V3 (.t 25)),
 rg 27 24 false (.xj 4 (.t 26)),wl 28 24 false 1 false 27,rg 29 24 false (.len .map (.t 28)),rg 30 24 false (.bin .geq (.t 29) (ci 20)),
 wq 31 24 30,rm 22 31] (wt 22 (rq [wc 4 7] .ret) .skip))))) (.seq (.region [rm 32 0,rk 33 32,rf 34 4 33,
 rl 35 1 false 34,rm 36 1,rm 37 0,rk 38 37,rf 39 0 38,rl 40 2 true 39,rn (.Wq (.one .str) (.t 35) (.t 36) (.t 40))] true []) (rq [wc 4 0] .ret)))))
def wh(nk:Nat):cn:=
 rq [wx 3 2 1] (.seq (.region [rm 4 0,rm 5 0,rk 6 5,rf 7 2 6,rl 8 1 false 7,rm 9 0,rk 10 9,rf 11 0 10,rl 12 2 true 11,
 ri 13 (.xi true 1 2 [.bd,.bd] [(0,2,(.t 12))]),ri 14 (.app 2 48 (.t 8) (.t 13)),rk 15 4,rf 16 2 15,ws 1 16 14] true []) (.seq (rq [rm 17 0,
 rk 18 17,rf 19 2 18,rl 20 1 false 19,wn 21 20,wd 22 .gtr 21 50] (wt 22 (.region [rm 23 0,rm 24 0,rk 25 24,rf 26 2 25,
 rl 27 1 false 26,ri 28 (.ti nk [(.t 27),(ci 0),(ci 1)]),rk 29 23,rf 30 2 29,
 ws 1 30 28] false []) .skip)) (.region [rm 31 0,rm 32 0,rl 33 2 true 3,rk 34 31,rf 35 0 34,ws 2 35 33,rk 36 32,rf 37 3 36,
 rn (.store 1 (.t 37) (.c .bd))] false [])))
def ig:cn:=
 rq [wc 6 0] (rq [rm 8 1,rk 9 8,rl 10 1 false 9,wn 11 10,rm 7 11] (.seq (rq [rm 12 7,
 wd 13 .eql 12 0] (wt 13 (rq [wc 6 7] .ret) .skip)) (.seq (.region [rm 14 2,rm 15 2,rk 16 15,rl 17 1 false 16,rm 18 0,rk 19 18,
 rf 20 0 19,rl 21 2 true 20,ri 22 (.xi true 1 2 [.bd,.bd] [(0,2,(.t 21))]),ri 23 (.app 2 48 (.t 17) (.t 22)),rk 24 14,
 ws 1 24 23] true []) (.seq (.region [rm 25 0,rm 26 1,rm 27 1,rk 28 27,rl 29 1 false 28,rm 30 7,wd 31 .sub 30 1,
 wi 32 2 29 31,rl 33 2 true 32,rm 34 1,rk 35 34,rl 36 1 false 35,rm 37 7,wd 38 .sub 37 1,rm 39 7,wd 40 .sub 39 1,
 ri 41 (.Fo 2 (.t 36) (.t 38) (.t 40)),rk 42 25,rf 43 0 42,ws 2 43 33,rk 44 26,
 ws 1 44 41] true []) (rq [wc 6 0] .ret)))))
structure Pr4(P:Program)extends Pr3 P where
 vo:Nat
 ph:Nat
 pg:Nat
 pe:Nat
 pb:Nat
 pa:Nat
 lh:Nat
 kz:Nat
 lg:Nat
 lu:Nat
 nk:Nat
 ot:Nat
 l8:Nat
 mz:Nat
 fw:Nat
 my:Nat
 ga:Nat
 ki:Nat
 ko:Nat
 ia:Nat
 fg:Nat
 il:Nat
 fk:Nat
 rz:Nat
 sr:Nat
 tg:Nat
 ug:Nat
 fy:Nat
 kl:Nat
 qc:Nat
 j2:Nat
 iq:Nat
 ir:Nat
 ng:Nat
 nu:Nat
 Zb:dj P ft {cr:=[5,10]}=some (Kc lp j9 ie ed,[.cell 2 5 true],22)
 Iz:dj P cw {cr:=[17],kp:=[18]}=some (wz,[.tmp 4],22)
 Ve:dj P jk {cr:=[5,8],od:=[1]}=some (Hd dm cw ft,[.cell 2 2 true],10)
 Zc:dj P vo {}=some (Kd ph pg pe pb pa lh kz,[.cell 0 7 true],2)
 Mp:dj P ph {}=some (qf gq,[.tmp 4],23)
 Hw:dj P pg {imm:=[22]}=some (mh gq,[.tmp 4],26)
 Mo:dj P pe {ce:=[22]}=some (qe gq lg,[.tmp 4],25)
 Hu:dj P pb {imm:=[32]}=some (p9 ja ft,[.tmp 4],36)
 Mn:dj P pa {ce:=[22]}=some (qd ja lu,[.tmp 4],25)
 Dz:dj P lh {}=some (qo ja,[.tmp 4],65)
 Dc:dj P kz {}=some (oi gq,[.tmp 4],71)
 Jq:dj P lg {kp:=[13,22,25,31,32]}=some (Jn,[.tmp 6],33)
 Kj:dj P lu {kp:=[13,22,25,31,32]}=some (K0,[.tmp 6],33)
 Z2:dj P nk {kp:=[13,22,25,31,32]}=some (Jz,[.tmp 6],33)
 Ep:dj P ot {cr:=[7,11]}=some (r5 l8 mz fw my ga,[.cell 2 2 true],13)
 Tz:dj P l8 {}=some (zr,[.tmp 4],13)
 Ty:dj P mz {}=some (G7,[.tmp 5],12)
 Tx:dj P my {}=some (G6,[.tmp 5],12)
 xr:dj P fw {cr:=[8]}=some (lj ki,[],9)
 ye:dj P ga {cr:=[8]}=some (ly ko,[],9)
 yd:dj P ki {cr:=[18,27,43,60]}=some (Ez ia fg,[],63)
 yx:dj P ko {cr:=[18,27,43,60]}=some (Fe il fk,[],63)
 u7:dj P ia {}=some (C5,[],53)
 uv:dj P il {}=some (Cb,[],53)
 Dy:dj P fg {}=some (Ds rz fg,[],220)
 Eo:dj P fk {}=some (Ej sr fk,[],220)
 Py:dj P tg {ce:=[26],cr:=[20,32],dyn:=[4,7]}=some (Ai vo jk ot la,[.cell 4 2 true,.tmp 5],38)
 a4c:dj P ug {}=some (Np la jk,[.tmp 2,.tmp 3],12)
 Hy:dj P fy {}=some (um jk,[.cell 2 2 true],11)
 Jt:dj P kl {ce:=[22]}=some (xm tg qc,[.tmp 4],24)
 Hx:dj P j2 {ce:=[12]}=some (uk iq,[.tmp 2],13)
 Hz:dj P ir {ce:=[12]}=some (uo iq,[.tmp 2],13)
 Ot:dj P ng {}=some (Bs,[.tmp 2,.tmp 3],16)
 I0:dj P nu {}=some (uq j5,[.tmp 4],41)
 Ik:dj P qc {imm:=[13],ce:=[28]}=some (wh nk,[],38)
 ra:dj P iq {imm:=[22],cv:=[41]}=some (ig,[.tmp 6],45)
def ve(qz ue Cz yz ug D4 fy kl za j2 ir:Nat):cn:=
 rq [wx 2 2 0,wf 4 false] (.seq (rq [rl 13 2 true 2,ri 14 (.call qz [(.t 13)]),ri 15 (.un .not (.t 14)),rm 16 15,
 wm 17 16 false 1,rg 18 16 false (.len .dt (.t 17)),rg 19 16 false (.bin .gtr (.t 18) (ci 50)),wq 20 16 19,rm 21 20,
 wl 22 21 false 2 true 2,rg 23 21 false (.call ue [(.t 22)]),rg 24 21 false (.call Cz [(.t 23)]),rg 25 21 false (.un .not (.t 24)),
 wq 26 21 25] (wt 26 (rq [ri 27 (.call yz []),rm 4 27] .ret) .skip)) (rq [rl 29 2 true 2,
 ri 30 (.ti ug [(.t 29)]),rm 28 30,rx 31 28 0,rx 32 28 1,rm 5 31,rm 6 32] (.seq (rq [rm 33 6,
 wd 34 .neq 33 0] (wt 34 (rq [wf 4 false] .ret) .skip)) (rq [wc 7 0] (.seq (rq [wc 8 0] (.block 0 (.loop (.seq (rq [rm 35 8,
 rm 36 1,wn 37 36,wb 38 .lss 35 37] (wt 38 .skip (.exit 0))) (.seq (.block 1 (.seq (rq [rm 41 1,rm 42 8,
 wi 43 9 41 42,rl 44 9 true 43,ri 45 (.call D4 [(.t 44)]),ri 46 (.un .not (.t 45))] (wt 46 (rq [ri 47 (.call yz []),
 rm 4 47] .ret) .skip)) (rq [rm 48 5,ri 49 (.M0 fy [(.t 48)]),ri 9 (.alloc [.bd,.bd]),ws 2 9 49] (rq [rm 50 5,rm 51 1,
 rm 52 8,wi 53 9 51 52,rl 54 9 true 53,ri 55 (.ti kl [(.t 50),(.t 54)]),
 wd 56 .eql 55 0] (wt 56 (.region [rm 57 7,wd 58 .add 57 1,rm 7 58] false []) (.seq (.region [rm 59 5,
 ri 60 (.M0 fy [(.t 59)]),rl 61 2 true 9,ri 62 (.call ue [(.t 61)]),ri 63 (.call za [(.t 60),(.t 62)]),
 ri 64 (.un .not (.t 63))] true []) (wt 64 (rq [wf 4 false] .ret) .skip))))))) (.region [rm 39 8,wd 40 .add 39 1,
 rm 8 40] false [])))))) (rq [rm 65 5,ri 66 (.M0 fy [(.t 65)]),ri 10 (.alloc [.bd,.bd]),
 ws 2 10 66] (.seq (rq [wc 11 0] (.block 2 (.loop (.seq (rq [rm 67 11,rm 68 7,
 wb 69 .lss 67 68] (wt 69 .skip (.exit 2))) (.seq (.block 3 (rq [rm 72 5,ri 73 (.ti j2 [(.t 72)]),
 wd 74 .neq 73 0] (wt 74 (rq [wf 4 false] .ret) .skip))) (.region [rm 70 11,wd 71 .add 70 1,
 rm 11 71] false [])))))) (.seq (.seq (.region [rm 75 5,ri 76 (.M0 fy [(.t 75)]),rl 77 2 true 2,ri 78 (.call ue [(.t 77)]),
 ri 79 (.call za [(.t 76),(.t 78)]),ri 80 (.un .not (.t 79)),rm 81 80,wm 82 81 false 5,rg 83 81 false (.ti j2 [(.t 82)]),
 rg 84 81 false (.bin .neq (.t 83) (ci 7)),
 wq 85 81 84] true []) (wt 85 (rq [wf 4 false] .ret) .skip)) (.seq (rq [wc 12 0] (.block 4 (.loop (.seq (rq [rm 86 12,
 rm 87 7,wb 88 .lss 86 87] (wt 88 .skip (.exit 4))) (.seq (.block 5 (rq [rm 91 5,ri 92 (.ti ir [(.t 91)]),
 wd 93 .neq 92 0] (wt 93 (rq [wf 4 false] .ret) .skip))) (.region [rm 89 12,wd 90 .add 89 1,
 rm 12 90] false [])))))) (.seq (.region [rm 94 5,ri 95 (.M0 fy [(.t 94)]),rl 96 2 true 10,ri 97 (.call ue [(.t 96)]),
 ri 98 (.call za [(.t 95),(.t 97)]),rm 99 98,wm 100 99 true 5,rg 101 99 true (.ti ir [(.t 100)]),
 rg 102 99 true (.bin .eql (.t 101) (ci 7)),wp 103 99 102,rm 104 103,rg 105 104 true (.call yz []),
 wp 106 104 105,rm 4 106] true []) .ret))))))))))
def Nh(Cj ug kl fy j2 ng ir nu:Nat):cn:=
 rq [wf 0 false] (rq [ri 6 (.call Cj []),ri 7 (.ti ug [(.t 6)]),rm 5 7,rx 8 5 0,rx 9 5 1,rm 1 8,rm 2 9] (.seq (rq [rm 10 2,
 wd 11 .neq 10 0,rm 12 11,wm 13 12 false 1,
 rg 14 12 false (.build [(.int .i64 0),(.str ⟨#[]⟩),(.str ⟨#[]⟩),(.int .i64 0),(.str ⟨#[]⟩),(.int .i64 0),.bd,.bd,.bd] [(1,1,(.c (.str ⟨#[119]⟩))),(3,1,(ci 5))]),
 rg 15 12 false (.ti kl [(.t 13),(.t 14)]),rg 16 12 false (.bin .neq (.t 15) (ci 0)),wq 17 12 16,rm 18 17,
 wm 19 18 false 1,rg 20 18 false (.M0 fy [(.t 19)]),rg 21 18 false (.Zh 0 1 false (.t 20)),rg 22 18 false (.te 2 (.t 21) (ci 0)),
 rg 23 18 false (.xj 1 (.t 22)),wl 24 18 false 1 false 23,rg 25 18 false (.bin .neq (.t 24) (ci 5)),wq 26 18 25,rm 27 26,
 wm 28 27 false 1,rg 29 27 false (.ti j2 [(.t 28)]),rg 30 27 false (.bin .neq (.t 29) (ci 0)),
 wq 31 27 30] (wt 31 (rq [wf 0 false] .ret) .skip)) (rq [rm 33 1,
 ri 34 (.call ng [(.t 33)]),rm 32 34,rx 35 32 0,rx 36 32 1,rm 3 35,rm 4 36] (rq [rm 37 3,wd 38 .eql 37 0,rm 39 38,
 wm 40 39 true 4,rg 41 39 true (.bin .eql (.t 40) (ci 1)),wp 42 39 41,rm 43 42,wm 44 43 true 1,
 rg 45 43 true (.M0 fy [(.t 44)]),rg 46 43 true (.Zh 0 1 false (.t 45)),rg 47 43 true (.te 2 (.t 46) (ci 0)),rg 48 43 true (.xj 1 (.t 47)),
 wl 49 43 true 1 false 48,rg 50 43 true (.bin .eql (.t 49) (ci 2)),wp 51 43 50,rm 52 51,wm 53 52 true 1,
 rg 54 52 true (.ti ir [(.t 53)]),rg 55 52 true (.bin .eql (.t 54) (ci 0)),wp 56 52 55,rm 57 56,
 wm 58 57 true 1,rg 59 57 true (.ti ir [(.t 58)]),rg 60 57 true (.bin .eql (.t 59) (ci 7)),
 wp 61 57 60,rm 62 61,wm 63 62 true 1,
 rg 64 62 true (.build [(.int .i64 0),(.str ⟨#[]⟩),(.str ⟨#[]⟩),(.int .i64 0),(.str ⟨#[]⟩),(.int .i64 0),.bd,.bd,.bd] [(0,1,(ci 4)),(1,1,(.c (.str ⟨#[97]⟩)))]),
 rg 65 62 true (.ti kl [(.t 63),(.t 64)]),rg 66 62 true (.bin .eql (.t 65) (ci 230)),wp 67 62 66,rm 68 67,
 wm 69 68 true 1,rg 70 68 true (.ti nu [(.t 69),(.c (.str ⟨#[109]⟩))]),rg 71 68 true (.bin .eql (.t 70) (ci 0)),
 wp 72 68 71,rm 73 72,wm 74 73 true 1,rg 75 73 true (.ti nu [(.t 74),(.c (.str ⟨#[109]⟩))]),
 rg 76 73 true (.bin .eql (.t 75) (ci 7)),wp 77 73 76,rm 0 77] .ret))))
structure Pr5(P:Program)extends Pr4 P where
 Kt:Nat
 yz:Nat
 Sh:dj P Kt {ce:=[30,55,73,83,92,101],cf:=[49,60,66,76,95]}=some (ve qz ue Cz yz ug D4 fy kl za j2 ir,[.tmp 4],107)
 a3y:dj P yz {ce:=[7,15,29,54,59,65,70,75],cf:=[20,45]}=some (Nh Cj ug kl fy j2 ng ir nu,[.tmp 0],78)
abbrev Sp:=Int×Int
def vt(p:Sp):D:= .agg [.int .i64 p.1,.int .i64 p.2]
def zm(p:Sp):List D:=[.int .i64 p.1,.int .i64 p.2]
def dEd(e:Sp×Sp):D:= .agg [.int .i64 e.1.1,.int .i64 e.1.2,.int .i64 e.2.1,.int .i64 e.2.2]
def Sm(n:Int):Prop:= -10000≤n∧n≤10000
def SmP(p:Sp):Prop:=Sm p.1∧Sm p.2
theorem axk{x:Int}{n:Nat}:x.natAbs≤n↔-n≤x∧x≤n:=by omega
theorem a3i{x y:Int}(hx: -20000≤x∧x≤20000)(hy: -20000≤y∧y≤20000): -400000000≤x*y∧x*y≤400000000:=by
 have h1:x.natAbs≤20000:=by omega
 have h2:y.natAbs≤20000:=by omega
 have:=aFd h1 h2;rw[←Int.natAbs_mul]at this;omega
def gj(a b c:Sp):Int:=(b.1-a.1)*(c.2-a.2)-(b.2-a.2)*(c.1-a.1)
def sgn(n:Int):Int:=if n<0 then-1 else if 0<n then 1 else 0
section
variable{P:Program}(A:Pr P)
theorem Rr{a b c:Sp}(ha:SmP a)(hb:SmP b)(hc:SmP c):fp P A.lq [vt a,vt b,vt c] (.int .i64 (gj a b c)):=by
 refine cy A.mo A.a3w (by simp) ?_
 show jd P Nf (kf _ _) _;obtain⟨⟨a1,a2⟩,a3,a4⟩:=ha;obtain⟨⟨b1,b2⟩,b3,b4⟩:=hb;obtain⟨⟨c1,c2⟩,c3,c4⟩:=hc
 have w1:=br (b.1-a.1) (by omega) (by omega)
 have w2:=br (c.2-a.2) (by omega) (by omega)
 have w3:=br (b.2-a.2) (by omega) (by omega)
 have w4:=br (c.1-a.1) (by omega) (by omega)
 have m1:=a3i (x:=b.1-a.1) (y:=c.2-a.2) (by omega) (by omega)
 have m2:=a3i (x:=b.2-a.2) (y:=c.1-a.1) (by omega) (by omega)
 have w5:=br ((b.1-a.1)*(c.2-a.2)) (by omega) (by omega)
 have w6:=br ((b.2-a.2)*(c.1-a.1)) (by omega) (by omega)
 have w7:=br ((b.1-a.1)*(c.2-a.2)-(b.2-a.2)*(c.1-a.1)) (by omega) (by omega)
 simp only[Nf,vt,go_sem,aa,bx,df,da,de,ab,ag,reduceCtorEq,w1,w2,w3,w4,w5,w6,w7,gj]
theorem a6s(n:Int):fp P A.yn [.int .i64 n] (.int .i64 (sgn n)):=by
 refine cy A.mo A.a83 (by simp) ?_
 show jd P H7 (kf _ _) _;by_cases h1:n<0
 ·simp only[H7,go_sem,aa,bc,reduceCtorEq,h1,sgn]
 ·by_cases h2:0<n
  ·simp only[H7,go_sem,aa,bc,reduceCtorEq,h1,h2,sgn]
  ·simp only[H7,go_sem,aa,bc,reduceCtorEq,h1,h2,sgn]
theorem aqx{a b:Sp}(ha:SmP a)(hb:SmP b):fp P A.ss [vt a,vt b] (vt (a.1-b.1,a.2-b.2)):=by
 refine cy A.mo A.a3t (by simp) ?_
 show jd P Na (kf _ _) _;obtain⟨⟨a1,a2⟩,a3,a4⟩:=ha;obtain⟨⟨b1,b2⟩,b3,b4⟩:=hb
 have w1:=br (a.1-b.1) (by omega) (by omega)
 have w2:=br (a.2-b.2) (by omega) (by omega)
 simp only[Na,vt,go_sem,aa,bx,df,da,de,ab,ag,reduceCtorEq,w1,w2]
end
def mn(a b:Int):Int:=if b<a then b else a
def mx(a b:Int):Int:=if a<b then b else a
def onB(e:Sp×Sp)(x:Sp):Bool:=gj e.1 e.2 x==0&&(decide (mn e.1.1 e.2.1≤x.1)&&(decide (x.1≤mx e.1.1 e.2.1)&&(decide (mn e.1.2 e.2.2≤x.2)&&decide (x.2≤mx e.1.2 e.2.2))))
def Km(e f:Sp×Sp):Bool:=decide (sgn (gj e.1 e.2 f.1)*sgn (gj e.1 e.2 f.2)<0)&&decide (sgn (gj f.1 f.2 e.1)*sgn (gj f.1 f.2 e.2)<0)
def SmE(e:Sp×Sp):Prop:=SmP e.1∧SmP e.2
theorem au9(n:Int):sgn n= -1∨sgn n=0∨sgn n=1:=by unfold sgn;split<;>(try split)<;>omega
theorem a6n(a b:Int): -1≤sgn a*sgn b∧sgn a*sgn b≤1:=by
 rcases au9 a with h|h|h<;>rcases au9 b with k|k|k<;>simp[h,k]
def clk(u v:Sp):Int:=if u.1*v.2-u.2*v.1<0 then 0 else if 0<u.1*v.2-u.2*v.1 then 2 else if u.1*v.1+u.2*v.2<0 then 1 else 3
def a3b(u x y:Sp):Bool:=if clk u x=clk u y then decide (x.1*y.2-x.2*y.1<0)else decide (clk u x<clk u y)
section
variable{P:Program}(A:Pr P)
theorem aB5{e:Sp×Sp}{x:Sp}(he:SmE e)(hx:SmP x):fp P A.J0 [dEd e,vt x] (.bool (onB e x)):=by
 refine cy A.mo A.aew (by simp) ?_
 show jd P (Te A.lq) (kf _ _) _;have hc:=Rr A he.1 he.2 hx;simp only[vt]at hc;simp only[Te,vt,dEd,go_sem,aa,ab,ag];refine Et hc ?_;unfold onB mn mx;by_cases h1:gj e.1 e.2 x=0
 ·simp only[go_sem,aa,bx,ab,ag,reduceCtorEq,h1,bne_self_eq_false,beq_self_eq_true]
  by_cases h2:(if e.2.1<e.1.1 then e.2.1 else e.1.1)≤x.1
  ·simp only[go_sem,aa,bx,ab,ag,reduceCtorEq,h2]
   by_cases h3:x.1≤(if e.1.1<e.2.1 then e.2.1 else e.1.1)
   ·simp only[go_sem,aa,bx,df,da,de,ab,ag,reduceCtorEq,h3]
    by_cases h4:(if e.2.2<e.1.2 then e.2.2 else e.1.2)≤x.2
    ·simp only[go_sem,aa,bx,df,da,de,ab,ag,reduceCtorEq,h4]
    ·simp only[go_sem,aa,h4,cz]
   ·simp only[go_sem,aa,h3,cz]
  ·simp only[go_sem,aa,h2,cz]
 ·have h1':(gj e.1 e.2 x==0)=false:=by simpa using h1
  have aCo:(gj e.1 e.2 x !=0)=true:=by simpa using h1
  simp only[go_sem,aa,reduceCtorEq,h1',aCo,cz]
theorem adl{e f:Sp×Sp}(he:SmE e)(hf:SmE f):fp P A.zf [dEd e,dEd f] (.bool (Km e f)):=by
 refine cy A.mo A.X4 (by simp) ?_
 show jd P (Ir A.lq A.yn) (kf _ _) _;have k1:=Rr A he.1 he.2 hf.1;have k2:=Rr A he.1 he.2 hf.2;have k3:=Rr A hf.1 hf.2 he.1;have k4:=Rr A hf.1 hf.2 he.2;have b1:=a6n (gj e.1 e.2 f.1) (gj e.1 e.2 f.2);have b2:=a6n (gj f.1 f.2 e.1) (gj f.1 f.2 e.2)
 have w1:=br _ (by omega) (by omega:sgn (gj e.1 e.2 f.1)*sgn (gj e.1 e.2 f.2)≤9223372036854775807)
 have w2:=br _ (by omega) (by omega:sgn (gj f.1 f.2 e.1)*sgn (gj f.1 f.2 e.2)≤9223372036854775807)
 simp only[vt]at k1 k2 k3 k4;simp only[Ir,dEd,go_sem,aa,ab,ag];refine Et k1 ?_;simp only[go_sem,aa];refine ee (a6s A _) ?_;simp only[go_sem,aa,ab,ag];refine Et k2 ?_;simp only[go_sem,aa];refine ee (a6s A _) ?_;simp only[go_sem,aa,reduceCtorEq,w1];by_cases h1:sgn (gj e.1 e.2 f.1)*sgn (gj e.1 e.2 f.2)<0
 ·simp only[go_sem,aa,ab,ag,h1]
  refine Et k3 ?_;simp only[go_sem,aa];refine ee (a6s A _) ?_;simp only[go_sem,aa,ab,ag];refine Et k4 ?_;simp only[go_sem,aa];refine ee (a6s A _) ?_;simp only[go_sem,aa,reduceCtorEq,w2,Km,h1]
 ·simp only[go_sem,aa,h1,Km,cz]
end
def Xj(s:ByteArray)(i:Nat):Nat:=match s[i]? with|some u=>u.toNat|none=>0
def Xi(i n:Nat):Bool:=(decide (97≤n)&&decide (n≤122))||(decide (i≠0)&&(decide (48≤n)&&decide (n≤57)))
def uu(s:ByteArray):Bool:=decide (1≤s.size)&&(decide (s.size≤20)&&(cq s.size).all fun i=>Xi i (Xj s i))
theorem toNat_cast(k:Nat):((k:Int)).toNat=k:=rfl
theorem S5{k:Nat}(h:k≠0):((k:Int)==0)=false:=by simp;omega
section
variable{P:Program}(A:Pr P)
theorem B9{s:ByteArray}{k:Nat}(hk:k<s.size)(h:Xi k (Xj s k)=false):uu s=false:=by
 unfold uu;rw[al7,al7];refine .inr (.inr ?_);rw[Zj]
 exact⟨k,du.2 hk,by simp[h]⟩
theorem a5e{s:ByteArray}(h1:1≤s.size)(h2:s.size≤20)(h:∀i,i<s.size→Xi i (Xj s i)=true):uu s=true:=by
 unfold uu;simp only[h1,h2,decide_true,qu];rw[ck]
 exact fun i hi=>h i (du.1 hi)
theorem Bf{k n:Nat}(h1:¬(97≤n∧n≤122))(h2:k=0∨n<48∨57<n):Xi k n=false:=by
 unfold Xi;simp only[P6,al7,decide_eq_false_iff_not];constructor<;>omega
theorem S4{k n:Nat}(h:(97≤n∧n≤122)∨(k≠0∧48≤n∧n≤57)):Xi k n=true:=by
 unfold Xi;simp only[Zk,cd,decide_eq_true_eq];exact h
theorem ado(s:ByteArray):fp P A.qh [.str s] (.bool (uu s)):=by
 refine cy A.mo A.a81 (by simp) ?_
 show jd P H6 (kf _ _) _;by_cases h1:(s.size:Int)<1
 ·have:uu s=false:=by unfold uu;rw[decide_eq_false (by omega)];rfl
  simp only[H6,go_sem,aa,reduceCtorEq,h1,this]
 ·by_cases h2:(20:Int)<s.size
  ·have h2':¬s.size≤20:=by omega
   have:uu s=false:=by unfold uu;simp only[h2',decide_false,cz,o9]
   simp only[H6,go_sem,aa,reduceCtorEq,h1,h2,this]
  ·simp only[H6,go_sem,aa,reduceCtorEq,h1,h2]
   refine dq s.size (fun k s'=>s'.tmp 0= .d (.str s)∧s'.tmp 3= .d (.int .i64 k)∧∀i,i<k→Xi i (Xj s i)=true) ?_ ?_
   ·simp[al]
   ·rintro k s' hk ⟨e0,e3,ha⟩
    by_cases iy:(k:Int)<s.size
    ·have cj:k<s.size:=by omega
     obtain⟨u,hu⟩:∃u,s[k]? =some u:=⟨s[k],by simp[cj]⟩
     have hc:Xj s k=u.toNat:=by unfold Xj;rw[hu]
     have wk:=br ((k:Int)+1) (by omega) (by omega)
     have nx:∀ok:Xi k (Xj s k)=true,∀i,i<k+1→Xi i (Xj s i)=true:=fun ok i hi=>by
      by_cases e:i=k
      ·subst e;exact ok
      ·exact ha i (by omega)
     simp only[go_sem,aa,reduceCtorEq,e0,e3,iy,toNat_cast,hu,aj];by_cases q1:(97:Int)≤u.toNat
     ·by_cases q2:(u.toNat:Int)≤122
      ·simp only[go_sem,aa,reduceCtorEq,e0,e3,toNat_cast,hu,aj,q1,q2,wk]
       exact⟨cj,by simp,nx (S4 (by omega))⟩
      ·simp only[go_sem,aa,reduceCtorEq,e0,e3,toNat_cast,hu,aj,q1,q2]
       by_cases q3:k=0
       ·subst q3
        simp only[go_sem,aa,Yo,beq_self_eq_true]
        rw[B9 cj (Bf (by omega) (by omega))]
       ·have q3':=S5 q3
        have q4:¬(u.toNat:Int)<48:=by omega
        have q5:(57:Int)<u.toNat:=by omega
        simp only[go_sem,aa,reduceCtorEq,e0,e3,toNat_cast,hu,aj,q3',q4,q5]
        rw[B9 cj (Bf (by omega) (by omega))]
     ·simp only[go_sem,aa,reduceCtorEq,e3,q1]
      by_cases q3:k=0
      ·subst q3
       simp only[go_sem,aa,Yo,beq_self_eq_true]
       rw[B9 cj (Bf (by omega) (by omega))]
      ·have q3':=S5 q3
       by_cases q4:(u.toNat:Int)<48
       ·simp only[go_sem,aa,reduceCtorEq,e0,e3,toNat_cast,hu,aj,q3',q4]
        rw[B9 cj (Bf (by omega) (by omega))]
       ·by_cases q5:(57:Int)<u.toNat
        ·simp only[go_sem,aa,reduceCtorEq,e0,e3,toNat_cast,hu,aj,q3',q4,q5]
         rw[B9 cj (Bf (by omega) (by omega))]
        ·simp only[go_sem,aa,reduceCtorEq,e0,e3,toNat_cast,hu,aj,q3',q4,q5,wk]
         exact⟨cj,by simp,nx (S4 (by omega))⟩
    ·simp only[go_sem,aa,reduceCtorEq,e0,e3,iy]
     rw[a5e (by omega) (by omega) fun i hi=>ha i (by omega)]
theorem Up(s:ByteArray):fp P A.j5 [.str s] (.bool (uu s)):=by
 refine cy A.mo A.Xa (by simp) ?_
 show jd P Bt (kf _ _) _;by_cases h1:(s.size:Int)<1
 ·have:uu s=false:=by unfold uu;rw[decide_eq_false (by omega)];rfl
  simp only[Bt,go_sem,aa,reduceCtorEq,h1,this]
 ·by_cases h2:(20:Int)<s.size
  ·have h2':¬s.size≤20:=by omega
   have:uu s=false:=by unfold uu;simp only[h2',decide_false,cz,o9]
   simp only[Bt,go_sem,aa,reduceCtorEq,h1,h2,this]
  ·simp only[Bt,go_sem,aa,reduceCtorEq,h1,h2]
   refine dq s.size (fun k s'=>s'.tmp 0= .d (.str s)∧s'.tmp 15= .d (.int .i64 k)∧s'.tmp 14= .d (.int .i64 s.size)∧∀i,i<k→Xi i (Xj s i)=true) ?_ ?_
   ·simp[al]
   ·rintro k s' hk ⟨e0,e15,e14,ha⟩
    by_cases iy:(k:Int)<s.size
    ·have cj:k<s.size:=by omega
     obtain⟨u,hu⟩:∃u,s[k]? =some u:=⟨s[k],by simp[cj]⟩
     have hc:Xj s k=u.toNat:=by unfold Xj;rw[hu]
     have wk:=br ((k:Int)+1) (by omega) (by omega)
     have nx:∀ok:Xi k (Xj s k)=true,∀i,i<k+1→Xi i (Xj s i)=true:=fun ok i hi=>by
      by_cases e:i=k
      ·subst e;exact ok
      ·exact ha i (by omega)
     have rest:¬(97≤u.toNat∧u.toNat≤122)→∀q:Prop,(k=0→q)→(k≠0→(u.toNat:Int)<48→q)→(k≠0→¬(u.toNat:Int)<48→(57:Int)<u.toNat→q)→(k≠0→¬(u.toNat:Int)<48→¬(57:Int)<u.toNat→q)→q:=fun _ q a b c d=>by
      by_cases q3:k=0
      ·exact a q3
      ·by_cases q4:(u.toNat:Int)<48
       ·exact b q3 q4
       ·by_cases q5:(57:Int)<u.toNat
        ·exact c q3 q4 q5
        ·exact d q3 q4 q5
     simp only[go_sem,aa,reduceCtorEq,e0,e14,e15,iy,toNat_cast,hu,aj];by_cases q1:(u.toNat:Int)<97
     ·simp only[go_sem,aa,reduceCtorEq,q1]
      refine rest (by omega) _ (fun q3=>?_) (fun q3 q4=>?_) (fun q3 q4 q5=>?_) (fun q3 q4 q5=>?_)
      ·subst q3
       simp only[go_sem,aa,Yo,beq_self_eq_true]
       rw[B9 cj (Bf (by omega) (by omega))]
      ·simp only[go_sem,aa,reduceCtorEq,S5 q3,q4]
       rw[B9 cj (Bf (by omega) (by omega))]
      ·simp only[go_sem,aa,reduceCtorEq,S5 q3,q4,q5]
       rw[B9 cj (Bf (by omega) (by omega))]
      ·simp only[go_sem,aa,reduceCtorEq,e0,e14,e15,S5 q3,q4,q5,wk]
       exact⟨cj,by simp,nx (S4 (by omega))⟩
     ·by_cases q2:(122:Int)<u.toNat
      ·simp only[go_sem,aa,reduceCtorEq,q1,q2]
       refine rest (by omega) _ (fun q3=>?_) (fun q3 q4=>?_) (fun q3 q4 q5=>?_) (fun q3 q4 q5=>?_)
       ·subst q3
        simp only[go_sem,aa,Yo,beq_self_eq_true]
        rw[B9 cj (Bf (by omega) (by omega))]
       ·omega
       ·simp only[go_sem,aa,reduceCtorEq,S5 q3,q4,q5]
        rw[B9 cj (Bf (by omega) (by omega))]
       ·omega
      ·simp only[go_sem,aa,reduceCtorEq,e0,e14,e15,q1,q2,wk]
       exact⟨cj,by simp,nx (S4 (by omega))⟩
    ·simp only[go_sem,aa,reduceCtorEq,e14,e15,iy]
     rw[a5e (by omega) (by omega) fun i hi=>ha i (by omega)]
end
structure Pm where
 n:ByteArray
 v:Int
structure Vl where
 n:ByteArray
 t:Int
 a:Int
def pn(p:Pm):List D:=[.str p.n,.int .i64 p.v]
def Cn(v:Vl):List D:=[.str v.n,.int .i64 v.t,.int .i64 v.a]
def ix(l:List Pm):D:= .dt 2 (l.map pn)
def ua(l:List Vl):D:= .dt 3 (l.map Cn)
def Nu(n:Int):Bool:=decide (-1000000≤n)&&decide (n≤1000000)
def isE(s:ByteArray):Bool:=s.toList==(⟨#[]⟩:ByteArray).toList
def strLt(a b:ByteArray):Bool:=ahr a.toList b.toList
def Iq(v:Vl):Bool:=Nu v.t&&(Nu v.a&&(uu v.n||(isE v.n&&v.t==0)))
def ui(l:List ByteArray)(i:Nat):Bool:=decide (i=0)||match l[i-1]?,l[i]? with|some a,some b=>strLt a b|_,_=>false
def a7e(l:List Pm)(i:Nat):Bool:=match l[i]? with|some p=>uu p.n&&(Nu p.v&&ui (l.map Pm.n) i)|none=>false
def Aa(l:List Pm):Bool:=decide (l.length≤20)&&(cq l.length).all (a7e l)
theorem all_false{f:Nat→Bool}{n k:Nat}(hk:k<n)(h:f k=false):(cq n).all f=false:=by
 rw[Zj]
 exact⟨k,du.2 hk,by simp[h]⟩
theorem all_true{f:Nat→Bool}{n:Nat}(h:∀i,i<n→f i=true):(cq n).all f=true:=by
 rw[ck]
 exact fun i hi=>h i (du.1 hi)
theorem og{p:Nat→Prop}{k:Nat}(h:∀i,i<k→p i)(hk:p k):∀i,i<k+1→p i:=fun i hi=>by
 by_cases e:i=k
 ·subst e;exact hk
 ·exact h i (by omega)
theorem Gm{k:Nat}(h:0<(k:Int)):((k:Int)-1).toNat=k-1:=by omega
section
variable{P:Program}(A:Pr P)
theorem a0b(n:Int):fp P A.qp [.int .i64 n] (.bool (Nu n)):=by
 refine cy A.mo A.a1d (by simp) ?_
 show jd P Gz (kf _ _) _;by_cases h1: -1000000≤n
 ·simp only[Gz,go_sem,aa,bc,reduceCtorEq,Nu,h1]
 ·simp only[Gz,go_sem,aa,bc,reduceCtorEq,Nu,h1,cz]
theorem a09(n:Int):fp P A.ou [.int .i64 n] (.bool (Nu n)):=by
 refine cy A.mo A.X9 (by simp) ?_
 show jd P Em (kf _ _) _;by_cases h1: -1000000≤n
 ·simp only[Em,go_sem,aa,bc,reduceCtorEq,Nu,h1]
 ·simp only[Em,go_sem,aa,bc,reduceCtorEq,Nu,h1,cz]
theorem a6w(v:Vl):fp P A.x8 [.agg (Cn v)] (.bool (Iq v)):=by
 refine cy A.mo A.Tu (by simp) ?_
 show jd P (G3 A.qp A.qh) (kf _ _) _;unfold Iq;simp only[G3,Cn,go_sem,aa,ab,ag];refine ee (a0b A _) ?_;cases h1:Nu v.t
 ·simp only[go_sem,aa,cz]
 ·simp only[go_sem,aa,ab]
  refine ee (a0b A _) ?_;cases h2:Nu v.a
  ·simp only[go_sem,aa,cz]
  ·simp only[go_sem,aa,ab,ag]
   refine ee (ado A _) ?_;cases h3:uu v.n
   ·cases h4:isE v.n
    ·simp only[isE]at h4
     simp only[go_sem,aa,ab,ag,h4,cz,Sq]
    ·simp only[isE]at h4
     simp only[go_sem,aa,ab,ag,reduceCtorEq,h4,Mz]
   ·simp only[go_sem,aa,Jh]
theorem Su(l:List Pm):fp P A.ni [ix l] (.bool (Aa l)):=by
 refine cy A.mo A.Sc (by simp) ?_
 show jd P (Bl A.qh A.qp) (kf _ _) _;unfold Aa;by_cases h1:(20:Int)<l.length
 ·have h1':¬l.length≤20:=by omega
  simp only[Bl,ix,go_sem,aa,reduceCtorEq,ae,h1,h1',cz]
 ·have h1':l.length≤20:=by omega
  simp only[Bl,ix,go_sem,aa,reduceCtorEq,ae,h1,h1']
  refine dq l.length (fun k s'=>s'.tmp 0= .d (.dt 2 (l.map pn))∧s'.tmp 3= .d (.int .i64 k)∧∀i,i<k→a7e l i=true) ?_ ?_
  ·simp[al]
  ·rintro k s' hk ⟨e0,e3,ha⟩
   by_cases iy:(k:Int)<l.length
   ·have cj:k<l.length:=by omega
    have hg:(l.map pn)[k]? =some [.str l[k].n,.int .i64 l[k].v]:=by simp[cj,pn]
    have wk:=br ((k:Int)+1) (by omega) (by omega)
    have hp:a7e l k=(uu l[k].n&&(Nu l[k].v&&ui (l.map Pm.n) k)):=by unfold a7e;simp[cj]
    simp only[go_sem,aa,ab,ag,reduceCtorEq,e0,e3,ae,iy,toNat_cast,hg,aj];refine ee (ado A _) ?_;cases q1:uu l[k].n
    ·simp only[go_sem,aa]
     rw[all_false cj (by rw[hp,q1];rfl)]
    ·simp only[go_sem,aa,ab,reduceCtorEq,e0,e3,hg,aj,toNat_cast]
     refine ee (a0b A _) ?_;cases q2:Nu l[k].v
     ·simp only[go_sem,aa]
      rw[all_false cj (by rw[hp,q1,q2];rfl)]
     ·by_cases q3:(0:Int)<k
      ·have hg':(l.map pn)[k-1]? =some [.str l[k-1].n,.int .i64 l[k-1].v]:=by
        have:k-1<l.length:=by omega
        simp[this,pn]
       have w1:=br ((k:Int)-1) (by omega) (by omega)
       have z:(0:Int)≤(k:Int)-1:=by omega
       have hr:ui (l.map Pm.n) k=strLt l[k-1].n l[k].n:=by
        unfold ui
        have h0:k≠0:=by omega
        have:k-1<l.length:=by omega
        simp[h0,this,cj]
       cases q4:strLt l[k-1].n l[k].n
       ·have q4':=q4
        unfold strLt at q4';simp only[go_sem,aa,ab,ag,reduceCtorEq,e0,e3,q3,w1,Gm q3,hg',hg,z,toNat_cast,aj,q4']
        rw[all_false cj (by rw[hp,q1,q2,hr,q4];rfl)]
       ·have q4':=q4
        unfold strLt at q4';simp only[go_sem,aa,ab,ag,reduceCtorEq,e0,e3,q3,w1,Gm q3,hg',hg,z,toNat_cast,aj,q4',wk]
        exact⟨cj,by simp,og ha (by rw[hp,q1,q2,hr,q4];rfl)⟩
      ·simp only[go_sem,aa,reduceCtorEq,e0,e3,q3,wk]
       exact⟨cj,by simp,og ha (by rw[hp,q1,q2];unfold ui;simp;omega)⟩
   ·simp only[go_sem,aa,reduceCtorEq,e0,e3,ae,iy]
    rw[all_true fun i hi=>ha i (by omega)]
end
end Go.PI
