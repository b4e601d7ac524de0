/- A part of the proof for HistoryBack: F64 to SLayP. Printed from longer texts. -/
import Derived.Test.YtcpkpdmejlfemaaGreatDoorE
import Derived.Deep.Slices
import Derived.ChangeShapes
import Derived.OpenShut
import Derived.ChangeSame
import Derived.ChangeStays
import Derived.ChangeBook
import Derived.RowKit
import Derived.Test.YtcpkpdmejlfemaaGreatDoorRows
import Derived.KernelRfl
import Derived.Shelf.SlLaysF
set_option linter.all false
set_option maxHeartbeats 64000000
open Array renaming getElem?_eq_some_iff→j4
open Bool renaming and_eq_true→cd,and_true→F9,false_and→cz,false_eq_true→ec,or_true→aF0
open Classical renaming byContradiction→aAs
open Go.IntKind renaming i64→kc,signed→aFk,wrap→Mx
open Go.Shelf renaming Ren→aG3
open Go.World renaming cell?→aG5
open Int renaming natCast_add→jz,natCast_nonneg→aj,reduceAdd→aF9,reduceBEq→Sn,reduceBNe→je,reduceLE→df,reduceLT→bx,reduceNeg→bc,reduceToNat→da
open List renaming all_cons→Sl,all_eq_true→ck,all_nil→aEw,append_assoc→we,append_nil→th,concat_eq_append→aEl,cons_append→vp,drop_drop→ahw,drop_eq_getElem_cons→gd,drop_eq_nil_of_le→Gp,drop_length→Ma,drop_of_length_le→Yn,drop_zero→a9a,eq_nil_of_length_eq_zero→jb,eraseIdx_eq_take_drop_succ→oz,ext_getElem?→a99,foldl_append→pw,getD→bn,getD_eq_getElem?_getD→yb,getElem?_append_left→jr,getElem?_append_right→jy,getElem?_drop→lv,getElem?_eq_getElem→ao,getElem?_eq_some_iff→aq,getElem?_map→bp,getElem?_of_mem→aEu,getElem?_range→Jx,getElem?_set→pv,getElem_mem→bz,getElem_take→aAy,length→Cq,length_append→cb,length_cons→bq,length_drop→qn,length_eraseIdx_le→aDr,length_map→ae,length_nil→dh,length_pos_iff→acv,length_range→aAx,length_reverse→Mw,length_set→Fx,length_take→dd,map→aGz,map_append→fb,map_cons→cu,map_drop→av0,map_eq_nil_iff→dg,map_map→aEt,map_nil→ez,map_set→aG9,map_take→J7,mem_append→oo,mem_cons→dn,mem_iff_getElem→fj,mem_map→jc,mem_or_eq_of_mem_set→aAq,mem_singleton→Ua,nil_append→An,not_mem_nil→jg,pairwise_cons→M8,pairwise_iff_getElem→Rm,pairwise_reverse→aEj,range→cq,reduceReplicate→ca,reverse_append→auz,reverse_cons→qm,reverse_nil→a65,reverse_reverse→Cp,set_append_right→a2x,take_add_one→ey,take_append_drop→Mf,take_left→aFg,take_left'→aEq,take_length→eo,take_of_length_le→Ab,take_zero→F8
open List.Perm renaming refl→aFj
open Nat renaming add_assoc→p8,add_left_cancel_iff→dw,add_sub_cancel_left→aDq,add_zero→xu,le_of_eq→aFf,le_refl→ar,le_trans→gn,lt_or_ge→a00,not_lt_zero→aAp,reduceAdd→ab,reduceEqDiff→aa,reduceLeDiff→ag,reduceMul→de,reducePow→Mt,sub_self→Ms,sub_zero→S8,zero_add→eh,zero_le→aFr
open Option renaming bind_eq_some_iff→acy,getD_some→j3,isSome→ax,map_eq_some_iff→ak,map_some→gz,ne_none_iff_exists'→Eh,toList_some→ahq
namespace Go.PI
theorem a0g{m:Mem}{B off:Nat}{isR:Nat→Bool}{bo:Nat→Go.PI.B}{i:Nat}:∀{j:Nat},N1 m B off isR bo j i=m.bm i∨∃k,N1 m B off isR bo j i=some (bo k):=by
 intro j
 induction j with
 |zero=>exact .inl rfl
 |succ j ih=>
  rw[Ei];split
  ·by_cases h:i=B+64+64*j+off
   ·subst h;exact .inr ⟨j,bh _ _ _⟩
   ·rw[er _ _ _ _ h];exact ih
  ·exact ih
def Qm(ns:List Nd)(k:Nat)(s:ByteArray):List Nd:=ns.set k ⟨s,(ns.getD k n0).f,(ns.getD k n0).ins⟩
def Pd(t:Tr)(e:Edt)(k:Nat):Tr:=⟨t.ps,(Qm t.ns k e.t).map (aac e.n e.t)⟩
theorem a5k{α:Type}(l:List α)(k i:Nat)(x d:α)(hk:k<l.length):(l.set k x).getD i d=if i=k then x else l.getD i d:=by
 simp only[yb,pv];by_cases h:k=i
 ·subst h;simp[hk]
 ·rw[if_neg h,if_neg (fun q=>h q.symm)]
theorem a5l{α β:Type}(f:α→β)(l:List α)(i:Nat)(d:α)(e:β)(hi:i<l.length):(l.map f).getD i e=f (l.getD i d):=by
 simp[bn,hi]
section
variable{P:Program}(A:Pr4 P)
theorem ayc(e:Edt)(t:Tr)(hl:t.ns.length≤2^20)(a1c:∀n∈t.ns,n.ins.length≤2^30){k:Nat}(hk:k<t.ns.length)(hI:Af t e.n=(k:Int))(hJ:Af t e.t= -1){m:Mem}{u B0 b:Nat}{cs:List C}(hT:B5 m B0 t cs)(x7:m.bm u=some (.loc cs))(huB:u<B0)(hB:B0+96+64*t.ns.length+64≤b)(j1:qb m b):
  ∃m',nj P A.lh m [.dv u (m.ver u) 0,.d (.agg (l9 e))] m' (.d (.int .i64 0))∧B5 m' B0 (Pd t e k) cs∧(∀i,i<B0→m'.bm i=m.bm i)∧m'.ver=m.ver∧m'.mp=m.mp∧qb m' b:=by
 have r4:=fun(x y:D) (hx:Wk x (ix t.ps)) (hy:Wk y (jj t.ns))=>Gv A.toPr (ps:=t.ps) (ns:=t.ns) e.n (by omega) hx hy
 have Px:=fun(x y:D) (hx:Wk x (ix t.ps)) (hy:Wk y (jj t.ns))=>Gv A.toPr (ps:=t.ps) (ns:=t.ns) e.t (by omega) hx hy
 rw[show(⟨t.ps,t.ns⟩:Tr)=t from rfl,hI]at r4;rw[show(⟨t.ps,t.ns⟩:Tr)=t from rfl,hJ]at Px
 have hk0:¬((k:Int)<0):=by omega
 have hkI:(k:Int)<t.ns.length:=by omega
 have oe:u≠b+3:=by omega
 have key:∀s1:PS,(∀i,i<b→s1.bm i=m.bm i∧s1.ver i=m.ver i)→∃x y,iz s1 cs=some [x,y]∧Wk x (ix t.ps)∧Wk y (jj t.ns):=fun s1 h=>
  B5.data (hT.mono (ar _) fun i h1 h2=>h i (by omega))
 obtain⟨cP,cN,cells,rfl,oP,hC,hN⟩:=hT
 have kg:t.ns≠[]:=fun h=>by rw[h]at hk;simp at hk
 obtain⟨rfl,xp⟩:=(hN.resolve_left fun h=>kg h.1).2
 have hun:u≠B0+51:=by omega
 have hn3:B0+51≠b+3:=by omega
 have hcl:=hC.1;obtain⟨cV,cI,hce,oV,oI⟩:=hC.2 k hk
 have hkc:k<cells.length:=by omega
 have hg:cells[k]? =some [.d (.str (t.ns.getD k n0).n),.d (.int .i64 (t.ns.getD k n0).f.k),cV,.d (jv (t.ns.getD k n0).f.ls),cI]:=by
  rw[←hce];simp[bn,hkc]
 obtain⟨I4,Zu⟩:∃c,c=cells.set k [.d (.str e.t),.d (.int .i64 (t.ns.getD k n0).f.k),cV,.d (jv (t.ns.getD k n0).f.ls),cI]:=⟨_,rfl⟩
 have aCh:I4.length=t.ns.length:=by rw[Zu,Fx];exact hcl
 have hLl:(Qm t.ns k e.t).length=t.ns.length:=by simp[Qm]
 have hC2:Ko m (B0+32) (Qm t.ns k e.t) I4:=by
  refine⟨by rw[Zu,Fx,hLl];exact hcl,fun i hi=>?_⟩
  rw[hLl]at hi;unfold Qm;rw[Zu,a5k _ _ _ _ _ hk,a5k _ _ _ _ _ hkc];by_cases hik:i=k
  ·subst hik
   rw[if_pos rfl,if_pos rfl];exact⟨cV,cI,rfl,oV,oI⟩
  ·rw[if_neg hik,if_neg hik]
   exact hC.2 i hi
 have azb:∀n∈Qm t.ns k e.t,n.ins.length≤2^30:=by
  intro n hn;rcases aAq hn with h|rfl
  ·exact a1c n h
  ·refine a1c (t.ns.getD k n0) ?_
   have:t.ns.getD k n0=t.ns[k]:=by simp[bn,hk]
   rw[this];exact bz _
 have hRR:Pd t e k=⟨t.ps,(Qm t.ns k e.t).map (aac e.n e.t)⟩:=rfl
 generalize hL:Qm t.ns k e.t=L at*
 obtain⟨bk,hbk⟩:∃f,f=jf (N1 m (B0+32) 35 (inR I4) (inB e.n e.t L) L.length) (B0+51) (some (.ny 5 I4)):=⟨_,rfl⟩
 have bkn:bk (B0+51)=some (.ny 5 I4):=by rw[hbk,bh]
 have bko:∀i,i≠B0+51→bk i=N1 m (B0+32) 35 (inR I4) (inB e.n e.t L) L.length i:=fun i hi=>by rw[hbk,er _ _ _ _ hi]
 have bkb:∀i,b≤i→bk i=none:=fun i hi=>by
  rw[bko i (by omega),Dr fun q hq=>by omega]
  exact(j1 i hi).1
 have Ci:∀s2:PS,Ym m e b (B0+32) (B0+51) L I4 L.length s2→Clean s2.mem ⟨bk,m.ver,m.mp⟩:=by
  rintro s2 ⟨eb,f3,b3,f39,f40,emp,lk,xy,hblk⟩
  refine rp (b:=b) (fun i hi=>⟨?_,(lk i hi).symm,by show m.mp i=s2.mp i;rw[emp]⟩) (fun i hi=>⟨.inl (bkb i hi),(j1 i hi).2⟩)
  show bk i=s2.bm i;by_cases h:i=B0+51
  ·subst h;rw[bkn,xy]
  ·rw[bko i h,hblk i hi h]
 refine⟨⟨bk,m.ver,m.mp⟩,jt A.mo A.Dz (by simp) b (fun c=>?_) (fun i=>ar _) (fun i b' ow=>?_) (fun i es hi=> .inl hi) trivial,⟨cP,_,I4,rfl,oP.mono ?_ rfl,⟨by rw[hRR,ae];exact hC2.1,fun i hi=>?_⟩,.inr ⟨?_,by rw[hRR,ae,hLl],bkn⟩⟩,fun i hi=>?_,rfl,rfl,fun i hi=>⟨bkb i hi,(j1 i hi).2⟩⟩
 ·show jd P (qo A.ja) (u0 m [.tmp 4] _ _) _
  rcases oP with ⟨e1,rfl⟩|⟨rfl,Ad⟩<;>
  ·simp only[qo,enter,l9,go_sem,aa,ab,ag,reduceCtorEq,ax,x7,oe]
   refine Am (key _ fun i hi=>?_) r4 rfl ?_
   ·simp only[al]
    rw[if_neg (by omega),if_neg (by omega)]
    exact⟨rfl,rfl⟩
   simp only[go_sem,aa,ab,ag,reduceCtorEq,ax,x7,oe,hk0]
   refine Am (key _ fun i hi=>?_) Px rfl ?_
   ·simp only[al]
    rw[if_neg (by omega),if_neg (by omega)]
    exact⟨rfl,rfl⟩
   simp only[go_sem,aa,df,bc,ab,ag,reduceCtorEq,ax,x7,oe,hun,hn3,xp,hkI,hg,hcl,toNat_cast,aj,Cu,←Zu,aCh]
   refine rv (fun s2=>Ym m e b (B0+32) (B0+51) L I4 L.length s2) ?_ ?_
   ·refine dq L.length (fun j s2=>Ym m e b (B0+32) (B0+51) L I4 j s2∧s2.tmp 41= .d (.int .i64 j)) ?_ ?_
    ·have h3b:(b+3=B0+51)=False:=by simp;omega
     refine⟨⟨rfl,?_,?_,?_,?_,rfl,fun i hi=>?_,?_,fun i hi Yy=>?_⟩,?_⟩
     ·simp only[al,aa,if_false,if_true]
     ·simp only[al,h3b,if_false,if_true,l9,cu,ez]
     ·simp only[al,aa,if_false,if_true,hLl]
     ·simp only[al,aa,if_false,if_true,hLl]
     ·simp only[al]
      rw[if_neg (by omega)]
     ·simp only[al,if_true]
     ·simp only[al]
      rw[if_neg Yy,if_neg (by omega)]
      rfl
     ·simp only[al,aa,if_false,if_true]
      rfl
    ·rintro j s2 hj ⟨hR,h41⟩
     exact are hC2 (by rw[hLl];exact hl) azb (by rw[hLl];omega) (by omega) _ j s2 hj hR h41 fun s3 h3=>h3
   ·intro s2 h2
    simp only[go_sem,nh,qa];exact Ci s2 h2
 ·replace ow:bk i=some b':=ow
  by_cases h:i=B0+51
  ·subst h
   rw[bkn]at ow
   injection ow with ow
   subst ow
   refine .inr fun e2 he2=>?_
   obtain⟨q,hq,rfl⟩:=fj.1 he2
   have:=(hC2.2 q (by rw[←hC2.1];exact hq)).wf
   have e1:I4.getD q []=I4[q]:=by simp[bn,hq]
   rw[e1]at this;intro c hc;have h2:=this c hc;cases c<;>exact h2
  ·rw[bko i h]at ow
   rcases a0g (m:=m) (B:=B0+32) (off:=35) (isR:=inR I4) (bo:=inB e.n e.t L) (i:=i) (j:=L.length)with h2|⟨q,h2⟩
   ·exact .inl (by rw[←h2];exact ow)
   ·rw[h2]at ow
    injection ow with ow
    subst ow;exact .inr trivial
 ·show bk _=_
  rw[bko _ (by omega),Dr fun q hq=>by omega]
 ·rw[hRR,ae]at hi
  have hi2:i<t.ns.length:=by rw[←hLl];exact hi
  rw[hRR];rw[a5l (aac e.n e.t) L i n0 n0 hi];obtain⟨cV2,cI2,h1,h2,h3⟩:=hC2.2 i hi;refine⟨cV2,cI2,h1,h2.mono ?_ rfl,?_⟩
  ·show bk _=_
   rw[bko _ (by omega),Dr fun q hq=>by omega]
  ·have hiR:inR I4 i=isRef cI2:=by unfold inR;rw[h1];rfl
   have hat:bk (B0+32+64+64*i+35)=_:=(bko _ (by omega)).trans (agr hi)
   rw[hiR]at hat;rcases h3 with ⟨g1,rfl⟩|⟨rfl,g2⟩
   ·refine .inl ⟨?_,rfl⟩
    have:(L.getD i n0).ins=[]:=dg.1 g1;show aGz sv ((L.getD i n0).ins.map _)=[];rw[this];rfl
   ·refine .inr ⟨?_,?_⟩
    ·show C.ref _ (m.ver _) _=C.ref _ (m.ver _) _
     simp[aac]
    ·show bk _=_
     rw[hat];rfl
 ·intro h
  have h2:=congrArg Cq h;rw[hRR,ae,hLl]at h2;simp only[dh]at h2;omega
 ·show bk i=_
  rw[bko _ (by omega),Dr fun q hq=>by omega]
end
def Wc:cn:=
     (.seq (
     .region [⟨some 41,.bin .lss (.t 40) (.t 39),none,[]⟩] false []) (
     (.seq (
      (.cond (.t 41) (
      .skip) (
      .exit 1))) (
      (.seq (
      (.block 2 (
       (.seq (
       .region [⟨some 42,.te 5 (.t 38) (.t 40),none,[]⟩,
        ⟨some 43,.load 5 true (.t 42),none,[]⟩,
        ⟨some 7,.alloc [(.str ⟨#[]⟩),(.int .i64 0),.bd,.bd,.bd],none,[]⟩,
        ⟨none,.store 5 (.t 7) (.t 43),none,[]⟩] false []) (
       (.seq (
        .region [⟨some 44,.xj 1 (.t 7),none,[]⟩,
         ⟨some 45,.xj 1 (.t 44),none,[]⟩,
         ⟨some 46,.load 1 false (.t 45),none,[]⟩,
         ⟨some 47,.len .dt (.t 46),none,[]⟩,
         ⟨some 48,.ij (.c (.int .i64 0)),none,[]⟩] false []) (
        (.block 3 (
        (.loop (
         (.seq (
         .region [⟨some 49,.bin .lss (.t 48) (.t 47),none,[]⟩] false []) (
         (.seq (
          (.cond (.t 49) (
          .skip) (
          .exit 3))) (
          (.seq (
          (.block 4 (
           (.seq (
           .region [⟨some 50,.ij (.t 48),none,[]⟩,
            ⟨some 8,.ij (.t 50),none,[]⟩] false []) (
           (.seq (
            .region [⟨some 51,.xj 1 (.t 7),none,[]⟩,
             ⟨some 52,.xj 1 (.t 51),none,[]⟩,
             ⟨some 53,.load 1 false (.t 52),none,[]⟩,
             ⟨some 54,.ij (.t 8),none,[]⟩,
             ⟨some 55,.te 3 (.t 53) (.t 54),none,[]⟩,
             ⟨some 56,.xj 0 (.t 55),none,[]⟩,
             ⟨some 57,.load 1 false (.t 56),none,[]⟩,
             ⟨some 58,.xj 1 (.t 3),none,[]⟩,
             ⟨some 59,.load 1 false (.t 58),none,[]⟩,
             ⟨some 60,.bin .eql (.t 57) (.t 59),none,[]⟩] true []) (
            (.cond (.t 60) (
            .region [⟨some 61,.xj 1 (.t 7),none,[]⟩,
             ⟨some 62,.xj 1 (.t 61),none,[]⟩,
             ⟨some 63,.load 1 false (.t 62),none,[]⟩,
             ⟨some 64,.ij (.t 8),none,[]⟩,
             ⟨some 65,.xj 2 (.t 3),none,[]⟩,
             ⟨some 66,.load 1 false (.t 65),none,[]⟩,
             ⟨some 67,.te 3 (.t 63) (.t 64),none,[]⟩,
             ⟨some 68,.xj 0 (.t 67),none,[]⟩,
             ⟨none,.store 1 (.t 68) (.t 66),none,[]⟩] false []) (
            .skip))))))))) (
          .region [⟨some 69,.bin .add (.t 48) (.c (.int .i64 1)),none,[]⟩,
           ⟨some 48,.ij (.t 69),none,[]⟩] false []))))))))))))))))) (
      .region [⟨some 70,.bin .add (.t 40) (.c (.int .i64 1)),none,[]⟩,
       ⟨some 40,.ij (.t 70),none,[]⟩] false []))))))
def rpV(o n:ByteArray)(v:Vl):Vl:=if jh v.n o then⟨n,v.t,v.a⟩else v
def aab(o n:ByteArray)(x:Nd):Nd:=⟨x.n,⟨x.f.k,x.f.vs.map (rpV o n),x.f.ls⟩,x.ins⟩
def vlR(cells:List (List C))(k:Nat):Bool:=isRef ((cells.getD k []).getD 2 (.d .bd))
def vlB(o n:ByteArray)(L:List Nd)(k:Nat):B:= .arr 3 ((aab o n (L.getD k n0)).f.vs.map Cn)
def a2s(m:Mem)(e:Edt)(b B nid:Nat)(L:List Nd)(cells:List (List C))(j:Nat)(s':PS):Prop:=
 s'.base=b∧s'.tmp 3= .dv (b+3) (s'.ver (b+3)) 0∧s'.bm (b+3)=some (.loc ((l9 e).map .d))∧s'.tmp 38= .ref nid (m.ver nid) L.length∧s'.tmp 39= .d (.int .i64 L.length)∧s'.mp=m.mp∧(∀i,i<b→s'.ver i=m.ver i)∧
 s'.bm nid=some (.ny 5 cells)∧(∀i,i<b→i≠nid→s'.bm i=N1 m B 45 (vlR cells) (vlB e.n e.t L) j i)
section
variable{P:Program}(A:Pr4 P)
theorem arc{m:Mem}{e:Edt}{b B nid:Nat}{L:List Nd}{cells:List (List C)}(hC:Ko m B L cells)(hl:L.length≤2^20)(a1c:∀n∈L,n.f.vs.length≤2^30)(hB:B+64+64*L.length+64≤b)(aC2:nid<B+64)(Q:Exit→PS→Prop)(j:Nat)(s':PS)(hj:j≤L.length)
  (hR:a2s m e b B nid L cells j s')(hIx:s'.tmp 40= .d (.int .i64 j))(hQ:∀s2,a2s m e b B nid L cells L.length s2→Q (.exit 1) s2):jd P Wc (ak8 L.length j (fun j s2=>a2s m e b B nid L cells j s2∧s2.tmp 40= .d (.int .i64 j)) Q) s':=by
 obtain⟨eb,f3,b3,fA,fB,emp,lk,xy,hblk⟩:=hR
 have xp:nid<b:=by omega
 have hvn:=lk nid xp;have hcl:=hC.1;by_cases iy:(j:Int)<L.length
 ·have cj:j<L.length:=by omega
  have wj:=br ((j:Int)+1) (by omega) (by omega)
  obtain⟨cI,cV,hce,oI,oV⟩:=hC.2 j cj
  have hjc:j<cells.length:=by omega
  have hg:cells[j]? =some [.d (.str (L.getD j n0).n),.d (.int .i64 (L.getD j n0).f.k),cI,.d (jv (L.getD j n0).f.ls),cV]:=by
   rw[←hce];simp[bn,hjc]
  have Yz:L.getD j n0∈L:=by
   have:L.getD j n0=L[j]:=by simp[bn,cj]
   rw[this];exact bz _
  have hli:=a1c _ Yz
  have hiR:vlR cells j=isRef cI:=by unfold vlR;rw[hce];rfl
  have a19:∀i,(i=B+64+64*j+35∨i=B+64+64*j+45)→s'.bm i=m.bm i∧s'.ver i=m.ver i:=fun i hi=>by
   refine⟨?_,lk i (by omega)⟩
   rw[hblk i (by omega) (by omega)]
   exact Dr fun k hk=>by omega
  have hV:=a19 (B+64+64*j+35) (.inl rfl);have hI:=a19 (B+64+64*j+45) (.inr rfl)
  generalize hnn:L.getD j n0=n at*
  have hv7:B+64+64*j+35≠b+7:=by omega
  have hi7:B+64+64*j+45≠b+7:=by omega
  have hi3:B+64+64*j+45≠b+3:=by omega
  have hiB:B+64+64*j+45<b:=by omega
  have hin:B+64+64*j+45≠nid:=by omega
  generalize aBv:B+64+64*j+35=vid at*
  generalize a7w:B+64+64*j+45=iid at*
  simp only[l9,cu,ez]at b3;rcases oV with ⟨e1,rfl⟩|⟨rfl,hvb⟩<;>rcases oI with ⟨e2,rfl⟩|⟨rfl,hib⟩
  ·simp only[Wc,jv,go_sem,aa,ab,ag,reduceCtorEq,eb,fA,fB,hIx,xy,hvn,iy,hg,hcl,toNat_cast,aj]
   refine dq 0 (fun q s2=>a2s m e b B nid L cells (j+1) s2∧s2.tmp 40= .d (.int .i64 j)∧s2.tmp 47= .d (.int .i64 0)∧s2.tmp 48= .d (.int .i64 0)) ?_ ?_
   ·refine⟨⟨rfl,?_,?_,?_,?_,emp,fun i hi=>?_,?_,fun i hi kg=>?_⟩,?_,?_,?_⟩
    ·simp only[al,aa,if_false,f3,dw]
    ·simp only[al,dw,aa,if_false,b3,l9,cu,ez]
    ·simp only[al,aa,if_false,fA]
    ·simp only[al,aa,if_false,fB]
    ·simp only[al]
     rw[if_neg (by omega)]
     exact lk i hi
    ·simp only[al]
     rw[if_neg (by omega),if_neg (by omega)]
     exact xy
    ·simp only[al]
     rw[if_neg (by omega),if_neg (by omega),hblk i hi kg]
     rw[Ei,if_neg (by rw[hiR];simp[isRef])]
    ·simp only[al,aa,if_false,hIx]
    ·simp only[al,aa,if_false,if_true]
    ·simp only[al,aa,if_false,if_true]
   ·rintro q s2 hq ⟨⟨eb,f3,b3,fA,fB,emp,lk,xy,hblk⟩,hIx,h47,h48⟩
    simp only[go_sem,aa,reduceCtorEq,h47,h48,hIx,wj]
    exact⟨cj,⟨eb,f3,b3,fA,fB,emp,lk,xy,hblk⟩,by rw[jz];rfl⟩
  ·simp only[Wc,jv,go_sem,aa,ab,ag,reduceCtorEq,eb,fA,fB,hIx,xy,hvn,iy,hg,hcl,toNat_cast,aj,beq_self_eq_true,ae,hI.1,hI.2,hib,hi7]
   have hC7:∀q:List Vl,q.length=n.f.vs.length→(q.map Cn).length=n.f.vs.length:=fun q h=>by rw[ae];exact h
   refine dq n.f.vs.length (fun q s2=>s2.base=b∧s2.tmp 3= .dv (b+3) (s2.ver (b+3)) 0∧s2.bm (b+3)=some (.loc ((l9 e).map .d))∧s2.tmp 38= .ref nid (m.ver nid) L.length∧s2.tmp 39= .d (.int .i64 L.length)∧s2.mp=m.mp∧(∀i,i<b→s2.ver i=m.ver i)∧
    s2.bm nid=some (.ny 5 cells)∧(∀i,i<b→i≠nid→i≠iid→s2.bm i=N1 m B 45 (vlR cells) (vlB e.n e.t L) j i)∧s2.bm iid=some (.arr 3 (((n.f.vs.take q).map (rpV e.n e.t)++n.f.vs.drop q).map Cn))∧
    s2.tmp 40= .d (.int .i64 j)∧s2.tmp 7= .dv (b+7) (s2.ver (b+7)) 0∧(∃c0 c1 c2 c3,s2.bm (b+7)=some (.loc [c0,c1,.ref iid (m.ver iid) n.f.vs.length,c2,c3]))∧s2.tmp 46= .ref iid (m.ver iid) n.f.vs.length∧s2.tmp 47= .d (.int .i64 n.f.vs.length)∧s2.tmp 48= .d (.int .i64 q)) ?_ ?_
   ·refine⟨rfl,?_,?_,?_,?_,emp,fun i hi=>?_,?_,fun i hi kg Yy=>?_,?_,?_,?_,⟨_,_,_,_,bh _ _ _⟩,?_,?_,?_⟩
    ·simp only[al,aa,if_false,f3,dw]
    ·simp only[al,dw,aa,if_false,b3,l9,cu,ez]
    ·simp only[al,aa,if_false,fA]
    ·simp only[al,aa,if_false,fB]
    ·simp only[al]
     rw[if_neg (by omega)]
     exact lk i hi
    ·simp only[al]
     rw[if_neg (by omega),if_neg (by omega)]
     exact xy
    ·simp only[al]
     rw[if_neg (by omega),if_neg (by omega),hblk i hi kg]
    ·simp only[al,F8,ez,An,a9a]
     rw[if_neg (by omega),if_neg (by omega),hI.1]
     exact hib
    ·simp only[al,aa,if_false,hIx]
    ·simp only[al,aa,if_false,if_true]
    ·simp only[al,aa,if_false,if_true]
    ·simp only[al,aa,if_false,if_true]
    ·simp only[al,aa,if_false,if_true]
     rfl
   ·clear f3 b3 fA fB hIx xy hblk eb lk emp
    rintro q s2 hq ⟨eb,f3,b3,fA,fB,emp,lk,xy,hblk,bi,hIx,f7,⟨c0,c1,c2,c3,b7⟩,h46,h47,h48⟩
    have hvi:=lk iid (by omega)
    by_cases hq2:(q:Int)<n.f.vs.length
    ·have hq3:q<n.f.vs.length:=by omega
     have wq:=br ((q:Int)+1) (by omega) (by omega)
     have hW:=Zr (rpV e.n e.t) n.f.vs hq
     have hgq:(((n.f.vs.take q).map (rpV e.n e.t)++n.f.vs.drop q).map Cn)[q]? =some [.str n.f.vs[q].n,.int .i64 n.f.vs[q].t,.int .i64 n.f.vs[q].a]:=by
      rw[bp,Ws _ _ hq3];rfl
     have Qr:=V5 (rpV e.n e.t) n.f.vs hq3;have hWq:=Ws (rpV e.n e.t) n.f.vs hq3
     generalize hWl:(n.f.vs.take q).map (rpV e.n e.t)++n.f.vs.drop q=W at*
     simp only[l9,cu,ez]at b3;simp only[go_sem,aa,ab,ag,reduceCtorEq,eb,f3,b3,f7,b7,h47,h48,hq2,hvi,bi,hgq,hW,ae,toNat_cast,aj];cases hs:jh n.f.vs[q].n e.n
     ·have Ey:W.set q (rpV e.n e.t n.f.vs[q])=W:=by
       unfold rpV;rw[hs]
       refine a99 fun i=>?_
       rw[pv];split
       ·rename_i h;subst h
        rw[if_pos (by omega),hWq]
        simp
       ·rfl
      unfold jh at hs;simp only[go_sem,aa,reduceCtorEq,f3,b3,fA,fB,hIx,f7,h46,h47,h48,hs,wq]
      refine⟨hq3,rfl,emp,lk,xy,hblk,?_,⟨c0,c1,c2,c3,b7⟩,by rw[jz];rfl⟩
      rw[Qr,Ey];exact bi
     ·have L1:(W.map Cn).set q [.str e.t,.int .i64 n.f.vs[q].t,.int .i64 n.f.vs[q].a]=((n.f.vs.take (q+1)).map (rpV e.n e.t)++n.f.vs.drop (q+1)).map Cn:=by
       rw[Qr,←Gu];unfold rpV;rw[hs];rfl
      unfold jh at hs;simp only[go_sem,aa,ab,ag,reduceCtorEq,f3,b3,fA,fB,hIx,f7,b7,h46,h47,h48,hs,wq,hq2,hvi,bi,hgq,hW,ae,toNat_cast,aj,L1,hin.symm,hi3.symm,hi7.symm]
      refine⟨hq3,rfl,emp,lk,xy,fun i h1 h2 h3=>?_,⟨c0,c1,c2,c3,rfl⟩,by rw[jz];rfl⟩
      rw[if_neg h3];exact hblk i h1 h2 h3
    ·have:q=n.f.vs.length:=by omega
     subst this;rw[eo,Ma,th]at bi;simp only[go_sem,aa,reduceCtorEq,eb,h47,h48,hIx,wj,hq2]
     refine⟨cj,⟨rfl,f3,b3,fA,fB,emp,lk,xy,fun i hi kg=>?_⟩,by rw[jz];rfl⟩
     rw[Ei,if_pos (by rw[hiR];rfl)]
     by_cases hii:i=iid
     ·subst hii
      rw[a7w,bh];rw[bi];unfold vlB aab;rw[hnn]
     ·rw[a7w,er _ _ _ _ hii]
      exact hblk i hi kg hii
  ·simp only[Wc,jv,go_sem,aa,ab,ag,reduceCtorEq,eb,fA,fB,hIx,xy,hvn,iy,hg,hcl,toNat_cast,aj,beq_self_eq_true,ae,hV.1,hV.2,hvb,hv7]
   refine dq 0 (fun q s2=>a2s m e b B nid L cells (j+1) s2∧s2.tmp 40= .d (.int .i64 j)∧s2.tmp 47= .d (.int .i64 0)∧s2.tmp 48= .d (.int .i64 0)) ?_ ?_
   ·refine⟨⟨rfl,?_,?_,?_,?_,emp,fun i hi=>?_,?_,fun i hi kg=>?_⟩,?_,?_,?_⟩
    ·simp only[al,aa,if_false,f3,dw]
    ·simp only[al,dw,aa,if_false,b3,l9,cu,ez]
    ·simp only[al,aa,if_false,fA]
    ·simp only[al,aa,if_false,fB]
    ·simp only[al]
     rw[if_neg (by omega)]
     exact lk i hi
    ·simp only[al]
     rw[if_neg (by omega),if_neg (by omega)]
     exact xy
    ·simp only[al]
     rw[if_neg (by omega),if_neg (by omega),hblk i hi kg]
     rw[Ei,if_neg (by rw[hiR];simp[isRef])]
    ·simp only[al,aa,if_false,hIx]
    ·simp only[al,aa,if_false,if_true]
    ·simp only[al,aa,if_false,if_true]
   ·rintro q s2 hq ⟨⟨eb,f3,b3,fA,fB,emp,lk,xy,hblk⟩,hIx,h47,h48⟩
    simp only[go_sem,aa,reduceCtorEq,h47,h48,hIx,wj]
    exact⟨cj,⟨eb,f3,b3,fA,fB,emp,lk,xy,hblk⟩,by rw[jz];rfl⟩
  ·simp only[Wc,jv,go_sem,aa,ab,ag,reduceCtorEq,eb,fA,fB,hIx,xy,hvn,iy,hg,hcl,toNat_cast,aj,beq_self_eq_true,ae,hV.1,hV.2,hvb,hv7,hI.1,hI.2,hib,hi7]
   have hC7:∀q:List Vl,q.length=n.f.vs.length→(q.map Cn).length=n.f.vs.length:=fun q h=>by rw[ae];exact h
   refine dq n.f.vs.length (fun q s2=>s2.base=b∧s2.tmp 3= .dv (b+3) (s2.ver (b+3)) 0∧s2.bm (b+3)=some (.loc ((l9 e).map .d))∧s2.tmp 38= .ref nid (m.ver nid) L.length∧s2.tmp 39= .d (.int .i64 L.length)∧s2.mp=m.mp∧(∀i,i<b→s2.ver i=m.ver i)∧
    s2.bm nid=some (.ny 5 cells)∧(∀i,i<b→i≠nid→i≠iid→s2.bm i=N1 m B 45 (vlR cells) (vlB e.n e.t L) j i)∧s2.bm iid=some (.arr 3 (((n.f.vs.take q).map (rpV e.n e.t)++n.f.vs.drop q).map Cn))∧
    s2.tmp 40= .d (.int .i64 j)∧s2.tmp 7= .dv (b+7) (s2.ver (b+7)) 0∧(∃c0 c1 c2 c3,s2.bm (b+7)=some (.loc [c0,c1,.ref iid (m.ver iid) n.f.vs.length,c2,c3]))∧s2.tmp 46= .ref iid (m.ver iid) n.f.vs.length∧s2.tmp 47= .d (.int .i64 n.f.vs.length)∧s2.tmp 48= .d (.int .i64 q)) ?_ ?_
   ·refine⟨rfl,?_,?_,?_,?_,emp,fun i hi=>?_,?_,fun i hi kg Yy=>?_,?_,?_,?_,⟨_,_,_,_,bh _ _ _⟩,?_,?_,?_⟩
    ·simp only[al,aa,if_false,f3,dw]
    ·simp only[al,dw,aa,if_false,b3,l9,cu,ez]
    ·simp only[al,aa,if_false,fA]
    ·simp only[al,aa,if_false,fB]
    ·simp only[al]
     rw[if_neg (by omega)]
     exact lk i hi
    ·simp only[al]
     rw[if_neg (by omega),if_neg (by omega)]
     exact xy
    ·simp only[al]
     rw[if_neg (by omega),if_neg (by omega),hblk i hi kg]
    ·simp only[al,F8,ez,An,a9a]
     rw[if_neg (by omega),if_neg (by omega),hI.1]
     exact hib
    ·simp only[al,aa,if_false,hIx]
    ·simp only[al,aa,if_false,if_true]
    ·simp only[al,aa,if_false,if_true]
    ·simp only[al,aa,if_false,if_true]
    ·simp only[al,aa,if_false,if_true]
     rfl
   ·clear f3 b3 fA fB hIx xy hblk eb lk emp
    rintro q s2 hq ⟨eb,f3,b3,fA,fB,emp,lk,xy,hblk,bi,hIx,f7,⟨c0,c1,c2,c3,b7⟩,h46,h47,h48⟩
    have hvi:=lk iid (by omega)
    by_cases hq2:(q:Int)<n.f.vs.length
    ·have hq3:q<n.f.vs.length:=by omega
     have wq:=br ((q:Int)+1) (by omega) (by omega)
     have hW:=Zr (rpV e.n e.t) n.f.vs hq
     have hgq:(((n.f.vs.take q).map (rpV e.n e.t)++n.f.vs.drop q).map Cn)[q]? =some [.str n.f.vs[q].n,.int .i64 n.f.vs[q].t,.int .i64 n.f.vs[q].a]:=by
      rw[bp,Ws _ _ hq3];rfl
     have Qr:=V5 (rpV e.n e.t) n.f.vs hq3;have hWq:=Ws (rpV e.n e.t) n.f.vs hq3
     generalize hWl:(n.f.vs.take q).map (rpV e.n e.t)++n.f.vs.drop q=W at*
     simp only[l9,cu,ez]at b3;simp only[go_sem,aa,ab,ag,reduceCtorEq,eb,f3,b3,f7,b7,h47,h48,hq2,hvi,bi,hgq,hW,ae,toNat_cast,aj];cases hs:jh n.f.vs[q].n e.n
     ·have Ey:W.set q (rpV e.n e.t n.f.vs[q])=W:=by
       unfold rpV;rw[hs]
       refine a99 fun i=>?_
       rw[pv];split
       ·rename_i h;subst h
        rw[if_pos (by omega),hWq]
        simp
       ·rfl
      unfold jh at hs;simp only[go_sem,aa,reduceCtorEq,f3,b3,fA,fB,hIx,f7,h46,h47,h48,hs,wq]
      refine⟨hq3,rfl,emp,lk,xy,hblk,?_,⟨c0,c1,c2,c3,b7⟩,by rw[jz];rfl⟩
      rw[Qr,Ey];exact bi
     ·have L1:(W.map Cn).set q [.str e.t,.int .i64 n.f.vs[q].t,.int .i64 n.f.vs[q].a]=((n.f.vs.take (q+1)).map (rpV e.n e.t)++n.f.vs.drop (q+1)).map Cn:=by
       rw[Qr,←Gu];unfold rpV;rw[hs];rfl
      unfold jh at hs;simp only[go_sem,aa,ab,ag,reduceCtorEq,f3,b3,fA,fB,hIx,f7,b7,h46,h47,h48,hs,wq,hq2,hvi,bi,hgq,hW,ae,toNat_cast,aj,L1,hin.symm,hi3.symm,hi7.symm]
      refine⟨hq3,rfl,emp,lk,xy,fun i h1 h2 h3=>?_,⟨c0,c1,c2,c3,rfl⟩,by rw[jz];rfl⟩
      rw[if_neg h3];exact hblk i h1 h2 h3
    ·have:q=n.f.vs.length:=by omega
     subst this;rw[eo,Ma,th]at bi;simp only[go_sem,aa,reduceCtorEq,eb,h47,h48,hIx,wj,hq2]
     refine⟨cj,⟨rfl,f3,b3,fA,fB,emp,lk,xy,fun i hi kg=>?_⟩,by rw[jz];rfl⟩
     rw[Ei,if_pos (by rw[hiR];rfl)]
     by_cases hii:i=iid
     ·subst hii
      rw[a7w,bh];rw[bi];unfold vlB aab;rw[hnn]
     ·rw[a7w,er _ _ _ _ hii]
      exact hblk i hi kg hii
 ·have:j=L.length:=by omega
  subst this;simp only[Wc,go_sem,reduceCtorEq,eb,fB,hIx,iy]
  exact hQ _ ⟨by simp only[],f3,b3,fA,fB,emp,lk,xy,hblk⟩
end
def V4(ps:List Pm)(k:Nat)(s:ByteArray):List Pm:=ps.set k ⟨s,(ps.getD k p0).v⟩
def Lg(t:Tr)(e:Edt)(k:Nat):Tr:=⟨V4 t.ps k e.t,t.ns.map (aab e.n e.t)⟩
section
variable{P:Program}(A:Pr4 P)
theorem arb(e:Edt)(t:Tr)(hl:t.ps.length≤2^20)(hI:yk t e.n= -1){m:Mem}{u B0 b:Nat}{cs:List C}(hT:B5 m B0 t cs)(x7:m.bm u=some (.loc cs))(huB:u<B0)(hB:B0+96+64*t.ns.length+64≤b)(j1:qb m b):
  nj P A.kz m [.dv u (m.ver u) 0,.d (.agg (l9 e))] m (.d (.int .i64 4)):=by
 have r4:=fun(x y:D) (hx:Wk x (ix t.ps)) (hy:Wk y (jj t.ns))=>Dm A.toPr (ps:=t.ps) (ns:=t.ns) e.n (by omega) hx hy
 rw[show(⟨t.ps,t.ns⟩:Tr)=t from rfl,hI]at r4
 have oe:u≠b+3:=by omega
 have key:∀s1:PS,(∀i,i<b→s1.bm i=m.bm i∧s1.ver i=m.ver i)→∃x y,iz s1 cs=some [x,y]∧Wk x (ix t.ps)∧Wk y (jj t.ns):=fun s1 h=>
  B5.data (hT.mono (ar _) fun i h1 h2=>h i (by omega))
 refine jt A.mo A.Dc (by simp) b (fun c=>?_) (fun i=>ar _) (fun i b' ow=> .inl ow) (fun i es hi=> .inl hi) trivial
 show jd P (oi A.gq) (u0 m [.tmp 4] _ _) _;obtain⟨cP,cN,cells,rfl,oP,hC,hN⟩:=hT
 rcases oP with ⟨e1,rfl⟩|⟨rfl,Ad⟩<;>rcases hN with ⟨h0,rfl⟩|⟨h0,rfl,xp⟩<;>
 ·simp only[oi,enter,l9,go_sem,aa,ab,ag,reduceCtorEq,ax,x7,oe]
  refine Am (key _ fun i hi=>?_) r4 rfl ?_
  ·simp only[al]
   rw[if_neg (by omega),if_neg (by omega)]
   exact⟨rfl,rfl⟩
  ·simp only[go_sem,aa,bx,bc,reduceCtorEq,PS.mem,ae,nh,qa]
   exact ql j1 (by omega) rfl rfl
theorem avo(e:Edt)(t:Tr)(hl:t.ps.length≤2^20){k q:Nat}(hI:yk t e.n=(k:Int))(hJ:yk t e.t=(q:Int)){m:Mem}{u B0 b:Nat}{cs:List C}(hT:B5 m B0 t cs)(x7:m.bm u=some (.loc cs))(huB:u<B0)(hB:B0+96+64*t.ns.length+64≤b)(j1:qb m b):
  nj P A.kz m [.dv u (m.ver u) 0,.d (.agg (l9 e))] m (.d (.int .i64 7)):=by
 have r4:=fun(x y:D) (hx:Wk x (ix t.ps)) (hy:Wk y (jj t.ns))=>Dm A.toPr (ps:=t.ps) (ns:=t.ns) e.n (by omega) hx hy
 have Px:=fun(x y:D) (hx:Wk x (ix t.ps)) (hy:Wk y (jj t.ns))=>Dm A.toPr (ps:=t.ps) (ns:=t.ns) e.t (by omega) hx hy
 rw[show(⟨t.ps,t.ns⟩:Tr)=t from rfl,hI]at r4;rw[show(⟨t.ps,t.ns⟩:Tr)=t from rfl,hJ]at Px
 have hk0:¬((k:Int)<0):=by omega
 have hq0:(q:Int)≥0:=by omega
 have oe:u≠b+3:=by omega
 have key:∀s1:PS,(∀i,i<b→s1.bm i=m.bm i∧s1.ver i=m.ver i)→∃x y,iz s1 cs=some [x,y]∧Wk x (ix t.ps)∧Wk y (jj t.ns):=fun s1 h=>
  B5.data (hT.mono (ar _) fun i h1 h2=>h i (by omega))
 refine jt A.mo A.Dc (by simp) b (fun c=>?_) (fun i=>ar _) (fun i b' ow=> .inl ow) (fun i es hi=> .inl hi) trivial
 show jd P (oi A.gq) (u0 m [.tmp 4] _ _) _;obtain⟨cP,cN,cells,rfl,oP,hC,hN⟩:=hT
 rcases oP with ⟨e1,rfl⟩|⟨rfl,Ad⟩<;>rcases hN with ⟨h0,rfl⟩|⟨h0,rfl,xp⟩<;>
 ·simp only[oi,enter,l9,go_sem,aa,ab,ag,reduceCtorEq,ax,x7,oe]
  refine Am (key _ fun i hi=>?_) r4 rfl ?_
  ·simp only[al]
   rw[if_neg (by omega),if_neg (by omega)]
   exact⟨rfl,rfl⟩
  simp only[go_sem,aa,ab,ag,reduceCtorEq,ax,x7,oe,hk0]
  refine Am (key _ fun i hi=>?_) Px rfl ?_
  ·simp only[al]
   rw[if_neg (by omega),if_neg (by omega)]
   exact⟨rfl,rfl⟩
  ·simp only[go_sem,aa,reduceCtorEq,PS.mem,ae,nh,qa,hq0]
   exact ql j1 (by omega) rfl rfl
theorem ayb(e:Edt)(t:Tr)(hlp:t.ps.length≤2^20)(hl:t.ns.length≤2^20)(a1c:∀n∈t.ns,n.f.vs.length≤2^30){k:Nat}(hk:k<t.ps.length)(hI:yk t e.n=(k:Int))(hJ:yk t e.t= -1){m:Mem}{u B0 b:Nat}{cs:List C}(hT:B5 m B0 t cs)(x7:m.bm u=some (.loc cs))(huB:u<B0)(hB:B0+96+64*t.ns.length+64≤b)(j1:qb m b):
  ∃m',nj P A.kz m [.dv u (m.ver u) 0,.d (.agg (l9 e))] m' (.d (.int .i64 0))∧B5 m' B0 (Lg t e k) cs∧(∀i,i<B0→m'.bm i=m.bm i)∧m'.ver=m.ver∧m'.mp=m.mp∧qb m' b:=by
 have r4:=fun(x y:D) (hx:Wk x (ix t.ps)) (hy:Wk y (jj t.ns))=>Dm A.toPr (ps:=t.ps) (ns:=t.ns) e.n (by omega) hx hy
 have Px:=fun(x y:D) (hx:Wk x (ix t.ps)) (hy:Wk y (jj t.ns))=>Dm A.toPr (ps:=t.ps) (ns:=t.ns) e.t (by omega) hx hy
 rw[show(⟨t.ps,t.ns⟩:Tr)=t from rfl,hI]at r4;rw[show(⟨t.ps,t.ns⟩:Tr)=t from rfl,hJ]at Px
 have hk0:¬((k:Int)<0):=by omega
 have hkI:(k:Int)<t.ps.length:=by omega
 have oe:u≠b+3:=by omega
 have key:∀s1:PS,(∀i,i<b→s1.bm i=m.bm i∧s1.ver i=m.ver i)→∃x y,iz s1 cs=some [x,y]∧Wk x (ix t.ps)∧Wk y (jj t.ns):=fun s1 h=>
  B5.data (hT.mono (ar _) fun i h1 h2=>h i (by omega))
 obtain⟨cP,cN,cells,rfl,oP,hC,hN⟩:=hT
 have ao7:t.ps.map pn≠[]:=fun h=>by have:=congrArg Cq h;simp at this;rw[this]at hk;simp at hk
 obtain⟨rfl,Ad⟩:=oP.ref ao7
 have hup:u≠B0+15:=by omega
 have hp3:B0+15≠b+3:=by omega
 have hcl:=hC.1;have hg:=aco hk
 have L1:(t.ps.map pn).set k [.str e.t,.int .i64 (t.ps.getD k p0).v]=(V4 t.ps k e.t).map pn:=by
  unfold V4;rw[←Gu];rfl
 have hPl:(V4 t.ps k e.t).length=t.ps.length:=by simp[V4]
 obtain⟨m1,hm1⟩:∃m1,m1=m.put (B0+15) (m.ver (B0+15)) (.arr 2 ((V4 t.ps k e.t).map pn)):=⟨_,rfl⟩
 have m1v:m1.ver=m.ver:=by
  rw[hm1];funext i;simp only[Mem.put,al];split
  ·rename_i h;rw[h]
  ·rfl
 have m1p:m1.mp=m.mp:=by rw[hm1];rfl
 have m1b:∀i,i≠B0+15→m1.bm i=m.bm i:=fun i hi=>by rw[hm1];exact er _ _ _ _ hi
 have m1P:m1.bm (B0+15)=some (.arr 2 ((V4 t.ps k e.t).map pn)):=by rw[hm1];exact bh _ _ _
 have hC2:Ko m1 (B0+32) t.ns cells:=⟨hC.1,fun i hi=>(hC.2 i hi).mono (m1b _ (by omega)) (by rw[m1v]) (m1b _ (by omega)) (by rw[m1v])⟩
 obtain⟨bk,hbk⟩:∃f,f=N1 m1 (B0+32) 45 (vlR cells) (vlB e.n e.t t.ns) t.ns.length:=⟨_,rfl⟩
 have bko:∀i,(∀q,q<t.ns.length→i≠B0+32+64+64*q+45)→bk i=m1.bm i:=fun i hi=>by rw[hbk];exact Dr hi
 have bkb:∀i,b≤i→bk i=none:=fun i hi=>by
  rw[bko i fun q hq=>by omega,m1b i (by omega)]
  exact(j1 i hi).1
 have Ci:∀s2:PS,s2.mp=m.mp→(∀i,i<b→s2.ver i=m.ver i)→(∀i,i<b→s2.bm i=bk i)→Clean s2.mem ⟨bk,m.ver,m.mp⟩:=by
  intro s2 emp lk hblk
  refine rp (b:=b) (fun i hi=>⟨(hblk i hi).symm,(lk i hi).symm,by show m.mp i=s2.mp i;rw[emp]⟩) (fun i hi=>⟨.inl (bkb i hi),(j1 i hi).2⟩)
 have hRR:Lg t e k=⟨V4 t.ps k e.t,t.ns.map (aab e.n e.t)⟩:=rfl
 refine⟨⟨bk,m.ver,m.mp⟩,jt A.mo A.Dc (by simp) b (fun c=>?_) (fun i=>ar _) (fun i b' ow=>?_) (fun i es hi=> .inl hi) trivial,⟨_,cN,cells,rfl,.inr ⟨by rw[hRR,ae,ae,hPl],?_⟩,⟨by rw[hRR,ae];exact hC.1,fun i hi=>?_⟩,?_⟩,fun i hi=>?_,rfl,rfl,fun i hi=>⟨bkb i hi,(j1 i hi).2⟩⟩
 ·show jd P (oi A.gq) (u0 m [.tmp 4] _ _) _
  rcases hN with ⟨h0,rfl⟩|⟨h0,rfl,xp⟩
  ·simp only[oi,enter,l9,go_sem,aa,ab,ag,reduceCtorEq,ax,x7,oe]
   refine Am (key _ fun i hi=>?_) r4 rfl ?_
   ·simp only[al]
    rw[if_neg (by omega),if_neg (by omega)]
    exact⟨rfl,rfl⟩
   simp only[go_sem,aa,ab,ag,reduceCtorEq,ax,x7,oe,hk0]
   refine Am (key _ fun i hi=>?_) Px rfl ?_
   ·simp only[al]
    rw[if_neg (by omega),if_neg (by omega)]
    exact⟨rfl,rfl⟩
   simp only[go_sem,aa,df,bc,ab,ag,reduceCtorEq,ax,x7,oe,hup,hp3,Ad,hkI,hg,toNat_cast,aj,ae,L1]
   refine dq 0 (fun j s2=>s2.mp=m.mp∧(∀i,i<b→s2.ver i=m.ver i)∧(∀i,i<b→s2.bm i=bk i)∧s2.tmp 39= .d (.int .i64 0)∧s2.tmp 40= .d (.int .i64 0)) ?_ ?_
   ·refine⟨rfl,fun i hi=>?_,fun i hi=>?_,?_,?_⟩
    ·simp only[al]
     rw[if_neg (by omega)]
    ·rw[bko i fun q hq=>by rw[h0]at hq;exact absurd hq (by simp)]
     simp only[al,hm1,Mem.put];split
     ·rfl
     ·rw[if_neg (by omega)]
    ·simp only[al,aa,if_false,if_true]
    ·simp only[al,aa,if_false,if_true]
   ·rintro j s2 hj ⟨emp,lk,hblk,h39,h40⟩
    simp only[go_sem,aa,reduceCtorEq,h39,h40,nh,qa];exact Ci _ emp lk hblk
  ·have hn3:B0+51≠b+3:=by omega
   simp only[oi,enter,l9,go_sem,aa,ab,ag,reduceCtorEq,ax,x7,oe]
   refine Am (key _ fun i hi=>?_) r4 rfl ?_
   ·simp only[al]
    rw[if_neg (by omega),if_neg (by omega)]
    exact⟨rfl,rfl⟩
   simp only[go_sem,aa,ab,ag,reduceCtorEq,ax,x7,oe,hk0]
   refine Am (key _ fun i hi=>?_) Px rfl ?_
   ·simp only[al]
    rw[if_neg (by omega),if_neg (by omega)]
    exact⟨rfl,rfl⟩
   simp only[go_sem,aa,df,bc,ab,ag,reduceCtorEq,ax,ae,x7,oe,hup,hp3,Ad,xp,hn3,hcl,hkI,hg,toNat_cast,aj,ae,L1]
   refine rv (fun s2=>a2s m1 e b (B0+32) (B0+51) t.ns cells t.ns.length s2) ?_ ?_
   ·refine dq t.ns.length (fun j s2=>a2s m1 e b (B0+32) (B0+51) t.ns cells j s2∧s2.tmp 40= .d (.int .i64 j)) ?_ ?_
    ·have h3b:(b+3=B0+15)=False:=by simp;omega
     refine⟨⟨rfl,?_,?_,?_,?_,m1p.symm,fun i hi=>?_,?_,fun i hi Yy=>?_⟩,?_⟩
     ·simp only[al,aa,if_false,if_true]
     ·simp only[al,h3b,if_false,if_true,l9,cu,ez]
     ·simp only[al,aa,if_false,if_true,m1v]
     ·simp only[al,aa,if_false,if_true]
     ·simp only[al,m1v]
      rw[if_neg (by omega)]
     ·simp only[al]
      rw[if_neg (by omega),if_neg (by omega)]
      exact xp
     ·simp only[al,N1,hm1,Mem.put]
      split
      ·rfl
      ·rw[if_neg (by omega)]
     ·simp only[al,aa,if_false,if_true]
      rfl
    ·rintro j s2 hj ⟨hR,h41⟩
     exact arc hC2 hl a1c (by omega) (by omega) _ j s2 hj hR h41 fun s3 h3=>h3
   ·rintro s2 ⟨eb,f3,b3,fA,fB,emp,lk,xy,hblk⟩
    simp only[go_sem,nh,qa]
    refine Ci _ (by rw[←m1p];exact emp) (fun i hi=>by rw[←m1v];exact lk i hi) fun i hi=>?_
    by_cases h:i=B0+51
    ·subst h
     show s2.bm _=_
     rw[xy,bko _ fun q hq=>by omega,m1b _ (by omega),xp]
    ·show s2.bm _=_
     rw[hblk i hi h,hbk]
 ·replace ow:bk i=some b':=ow
  rw[hbk]at ow;rcases a0g (m:=m1) (B:=B0+32) (off:=45) (isR:=vlR cells) (bo:=vlB e.n e.t t.ns) (i:=i) (j:=t.ns.length)with h2|⟨q,h2⟩
  ·rw[h2]at ow
   by_cases h:i=B0+15
   ·subst h
    rw[m1P]at ow
    injection ow with ow
    subst ow;exact .inr trivial
   ·exact .inl (by rw[←m1b i h];exact ow)
  ·rw[h2]at ow
   injection ow with ow
   subst ow;exact .inr trivial
 ·show bk _=_
  rw[bko _ fun q hq=>by omega]
  exact m1P
 ·rw[hRR,ae]at hi
  rw[hRR];rw[a5l (aab e.n e.t) t.ns i n0 n0 hi];obtain⟨cV2,cI2,h1,h3,h2⟩:=hC.2 i hi;refine⟨cV2,cI2,h1,?_,h2.mono ?_ rfl⟩
  ·have hiR:vlR cells i=isRef cV2:=by unfold vlR;rw[h1];rfl
   have hat:bk (B0+32+64+64*i+45)=_:=(congrFun hbk _).trans (agr hi);rw[hiR]at hat;rcases h3 with ⟨g1,rfl⟩|⟨rfl,g2⟩
   ·refine .inl ⟨?_,rfl⟩
    have:(t.ns.getD i n0).f.vs=[]:=dg.1 g1;show aGz Cn ((t.ns.getD i n0).f.vs.map _)=[];rw[this];rfl
   ·refine .inr ⟨?_,?_⟩
    ·show C.ref _ (m.ver _) _=C.ref _ (m.ver _) _
     simp[aab]
    ·show bk _=_
     rw[hat];rfl
  ·show bk _=_
   rw[bko _ fun q hq=>by omega]
   exact m1b _ (by omega)
 ·rcases hN with ⟨h0,h1⟩|⟨h0,h1,h2⟩
  ·exact .inl ⟨by rw[hRR,h0];rfl,h1⟩
  ·refine .inr ⟨?_,?_,?_⟩
   ·intro h
    have h3:=congrArg Cq h;rw[hRR,ae]at h3;exact h0 (jb h3)
   ·rw[hRR,ae];exact h1
   ·show bk _=_
    rw[bko _ fun q hq=>by omega,m1b _ (by omega)]
    exact h2
 ·show bk i=_
  rw[bko _ fun q hq=>by omega]
  exact m1b _ (by omega)
end
def byC(a b:ByteArray):Int:=if strLt a b then-1 else if(!(strLt a b||jh a b))then 1 else 0
theorem Zz{a b:ByteArray}:byC a b<0↔strLt a b=true:=by
 unfold byC;split
 ·rename_i h;simp[h]
 ·rename_i h
  constructor
  ·intro h2;split at h2<;>omega
  ·intro h2;exact absurd h2 h
section
variable{α:Type}(key:α→ByteArray)
def sq:List α→α→List α
 |[],x=>[x]
 |y::r,x=>if strLt (key x) (key y)then y::sq r x else x::y::r
def ic(l:List α):List α:=l.foldl (fun acc x=>(sq key acc.reverse x).reverse) []
theorem a13(l:List α)(x:α):(sq key l x).length=l.length+1:=by
 induction l with
 |nil=>rfl
 |cons y r ih=>unfold sq;split<;>simp[ih]
theorem Y8(l:List α)(x:α):(sq key l x).Perm (x::l):=by
 induction l with
 |nil=>exact aFj _
 |cons y r ih=>
  unfold sq;split
  ·exact(ih.cons y).trans (List.Perm.swap x y r)
  ·exact aFj _
theorem Cg(l:List α)(x:α):ic key (l++[x])=(sq key (ic key l).reverse x).reverse:=by
 unfold ic;rw[pw];rfl
theorem x6(l:List α):(ic key l).length=l.length:=by
 have:∀r:List α,(ic key r.reverse).length=r.length:=by
  intro r
  induction r with
  |nil=>rfl
  |cons x r ih=>rw[qm,Cg,Mw,a13,Mw,ih];rfl
 have h:=this l.reverse
 rwa[Cp,Mw]at h
theorem a0y(l:List α):(ic key l).Perm l:=by
 have:∀r:List α,(ic key r.reverse).Perm r.reverse:=by
  intro r
  induction r with
  |nil=>exact aFj _
  |cons x r ih=>
   rw[qm,Cg];refine(List.reverse_perm _).trans ((Y8 key _ x).trans ?_);refine((List.reverse_perm _).trans ih).cons x|>.trans ?_;exact(List.perm_append_singleton x r.reverse).symm
 have h:=this l.reverse
 rwa[Cp]at h
end
def ab7(sz:Nat):cn:=
 (.seq (
 .region [⟨some 10,.ij (.t 1),none,[]⟩,
  ⟨some 11,.bin .add (.t 10) (.c (.int .i64 1)),none,[]⟩,
  ⟨some 8,.ij (.t 11),none,[]⟩] false []) (
 (.block 0 (
  (.loop (
  (.seq (
   (.seq (
   .region [⟨some 12,.ij (.t 8),none,[]⟩,
    ⟨some 13,.ij (.t 2),none,[]⟩,
    ⟨some 14,.bin .lss (.t 12) (.t 13),none,[]⟩] false []) (
   (.cond (.t 14) (
    .skip) (
    .exit 0))))) (
   (.seq (
   (.block 1 (
    (.seq (
    .region [⟨some 17,.ij (.t 8),none,[]⟩,
     ⟨some 9,.ij (.t 17),none,[]⟩] false []) (
    (.block 2 (
     (.loop (
     (.seq (
      (.seq (
      .region [⟨some 18,.ij (.t 9),none,[]⟩,
       ⟨some 19,.ij (.t 1),none,[]⟩,
       ⟨some 20,.bin .gtr (.t 18) (.t 19),none,[]⟩,
       ⟨some 21,.ij (.t 20),none,[]⟩,
       ⟨some 22,.ij (.t 3),some (21,true),[]⟩,
       ⟨some 23,.ij (.t 0),some (21,true),[]⟩,
       ⟨some 24,.ij (.t 9),some (21,true),[]⟩,
       ⟨some 25,.te sz (.t 23) (.t 24),some (21,true),[]⟩,
       ⟨some 26,.load sz true (.t 25),some (21,true),[]⟩,
       ⟨some 27,.ij (.t 0),some (21,true),[]⟩,
       ⟨some 28,.ij (.t 9),some (21,true),[]⟩,
       ⟨some 29,.bin .sub (.t 28) (.c (.int .i64 1)),some (21,true),[]⟩,
       ⟨some 30,.te sz (.t 27) (.t 29),some (21,true),[]⟩,
       ⟨some 31,.load sz true (.t 30),some (21,true),[]⟩,
       ⟨some 32,.vb (.t 22) [(.t 26),(.t 31)],some (21,true),[]⟩,
       ⟨some 33,.bin .lss (.t 32) (.c (.int .i64 0)),some (21,true),[]⟩,
       ⟨some 34,.pick (.t 21) (.t 33) (.c (.bool false)),none,[]⟩] true []) (
      (.cond (.t 34) (
       .skip) (
       .exit 2))))) (
      (.seq (
      (.block 3 (
       .region [⟨some 37,.ij (.t 0),none,[]⟩,
        ⟨some 38,.ij (.t 9),none,[]⟩,
        ⟨some 39,.ij (.t 0),none,[]⟩,
        ⟨some 40,.ij (.t 9),none,[]⟩,
        ⟨some 41,.bin .sub (.t 40) (.c (.int .i64 1)),none,[]⟩,
        ⟨some 42,.ij (.t 0),none,[]⟩,
        ⟨some 43,.ij (.t 9),none,[]⟩,
        ⟨some 44,.bin .sub (.t 43) (.c (.int .i64 1)),none,[]⟩,
        ⟨some 45,.te sz (.t 42) (.t 44),none,[]⟩,
        ⟨some 46,.load sz true (.t 45),none,[]⟩,
        ⟨some 47,.ij (.t 0),none,[]⟩,
        ⟨some 48,.ij (.t 9),none,[]⟩,
        ⟨some 49,.te sz (.t 47) (.t 48),none,[]⟩,
        ⟨some 50,.load sz true (.t 49),none,[]⟩,
        ⟨some 51,.te sz (.t 37) (.t 38),none,[]⟩,
        ⟨none,.store sz (.t 51) (.t 46),none,[]⟩,
        ⟨some 52,.te sz (.t 39) (.t 41),none,[]⟩,
        ⟨none,.store sz (.t 52) (.t 50),none,[]⟩] true []))) (
      .region [⟨some 35,.ij (.t 9),none,[]⟩,
       ⟨some 36,.bin .sub (.t 35) (.c (.int .i64 1)),none,[]⟩,
       ⟨some 9,.ij (.t 36),none,[]⟩] false []))))))))))))) (
   .region [⟨some 15,.ij (.t 8),none,[]⟩,
    ⟨some 16,.bin .add (.t 15) (.c (.int .i64 1)),none,[]⟩,
    ⟨some 8,.ij (.t 16),none,[]⟩] false []))))))))))
def aur(i:Nat)(M:PS→Prop)(Q:Exit→PS→Prop):Exit→PS→Prop
 | .exit j,s=>if j=i then M s else Q (.exit j) s
 |e,s=>Q e s
theorem a1s{i j:Nat}{M:PS→Prop}{Q:Exit→PS→Prop}{s:PS}:aur i M Q (.exit j) s=if j=i then M s else Q (.exit j) s:=rfl
theorem Wh{P:Program}{c:cn}{i:Nat}{Q:Exit→PS→Prop}{s:PS}(M:PS→Prop)(h1:jd P c (aur i M Q) s)(h2:∀s',M s'→Q (.exit i) s'):jd P c Q s:=
 Dn (fun e s' h=>by
  cases e with
  |exit j=>
   rw[a1s]at h;split at h
   ·rename_i hj;subst hj;exact h2 s' h
   ·exact h
  |_=>exact h) h1
attribute [go_sem] a1s
def acu{α:Type}(m:Mem)(b id q sz g:Nat)(ce:α→List D)(n:Nat)(a b':Nat)(W:List α)(s':PS):Prop:=
 s'.base=b∧s'.tmp 0= .ref id (m.ver id) n∧s'.tmp 1= .d (.int .i64 a)∧s'.tmp 2= .d (.int .i64 b')∧s'.tmp 3= .mb g [(q,m.ver q)]∧s'.ver=m.ver∧s'.mp=m.mp∧s'.bm=jf m.bm id (some (.arr sz (W.map ce)))
theorem Y0{P:Program}{K:PS→Prop}{s:PS}{r:List RI}{d:Option Nat}{g:Nat}{caps:List D}{own:Bool}{a b x:D}(h2:fp P g (a::b::caps) x)(hx:x.flat=true)(h4:jn P r (s.put d (.d x)) K):Dd P g [.d a,.d b] caps own d s (xd P r K):=⟨[a,b],x,rfl,h2,.inl hx,h4⟩
theorem a9m{α:Type}(F R:List α)(x y:α):((F++y::x::R).set (F.length+1) y).set F.length x=F++x::y::R:=by
 rw[a2x _ _ (by omega)]
 simp only[aDq,List.set_cons_succ,List.set_cons_zero]
 rw[a2x _ _ (by omega),Ms]
 rfl
theorem at0{α β:Type}(f:α→β)(F R:List α)(x y:α):((F++y::x::R).map f)[F.length]? =some (f y):=by
 rw[bp,jy (ar _),Ms];rfl
theorem at1{α β:Type}(f:α→β)(F R:List α)(x y:α):((F++y::x::R).map f)[F.length+1]? =some (f x):=by
 rw[bp,jy (by omega),aDq]
 rfl
section
variable{P:Program}
theorem asv(hm:P.follows .mixedOrders=true){f:Nat}{sz:Nat}(hf:dj P f {}=some (ab7 sz,[],53)){α:Type}{ce:α→List D}{key:α→ByteArray}(C3:∀x,(ce x).length=sz)(Ac:∀x,(ce x).all D.one=true){g q qv:Nat}{X:D}
  (abf:∀x y,fp P g [.agg (ce x),.agg (ce y),.tz [X] 0] (.int .i64 (byC (key x) (key y)))){m:Mem}{id ver:Nat}{W:List α}{a b':Nat}(hab:a≤b')(ow:b'≤W.length)(hl:W.length≤2^30)(hb:m.bm id=some (.arr sz (W.map ce)))(hv:m.ver id=ver)
  (hq:m.bm q=some (.loc [.d X]))(hqv:m.ver q=qv)(kg:id≠q)(b:Nat):
  nj P f m [.ref id ver W.length,.d (.int .i64 a),.d (.int .i64 b'),.mb g [(q,qv)]] (m.put id ver (.arr sz ((W.take a++ic key ((W.drop a).take (b'-a))++W.drop b').map ce))) (.yi []):=by
 subst hv hqv
 refine jt hm hf (by simp) b (fun c=>?_) (Mem.Ja (ar _)) Mem.Nq (fun i es hi=> .inl hi) (by simp[F5])
 show jd P (ab7 sz) (u0 m [] _ _) _
 have wa:=br ((a:Int)+1) (by omega) (by omega)
 simp only[ab7,enter,go_sem,aa,reduceCtorEq,wa];have aul:(W.map ce).length=W.length:=ae _
 have abe:∀x,(ce x).drop sz=[]:=fun x=>Gp (by rw[C3];exact ar _)
 have awo:∀x y,(ce x).drop (ce y).length=[]:=fun x y=>by rw[C3];exact abe x
 have a16:∀x,(ce x).take sz=ce x:=fun x=>Ab (by rw[C3];exact ar _)
 have zx:∀(s:PS) x,((ce x).map C.d).all (C.one s)=true:=fun s x=>by
  have:=Ac x;rw[ck]at this⊢;intro c hc;obtain⟨d,hd,rfl⟩:=jc.1 hc;exact this d hd
 have Ci:∀(s':PS) W',acu m b id q sz g ce W.length a b' W' s'→W'=W.take a++ic key ((W.drop a).take (b'-a))++W.drop b'→Clean s'.mem (m.put id (m.ver id) (.arr sz ((W.take a++ic key ((W.drop a).take (b'-a))++W.drop b').map ce))):=by
  rintro s' W' ⟨eb,f0,f1,f2,f3,ev,emp,ebl⟩ rfl i;simp only[Mem.put,PS.mem,ev,emp,ebl,al];by_cases hi:i=id
  ·subst hi;simp
  ·simp[hi]
 by_cases aCj:b'=a
 ·subst aCj
  refine dq 0 (fun k s'=>acu m b id q sz g ce W.length b' b' W s'∧s'.tmp 8= .d (.int .i64 ((b':Int)+1))) ?_ ?_
  ·refine⟨⟨rfl,rfl,rfl,rfl,rfl,rfl,rfl,?_⟩,rfl⟩
   funext i
   simp only[al];split
   ·rename_i h;rw[h];exact hb
   ·rfl
  ·rintro k s' hk ⟨hS,f8⟩
   have hS2:=hS;obtain⟨eb,f0,f1,f2,f3,ev,emp,ebl⟩:=hS2
   have hnl:¬((b':Int)+1<b'):=by omega
   simp only[go_sem,aa,reduceCtorEq,f2,f8,hnl,nh,Gw];refine Ci _ W ⟨eb,f0,f1,f2,f3,ev,emp,ebl⟩ ?_;simp[ic]
 ·refine dq (b'-(a+1)) (fun k s'=>acu m b id q sz g ce W.length a b' (W.take a++ic key ((W.drop a).take (k+1))++W.drop (a+1+k)) s'∧s'.tmp 8= .d (.int .i64 ((a+1+k:Nat):Int))) ?_ ?_
  ·refine⟨⟨rfl,rfl,rfl,rfl,rfl,rfl,rfl,?_⟩,?_⟩
   ·funext i
    have:W.take a++ic key ((W.drop a).take 1)++W.drop (a+1)=W:=by
     have e1:(W.drop a).take 1=[W[a]'(by omega)]:=by rw[gd (by omega)];rfl
     rw[e1];show W.take a++[_]++_=_;rw[we]
     show W.take a++(W[a]'(by omega)::W.drop (a+1))=W
     rw[←gd (by omega),Mf]
    simp only[al,eh,xu,this];split
    ·rename_i h;rw[h];exact hb
    ·rfl
   ·simp only[al,if_true]
    rfl
  ·rintro k s' hk ⟨⟨eb,f0,f1,f2,f3,ev,emp,ebl⟩,f8⟩
   by_cases iy:((a+1+k:Nat):Int)<b'
   ·have cj:a+1+k<b':=by omega
    have wk:=br (((a+1+k:Nat):Int)+1) (by omega) (by omega)
    simp only[go_sem,aa,reduceCtorEq,f2,f8,iy]
    obtain⟨x,hx⟩:∃x,x=W[a+1+k]'(by omega):=⟨_,rfl⟩
    have hd:W.drop (a+1+k)=x::W.drop (a+1+k+1):=by rw[hx];exact gd (by omega)
    have htk:(W.drop a).take (k+1+1)=(W.drop a).take (k+1)++[x]:=by
     rw[ey];simp only[lv]
     rw[show a+(k+1)=a+1+k by omega,ao (by omega),←hx]
     rfl
    have hsl:(ic key ((W.drop a).take (k+1))).length=k+1:=by
     rw[x6];simp only[dd,qn];omega
    have ah6:=Cg key ((W.drop a).take (k+1)) x;rw[←htk]at ah6
    generalize aE8:ic key ((W.drop a).take (k+1))=seg at*
    generalize aui:W.drop (a+1+k+1)=rest at*
    rw[hd]at ebl
    have hpl:(W.take a).length=a:=by simp only[dd];omega
    have ayv:W.length=a+(k+1)+1+rest.length:=by rw[←aui];simp only[qn];omega
    generalize W.take a=pre at*
    refine Wh (i:=2) (fun s2=>acu m b id q sz g ce W.length a b' (pre++(sq key seg.reverse x).reverse++rest) s2∧s2.tmp 8= .d (.int .i64 ((a+1+k:Nat):Int))) ?_ ?_
    ·refine dq (k+1) (fun r s2=>∃A B,A.length+r=k+1∧acu m b id q sz g ce W.length a b' (pre++A++x::B++rest) s2∧s2.tmp 8= .d (.int .i64 ((a+1+k:Nat):Int))∧s2.tmp 9= .d (.int .i64 ((a+A.length:Nat):Int))∧(sq key A.reverse x).reverse++B=(sq key seg.reverse x).reverse) ?_ ?_
     ·refine⟨seg,[],by omega,⟨eb,f0,f1,f2,f3,ev,emp,?_⟩,?_,?_,by simp⟩
      ·show s'.bm=_
       rw[ebl];simp only[we,vp,An]
      ·simp only[al,aa,if_false,f8]
      ·simp only[al,if_true]
       rw[hsl,show a+1+k=a+(k+1)by omega]
     ·clear eb f0 f1 f2 f3 ev emp ebl f8
      rintro r s2 hr ⟨A,B,hAl,⟨eb,f0,f1,f2,f3,ev,emp,ebl⟩,f8,f9,L5⟩;rcases List.eq_nil_or_concat A with rfl|⟨A',y,rfl⟩
      ·have hgt:¬(((a+([]:List α).length:Nat):Int)>a):=by simp
       simp only[go_sem,aa,reduceCtorEq,f1,f8,f9];refine⟨eb,f0,f1,f2,f3,ev,emp,?_⟩;show s2.bm=_;rw[ebl,←L5];simp[sq]
      ·obtain⟨F,hF⟩:∃F,F=pre++A':=⟨_,rfl⟩
       obtain⟨R,hR⟩:∃R,R=B++rest:=⟨_,rfl⟩
       have aws:(A'++[y]).length=A'.length+1:=by simp
       have hFl:F.length=a+A'.length:=by rw[hF,cb,hpl]
       have hW2:pre++A'.concat y++x::B++rest=F++y::x::R:=by rw[hF,hR];simp
       rw[aEl]at hAl L5;rw[hW2]at ebl
       have h9:s2.tmp 9= .d (.int .i64 ((F.length+1:Nat):Int)):=by
        rw[f9,hFl,aEl,aws,p8]
       have hgt:((F.length+1:Nat):Int)>a:=by omega
       have hWl:F.length+1+1+R.length=W.length:=by
        rw[aws]at hAl
        have:R.length=B.length+rest.length:=by rw[hR,cb]
        have h6:=congrArg Cq L5;simp only[cb,Mw,a13,hsl,bq,dh]at h6;omega
       have wj:=br (((F.length+1:Nat):Int)-1) (by omega) (by omega)
       have wj2:((F.length+1:Nat):Int)-1=(F.length:Int):=by omega
       rw[wj2]at wj;have g0:=at0 ce F R x y;have g1:=at1 ce F R x y
       have hl1:((F.length+1:Nat):Int)<(W.length:Int):=by omega
       have hl2:(F.length:Int)<(W.length:Int):=by omega
       have hbi:s2.bm id=some (.arr sz ((F++y::x::R).map ce)):=by rw[ebl,bh]
       have hbq:s2.bm q=some (.loc [.d X]):=by rw[ebl,er _ _ _ _ kg.symm];exact hq
       have ata:((F++y::x::R).map ce).length=W.length:=by simp only[ae,cb,bq];omega
       have hc:=abf x y
       generalize hM:(F++y::x::R).map ce=M at*
       simp only[go_sem,aa,reduceCtorEq,f0,f1,f3,h9,hgt,ev,hbi,hbq,ata,wj,wj2,hl1,hl2,g0,g1,C3,a16,toNat_cast,aj,mkd,iz,mc];refine Y0 hc rfl ?_
       have hn1:F.length+1<W.length:=by omega
       have g2:(M.set (F.length+1) (ce y))[F.length]? =some (ce y):=by rw[pv,if_neg (by omega)];exact g0
       have L1:(M.set (F.length+1) (ce y)).set F.length (ce x)=(F++x::y::R).map ce:=by
        rw[←hM,Gu,Gu,a9m]
       cases a7v:strLt (key x) (key y)
       ·have aeq:¬(byC (key x) (key y)<0):=by rw[Zz,a7v];simp
        simp only[go_sem,aa,reduceCtorEq,f8,aeq];refine⟨eb,f0,f1,f2,f3,?_,emp,?_⟩
        ·rfl
        ·show s2.bm=_
         rw[ebl,hM.symm]
         congr 3
         rw[←L5,auz];simp only[qm,a65,An,vp,sq,a7v,ec,if_false,hF,hR];simp
       ·have aeq:byC (key x) (key y)<0:=by rw[Zz,a7v]
        simp only[go_sem,aa,reduceCtorEq,f0,f8,h9,aeq,hbi,ata,wj,wj2,hl1,hl2,g0,g1,C3,a16,toNat_cast,aj,mkd,Vx,zx,abe,Fx,g2,L1];rw[aws]at hAl
        refine⟨by omega,A',y::B,by omega,⟨eb,f0,f1,f2,f3,rfl,emp,?_⟩,by rw[hFl],?_⟩
        ·show jf _ _ _=jf _ _ _
         rw[ebl]
         have e5:F++x::y::R=pre++A'++x::(y::B)++rest:=by rw[hF,hR];simp
         rw[e5]
         funext i
         simp only[al];split<;>rfl
        ·rw[←L5,auz]
         simp only[qm,a65,An,vp,sq,a7v,if_true];simp
    ·rintro s2 ⟨⟨eb,f0,f1,f2,f3,ev,emp,ebl⟩,f8⟩
     simp only[go_sem,aa,reduceCtorEq,f8,wk]
     refine⟨by omega,⟨eb,f0,f1,f2,f3,ev,emp,?_⟩,?_⟩
     ·show s2.bm=_
      rw[ebl,ah6,show a+1+(k+1)=a+1+k+1 by omega,aui]
     ·rfl
   ·have:a+1+k=b':=by omega
    simp only[go_sem,aa,reduceCtorEq,f2,f8,iy,nh,Gw];refine Ci _ _ ⟨eb,f0,f1,f2,f3,ev,emp,ebl⟩ ?_
    rw[this,show k+1=b'-a by omega]
end
theorem Xt{a b c:ByteArray}(h:strLt b a=false)(k:strLt c b=false):strLt c a=false:=by
 rw[Ui,decide_eq_false_iff_not,List.not_lt]at*
 exact List.le_trans h k
theorem alg{a b c:ByteArray}(h:strLt a b=true)(k:strLt c b=false):strLt a c=true:=by
 cases q:strLt a c
 ·have:=Xt k q
  rw[h]at this;cases this
 ·rfl
section
variable{α:Type}(key:α→ByteArray)
def a95(l:List α):Prop:=l.Pairwise fun x y=>strLt (key y) (key x)=false
theorem a3j{l:List α}{x:α}(h:l.Pairwise fun x y=>strLt (key x) (key y)=false):(sq key l x).Pairwise fun x y=>strLt (key x) (key y)=false:=by
 induction l with
 |nil=>simp[sq]
 |cons y r ih=>
  rw[M8]at h;unfold sq;split
  ·rename_i iy
   rw[M8]
   refine⟨fun z hz=>?_,ih h.2⟩
   rcases dn.1 ((Y8 key r x).mem_iff.1 hz)with rfl|hz
   ·exact Xs iy
   ·exact h.1 z hz
  ·rename_i iy
   have cj:strLt (key x) (key y)=false:=by simpa using iy
   rw[M8]
   refine⟨fun z hz=>?_,M8.2 h⟩
   rcases dn.1 hz with rfl|hz
   ·exact cj
   ·exact Xt (h.1 z hz) cj
theorem a7s(l:List α):a95 key (ic key l):=by
 have:∀r:List α,a95 key (ic key r.reverse):=by
  intro r
  induction r with
  |nil=>exact List.Pairwise.nil
  |cons x r ih=>
   rw[qm,Cg];unfold a95;rw[aEj];refine a3j key ?_;rw[aEj];exact ih
 have h:=this l.reverse
 rwa[Cp]at h
theorem ab5{B:List α}{x:α}(h:∀y∈B,strLt (key x) (key y)=true)(A:List α):sq key (B++A) x=B++sq key A x:=by
 induction B with
 |nil=>rfl
 |cons y r ih=>
  show sq key (y::(r++A)) x=y::(r++sq key A x)
  rw[sq,if_pos (h y (by simp)),ih fun z hz=>h z (by simp[hz])]
theorem ab6{A:List α}{x:α}(h:∀y∈A,strLt (key x) (key y)=false):sq key A x=x::A:=by
 cases A with
 |nil=>rfl
 |cons y r=>rw[sq,if_neg (by rw[h y (by simp)];simp)]
theorem ade{S:List α}{x:α}{i:Nat}(h1:∀y∈S.take i,strLt (key x) (key y)=false)(h2:∀y∈S.drop i,strLt (key x) (key y)=true):(sq key S.reverse x).reverse=S.take i++x::S.drop i:=by
 have e:S.reverse=(S.drop i).reverse++(S.take i).reverse:=by rw[←auz,Mf]
 rw[e,ab5 key (fun y hy=>h2 y (by simpa using hy)),ab6 key (fun y hy=>h1 y (by simpa using hy))]
 simp
end
def aqk(sz azt abx:Nat):cn:=
 (.seq (
 (.seq (
  .region [⟨some 25,.ij (.t 2),none,[]⟩,
   ⟨some 26,.ij (.t 1),none,[]⟩,
   ⟨some 27,.bin .sub (.t 25) (.t 26),none,[]⟩,
   ⟨some 28,.bin .eql (.t 27) (.c (.int .i64 1)),none,[]⟩] false []) (
  (.cond (.t 28) (
  (.seq (
   .region [⟨some 29,.ij (.t 2),none,[]⟩,
    ⟨some 10,.ij (.t 29),none,[]⟩] false []) (
   (.seq (
   .region [⟨some 30,.ij (.t 3),none,[]⟩,
    ⟨some 11,.ij (.t 30),none,[]⟩] false []) (
   (.seq (
    (.block 0 (
    (.loop (
     (.seq (
     (.seq (
      .region [⟨some 31,.ij (.t 10),none,[]⟩,
       ⟨some 32,.ij (.t 11),none,[]⟩,
       ⟨some 33,.bin .lss (.t 31) (.t 32),none,[]⟩] false []) (
      (.cond (.t 33) (
      .skip) (
      .exit 0))))) (
     (.block 1 (
      (.seq (
      .region [⟨some 34,.ij (.t 10),none,[]⟩,
       ⟨some 35,.ij (.t 11),none,[]⟩,
       ⟨some 36,.bin .add (.t 34) (.t 35),none,[]⟩,
       ⟨some 37,.conv .u64 (.t 36),none,[]⟩,
       ⟨some 38,.bin .shr (.t 37) (.c (.int .u64 1)),none,[]⟩,
       ⟨some 39,.conv .i64 (.t 38),none,[]⟩,
       ⟨some 12,.ij (.t 39),none,[]⟩] false []) (
      (.seq (
       .region [⟨some 40,.ij (.t 4),none,[]⟩,
        ⟨some 41,.ij (.t 0),none,[]⟩,
        ⟨some 42,.ij (.t 12),none,[]⟩,
        ⟨some 43,.te sz (.t 41) (.t 42),none,[]⟩,
        ⟨some 44,.load sz true (.t 43),none,[]⟩,
        ⟨some 45,.ij (.t 0),none,[]⟩,
        ⟨some 46,.ij (.t 1),none,[]⟩,
        ⟨some 47,.te sz (.t 45) (.t 46),none,[]⟩,
        ⟨some 48,.load sz true (.t 47),none,[]⟩,
        ⟨some 49,.vb (.t 40) [(.t 44),(.t 48)],none,[]⟩,
        ⟨some 50,.bin .lss (.t 49) (.c (.int .i64 0)),none,[]⟩] true []) (
       (.cond (.t 50) (
       .region [⟨some 51,.ij (.t 12),none,[]⟩,
        ⟨some 52,.bin .add (.t 51) (.c (.int .i64 1)),none,[]⟩,
        ⟨some 10,.ij (.t 52),none,[]⟩] false []) (
       .region [⟨some 53,.ij (.t 12),none,[]⟩,
        ⟨some 11,.ij (.t 53),none,[]⟩] false []))))))))))))))) (
    (.seq (
    (.seq (
     .region [⟨some 54,.ij (.t 1),none,[]⟩,
      ⟨some 13,.ij (.t 54),none,[]⟩] false []) (
     (.block 2 (
     (.loop (
      (.seq (
      (.seq (
       .region [⟨some 55,.ij (.t 13),none,[]⟩,
        ⟨some 56,.ij (.t 10),none,[]⟩,
        ⟨some 57,.bin .sub (.t 56) (.c (.int .i64 1)),none,[]⟩,
        ⟨some 58,.bin .lss (.t 55) (.t 57),none,[]⟩] false []) (
       (.cond (.t 58) (
       .skip) (
       .exit 2))))) (
      (.seq (
       (.block 3 (
       .region [⟨some 61,.ij (.t 0),none,[]⟩,
        ⟨some 62,.ij (.t 13),none,[]⟩,
        ⟨some 63,.ij (.t 0),none,[]⟩,
        ⟨some 64,.ij (.t 13),none,[]⟩,
        ⟨some 65,.bin .add (.t 64) (.c (.int .i64 1)),none,[]⟩,
        ⟨some 66,.ij (.t 0),none,[]⟩,
        ⟨some 67,.ij (.t 13),none,[]⟩,
        ⟨some 68,.bin .add (.t 67) (.c (.int .i64 1)),none,[]⟩,
        ⟨some 69,.te sz (.t 66) (.t 68),none,[]⟩,
        ⟨some 70,.load sz true (.t 69),none,[]⟩,
        ⟨some 71,.ij (.t 0),none,[]⟩,
        ⟨some 72,.ij (.t 13),none,[]⟩,
        ⟨some 73,.te sz (.t 71) (.t 72),none,[]⟩,
        ⟨some 74,.load sz true (.t 73),none,[]⟩,
        ⟨some 75,.te sz (.t 61) (.t 62),none,[]⟩,
        ⟨none,.store sz (.t 75) (.t 70),none,[]⟩,
        ⟨some 76,.te sz (.t 63) (.t 65),none,[]⟩,
        ⟨none,.store sz (.t 76) (.t 74),none,[]⟩] true []))) (
       .region [⟨some 59,.ij (.t 13),none,[]⟩,
        ⟨some 60,.bin .add (.t 59) (.c (.int .i64 1)),none,[]⟩,
        ⟨some 13,.ij (.t 60),none,[]⟩] false []))))))))))) (
    .ret))))))))) (
  .skip))))) (
 (.seq (
  (.seq (
  .region [⟨some 77,.ij (.t 3),none,[]⟩,
   ⟨some 78,.ij (.t 2),none,[]⟩,
   ⟨some 79,.bin .sub (.t 77) (.t 78),none,[]⟩,
   ⟨some 80,.bin .eql (.t 79) (.c (.int .i64 1)),none,[]⟩] false []) (
  (.cond (.t 80) (
   (.seq (
   .region [⟨some 81,.ij (.t 1),none,[]⟩,
    ⟨some 14,.ij (.t 81),none,[]⟩] false []) (
   (.seq (
    .region [⟨some 82,.ij (.t 2),none,[]⟩,
     ⟨some 15,.ij (.t 82),none,[]⟩] false []) (
    (.seq (
    (.block 4 (
     (.loop (
     (.seq (
      (.seq (
      .region [⟨some 83,.ij (.t 14),none,[]⟩,
       ⟨some 84,.ij (.t 15),none,[]⟩,
       ⟨some 85,.bin .lss (.t 83) (.t 84),none,[]⟩] false []) (
      (.cond (.t 85) (
       .skip) (
       .exit 4))))) (
      (.block 5 (
      (.seq (
       .region [⟨some 86,.ij (.t 14),none,[]⟩,
        ⟨some 87,.ij (.t 15),none,[]⟩,
        ⟨some 88,.bin .add (.t 86) (.t 87),none,[]⟩,
        ⟨some 89,.conv .u64 (.t 88),none,[]⟩,
        ⟨some 90,.bin .shr (.t 89) (.c (.int .u64 1)),none,[]⟩,
        ⟨some 91,.conv .i64 (.t 90),none,[]⟩,
        ⟨some 16,.ij (.t 91),none,[]⟩] false []) (
       (.seq (
       .region [⟨some 92,.ij (.t 4),none,[]⟩,
        ⟨some 93,.ij (.t 0),none,[]⟩,
        ⟨some 94,.ij (.t 2),none,[]⟩,
        ⟨some 95,.te sz (.t 93) (.t 94),none,[]⟩,
        ⟨some 96,.load sz true (.t 95),none,[]⟩,
        ⟨some 97,.ij (.t 0),none,[]⟩,
        ⟨some 98,.ij (.t 16),none,[]⟩,
        ⟨some 99,.te sz (.t 97) (.t 98),none,[]⟩,
        ⟨some 100,.load sz true (.t 99),none,[]⟩,
        ⟨some 101,.vb (.t 92) [(.t 96),(.t 100)],none,[]⟩,
        ⟨some 102,.bin .lss (.t 101) (.c (.int .i64 0)),none,[]⟩,
        ⟨some 103,.un .not (.t 102),none,[]⟩] true []) (
       (.cond (.t 103) (
        .region [⟨some 104,.ij (.t 16),none,[]⟩,
         ⟨some 105,.bin .add (.t 104) (.c (.int .i64 1)),none,[]⟩,
         ⟨some 14,.ij (.t 105),none,[]⟩] false []) (
        .region [⟨some 106,.ij (.t 16),none,[]⟩,
         ⟨some 15,.ij (.t 106),none,[]⟩] false []))))))))))))))) (
    (.seq (
     (.seq (
     .region [⟨some 107,.ij (.t 2),none,[]⟩,
      ⟨some 17,.ij (.t 107),none,[]⟩] false []) (
     (.block 6 (
      (.loop (
      (.seq (
       (.seq (
       .region [⟨some 108,.ij (.t 17),none,[]⟩,
        ⟨some 109,.ij (.t 14),none,[]⟩,
        ⟨some 110,.bin .gtr (.t 108) (.t 109),none,[]⟩] false []) (
       (.cond (.t 110) (
        .skip) (
        .exit 6))))) (
       (.seq (
       (.block 7 (
        .region [⟨some 113,.ij (.t 0),none,[]⟩,
         ⟨some 114,.ij (.t 17),none,[]⟩,
         ⟨some 115,.ij (.t 0),none,[]⟩,
         ⟨some 116,.ij (.t 17),none,[]⟩,
         ⟨some 117,.bin .sub (.t 116) (.c (.int .i64 1)),none,[]⟩,
         ⟨some 118,.ij (.t 0),none,[]⟩,
         ⟨some 119,.ij (.t 17),none,[]⟩,
         ⟨some 120,.bin .sub (.t 119) (.c (.int .i64 1)),none,[]⟩,
         ⟨some 121,.te sz (.t 118) (.t 120),none,[]⟩,
         ⟨some 122,.load sz true (.t 121),none,[]⟩,
         ⟨some 123,.ij (.t 0),none,[]⟩,
         ⟨some 124,.ij (.t 17),none,[]⟩,
         ⟨some 125,.te sz (.t 123) (.t 124),none,[]⟩,
         ⟨some 126,.load sz true (.t 125),none,[]⟩,
         ⟨some 127,.te sz (.t 113) (.t 114),none,[]⟩,
         ⟨none,.store sz (.t 127) (.t 122),none,[]⟩,
         ⟨some 128,.te sz (.t 115) (.t 117),none,[]⟩,
         ⟨none,.store sz (.t 128) (.t 126),none,[]⟩] true []))) (
       .region [⟨some 111,.ij (.t 17),none,[]⟩,
        ⟨some 112,.bin .sub (.t 111) (.c (.int .i64 1)),none,[]⟩,
        ⟨some 17,.ij (.t 112),none,[]⟩] false []))))))))))) (
     .ret))))))))) (
   .skip))))) (
  (.seq (
  .region [⟨some 129,.ij (.t 1),none,[]⟩,
   ⟨some 130,.ij (.t 3),none,[]⟩,
   ⟨some 131,.bin .add (.t 129) (.t 130),none,[]⟩,
   ⟨some 132,.conv .u64 (.t 131),none,[]⟩,
   ⟨some 133,.bin .shr (.t 132) (.c (.int .u64 1)),none,[]⟩,
   ⟨some 134,.conv .i64 (.t 133),none,[]⟩,
   ⟨some 18,.ij (.t 134),none,[]⟩] false []) (
  (.seq (
   .region [⟨some 135,.ij (.t 18),none,[]⟩,
    ⟨some 136,.ij (.t 2),none,[]⟩,
    ⟨some 137,.bin .add (.t 135) (.t 136),none,[]⟩,
    ⟨some 19,.ij (.t 137),none,[]⟩] false []) (
   (.seq (
   .region [⟨some 20,.ij (.c (.int .i64 0)),none,[]⟩,
    ⟨some 21,.ij (.c (.int .i64 0)),none,[]⟩] false []) (
   (.seq (
    (.seq (
    .region [⟨some 138,.ij (.t 2),none,[]⟩,
     ⟨some 139,.ij (.t 18),none,[]⟩,
     ⟨some 140,.bin .gtr (.t 138) (.t 139),none,[]⟩] false []) (
    (.cond (.t 140) (
     (.seq (
     .region [⟨some 141,.ij (.t 19),none,[]⟩,
      ⟨some 142,.ij (.t 3),none,[]⟩,
      ⟨some 143,.bin .sub (.t 141) (.t 142),none,[]⟩,
      ⟨some 20,.ij (.t 143),none,[]⟩] false []) (
     .region [⟨some 144,.ij (.t 18),none,[]⟩,
      ⟨some 21,.ij (.t 144),none,[]⟩] false []))) (
     (.seq (
     .region [⟨some 145,.ij (.t 1),none,[]⟩,
      ⟨some 20,.ij (.t 145),none,[]⟩] false []) (
     .region [⟨some 146,.ij (.t 2),none,[]⟩,
      ⟨some 21,.ij (.t 146),none,[]⟩] false []))))))) (
    (.seq (
    .region [⟨some 147,.ij (.t 19),none,[]⟩,
     ⟨some 148,.bin .sub (.t 147) (.c (.int .i64 1)),none,[]⟩,
     ⟨some 22,.ij (.t 148),none,[]⟩] false []) (
    (.seq (
     (.block 8 (
     (.loop (
      (.seq (
      (.seq (
       .region [⟨some 149,.ij (.t 20),none,[]⟩,
        ⟨some 150,.ij (.t 21),none,[]⟩,
        ⟨some 151,.bin .lss (.t 149) (.t 150),none,[]⟩] false []) (
       (.cond (.t 151) (
       .skip) (
       .exit 8))))) (
      (.block 9 (
       (.seq (
       .region [⟨some 152,.ij (.t 20),none,[]⟩,
        ⟨some 153,.ij (.t 21),none,[]⟩,
        ⟨some 154,.bin .add (.t 152) (.t 153),none,[]⟩,
        ⟨some 155,.conv .u64 (.t 154),none,[]⟩,
        ⟨some 156,.bin .shr (.t 155) (.c (.int .u64 1)),none,[]⟩,
        ⟨some 157,.conv .i64 (.t 156),none,[]⟩,
        ⟨some 23,.ij (.t 157),none,[]⟩] false []) (
       (.seq (
        .region [⟨some 158,.ij (.t 4),none,[]⟩,
         ⟨some 159,.ij (.t 0),none,[]⟩,
         ⟨some 160,.ij (.t 22),none,[]⟩,
         ⟨some 161,.ij (.t 23),none,[]⟩,
         ⟨some 162,.bin .sub (.t 160) (.t 161),none,[]⟩,
         ⟨some 163,.te sz (.t 159) (.t 162),none,[]⟩,
         ⟨some 164,.load sz true (.t 163),none,[]⟩,
         ⟨some 165,.ij (.t 0),none,[]⟩,
         ⟨some 166,.ij (.t 23),none,[]⟩,
         ⟨some 167,.te sz (.t 165) (.t 166),none,[]⟩,
         ⟨some 168,.load sz true (.t 167),none,[]⟩,
         ⟨some 169,.vb (.t 158) [(.t 164),(.t 168)],none,[]⟩,
         ⟨some 170,.bin .lss (.t 169) (.c (.int .i64 0)),none,[]⟩,
         ⟨some 171,.un .not (.t 170),none,[]⟩] true []) (
        (.cond (.t 171) (
        .region [⟨some 172,.ij (.t 23),none,[]⟩,
         ⟨some 173,.bin .add (.t 172) (.c (.int .i64 1)),none,[]⟩,
         ⟨some 20,.ij (.t 173),none,[]⟩] false []) (
        .region [⟨some 174,.ij (.t 23),none,[]⟩,
         ⟨some 21,.ij (.t 174),none,[]⟩] false []))))))))))))))) (
     (.seq (
     .region [⟨some 175,.ij (.t 19),none,[]⟩,
      ⟨some 176,.ij (.t 20),none,[]⟩,
      ⟨some 177,.bin .sub (.t 175) (.t 176),none,[]⟩,
      ⟨some 24,.ij (.t 177),none,[]⟩] false []) (
     (.seq (
      (.seq (
      .region [⟨some 178,.ij (.t 20),none,[]⟩,
       ⟨some 179,.ij (.t 2),none,[]⟩,
       ⟨some 180,.bin .lss (.t 178) (.t 179),none,[]⟩,
       ⟨some 181,.ij (.t 180),none,[]⟩,
       ⟨some 182,.ij (.t 2),some (181,true),[]⟩,
       ⟨some 183,.ij (.t 24),some (181,true),[]⟩,
       ⟨some 184,.bin .lss (.t 182) (.t 183),some (181,true),[]⟩,
       ⟨some 185,.pick (.t 181) (.t 184) (.c (.bool false)),none,[]⟩] false []) (
      (.cond (.t 185) (
       .region [⟨some 186,.ij (.t 0),none,[]⟩,
        ⟨some 187,.ij (.t 20),none,[]⟩,
        ⟨some 188,.ij (.t 2),none,[]⟩,
        ⟨some 189,.ij (.t 24),none,[]⟩,
        ⟨some 190,.ij (.t 4),none,[]⟩,
        ⟨some 191,.call azt [(.t 186),(.t 187),(.t 188),(.t 189),(.t 190)],none,[]⟩] false []) (
       .skip))))) (
      (.seq (
      (.seq (
       .region [⟨some 192,.ij (.t 1),none,[]⟩,
        ⟨some 193,.ij (.t 20),none,[]⟩,
        ⟨some 194,.bin .lss (.t 192) (.t 193),none,[]⟩,
        ⟨some 195,.ij (.t 194),none,[]⟩,
        ⟨some 196,.ij (.t 20),some (195,true),[]⟩,
        ⟨some 197,.ij (.t 18),some (195,true),[]⟩,
        ⟨some 198,.bin .lss (.t 196) (.t 197),some (195,true),[]⟩,
        ⟨some 199,.pick (.t 195) (.t 198) (.c (.bool false)),none,[]⟩] false []) (
       (.cond (.t 199) (
       .region [⟨some 200,.ij (.t 0),none,[]⟩,
        ⟨some 201,.ij (.t 1),none,[]⟩,
        ⟨some 202,.ij (.t 20),none,[]⟩,
        ⟨some 203,.ij (.t 18),none,[]⟩,
        ⟨some 204,.ij (.t 4),none,[]⟩,
        ⟨some 205,.call abx [(.t 200),(.t 201),(.t 202),(.t 203),(.t 204)],none,[]⟩] false []) (
       .skip))))) (
      (.seq (
       .region [⟨some 206,.ij (.t 18),none,[]⟩,
        ⟨some 207,.ij (.t 24),none,[]⟩,
        ⟨some 208,.bin .lss (.t 206) (.t 207),none,[]⟩,
        ⟨some 209,.ij (.t 208),none,[]⟩,
        ⟨some 210,.ij (.t 24),some (209,true),[]⟩,
        ⟨some 211,.ij (.t 3),some (209,true),[]⟩,
        ⟨some 212,.bin .lss (.t 210) (.t 211),some (209,true),[]⟩,
        ⟨some 213,.pick (.t 209) (.t 212) (.c (.bool false)),none,[]⟩] false []) (
       (.cond (.t 213) (
       .region [⟨some 214,.ij (.t 0),none,[]⟩,
        ⟨some 215,.ij (.t 18),none,[]⟩,
        ⟨some 216,.ij (.t 24),none,[]⟩,
        ⟨some 217,.ij (.t 3),none,[]⟩,
        ⟨some 218,.ij (.t 4),none,[]⟩,
        ⟨some 219,.call abx [(.t 214),(.t 215),(.t 216),(.t 217),(.t 218)],none,[]⟩] false []) (
       .skip))))))))))))))))))))))))))
def axb{α:Type}(m:Mem)(b id q sz g:Nat)(ce:α→List D)(n:Nat)(W:List α)(s':PS):Prop:=
 s'.base=b∧s'.tmp 0= .ref id (m.ver id) (n+1)∧s'.tmp 2= .d (.int .i64 n)∧s'.tmp 4= .mb g [(q,m.ver q)]∧s'.ver=m.ver∧s'.mp=m.mp∧s'.bm=jf m.bm id (some (.arr sz (W.map ce)))
theorem av9{n:Nat}(h:n<2^63):IntKind.u64.wrap (n:Int)=n:=by
 unfold Mx;simp only[IntKind.bits,aFk,cz,ec,if_false];omega
section
variable{P:Program}
theorem aqj(hm:P.follows .mixedOrders=true){f fr fs:Nat}{sz:Nat}(hf:dj P f {}=some (aqk sz fr fs,[],220)){α:Type}{ce:α→List D}{key:α→ByteArray}(C3:∀x,(ce x).length=sz)(Ac:∀x,(ce x).all D.one=true){g q qv:Nat}{X:D}
  (abf:∀x y,fp P g [.agg (ce x),.agg (ce y),.tz [X] 0] (.int .i64 (byC (key x) (key y)))){m:Mem}{id ver:Nat}{S:List α}{x:α}(hl:S.length≤2^30)(h1:S.length≠1)(hS:a95 key S)(hb:m.bm id=some (.arr sz ((S++[x]).map ce)))(hv:m.ver id=ver)
  (hq:m.bm q=some (.loc [.d X]))(hqv:m.ver q=qv)(kg:id≠q)(b:Nat):
  nj P f m [.ref id ver (S.length+1),.d (.int .i64 0),.d (.int .i64 S.length),.d (.int .i64 ((S.length+1:Nat):Int)),.mb g [(q,qv)]] (m.put id ver (.arr sz ((sq key S.reverse x).reverse.map ce))) (.yi []):=by
 subst hv hqv
 refine jt hm hf (by simp) b (fun c=>?_) (Mem.Ja (ar _)) Mem.Nq (fun i es hi=> .inl hi) (by simp[F5])
 show jd P (aqk sz fr fs) (u0 m [] _ _) _
 have w0:=br ((S.length:Int)-0) (by omega) (by omega)
 have w1:=br (((S.length+1:Nat):Int)-S.length) (by omega) (by omega)
 have e1:((S.length:Int)-0==1)=false:=by rw[beq_eq_false_iff_ne];omega
 have e2:(((S.length+1:Nat):Int)-S.length==1)=true:=by rw[beq_iff_eq];omega
 simp only[aqk,enter,go_sem,aa,reduceCtorEq,w0,w1,e1,e2]
 have aul:((S++[x]).map ce).length=S.length+1:=by simp
 have aDu:(S++[x]).length=S.length+1:=by simp
 have abe:∀x,(ce x).drop sz=[]:=fun x=>Gp (by rw[C3];exact ar _)
 have awo:∀x y,(ce x).drop (ce y).length=[]:=fun x y=>by rw[C3];exact abe x
 have a16:∀x,(ce x).take sz=ce x:=fun x=>Ab (by rw[C3];exact ar _)
 have zx:∀(s:PS) x,((ce x).map C.d).all (C.one s)=true:=fun s x=>by
  have:=Ac x;rw[ck]at this⊢;intro c hc;obtain⟨d,hd,rfl⟩:=jc.1 hc;exact this d hd
 have gx:((S++[x]).map ce)[S.length]? =some (ce x):=by simp
 have gS:∀h (hh:h<S.length),((S++[x]).map ce)[h]? =some (ce S[h]):=fun h hh=>by
  rw[bp,jr hh,ao hh];rfl
 have up:∀h h' (hh:h<S.length) (hh':h'<S.length),h≤h'→strLt (key x) (key S[h])=true→strLt (key x) (key S[h'])=true:=fun h h' hh hh' hle hx=>by
  rcases Nat.lt_or_eq_of_le hle with h2|h2
  ·exact alg hx ((Rm.1 hS) h h' hh hh' h2)
  ·subst h2;exact hx
 refine Wh (i:=4) (fun s2=>∃i,i≤S.length∧axb m b id q sz g ce S.length (S++[x]) s2∧s2.tmp 14= .d (.int .i64 i)∧(∀y∈S.take i,strLt (key x) (key y)=false)∧∀y∈S.drop i,strLt (key x) (key y)=true) ?_ ?_
 ·refine dq S.length (fun k s2=>∃i j,i≤j∧j≤S.length∧(j-i)+k≤S.length∧axb m b id q sz g ce S.length (S++[x]) s2∧s2.tmp 14= .d (.int .i64 i)∧s2.tmp 15= .d (.int .i64 j)∧(∀h (hh:h<S.length),h<i→strLt (key x) (key S[h])=false)∧∀h (hh:h<S.length),j≤h→strLt (key x) (key S[h])=true) ?_ ?_
  ·refine⟨0,S.length,aFr _,ar _,by omega,⟨rfl,?_,?_,?_,rfl,rfl,?_⟩,?_,?_,fun h _ h2=>absurd h2 (by omega),fun h hh h2=>absurd h2 (by omega)⟩
   ·simp only[al,aa,if_false]
    rfl
   ·simp only[al,aa,if_false]
    rfl
   ·simp only[al,aa,if_false]
    rfl
   ·funext i
    simp only[al];split
    ·rename_i h;rw[h];exact hb
    ·rfl
   ·simp only[al,aa,if_false,if_true]
    rfl
   ·simp only[al,aa,if_false,if_true]
  ·rintro k s2 hk ⟨i,j,hij,hj,hd,⟨eb,f0,f2,f4,ev,emp,ebl⟩,f14,f15,lo,hi⟩
   have hbi:s2.bm id=some (.arr sz ((S++[x]).map ce)):=by rw[ebl,bh]
   have hbq:s2.bm q=some (.loc [.d X]):=by rw[ebl,er _ _ _ _ kg.symm];exact hq
   by_cases iy:(i:Int)<j
   ·have cj:i<j:=by omega
    have wa:=br ((i:Int)+j) (by omega) (by omega)
    have wu:IntKind.u64.wrap ((i:Int)+j)=((i+j:Nat):Int):=by
     have:=av9 (n:=i+j) (by omega)
     rw[←this];congr 1
    have wf:(((i+j:Nat):Int).fdiv (2^(min 1 64:Nat)))=((i+j)/2:Nat):=by
     rw[Int.fdiv_eq_ediv_of_nonneg _ (by decide)];rfl
    have wi:=br (((i+j)/2:Nat):Int) (by omega) (by omega)
    obtain⟨h,hh⟩:∃h,h=(i+j)/2:=⟨_,rfl⟩;rw[←hh]at wf wi
    have hhS:h<S.length:=by omega
    have gh:=gS h hhS
    have hhI:(h:Int)<((S.length+1:Nat):Int):=by omega
    have hSI:((S.length:Nat):Int)<((S.length+1:Nat):Int):=by omega
    have wh1:=br ((h:Int)+1) (by omega) (by omega)
    have hc:=abf x S[h];simp only[go_sem,aa,bx,da,reduceCtorEq,f0,f2,f4,f14,f15,iy,wa,wu,wf,wi,ev,hbi,hbq,aul,hhI,hSI,gx,gh,C3,a16,toNat_cast,aj,mkd,iz,mc];refine Y0 hc rfl ?_;cases a7v:strLt (key x) (key S[h])
    ·have aeq:¬(byC (key x) (key S[h])<0):=by rw[Zz,a7v];simp
     simp only[go_sem,aa,reduceCtorEq,f14,f15,aeq,wh1]
     refine⟨by omega,h+1,j,by omega,hj,by omega,⟨eb,f0,f2,f4,rfl,emp,ebl⟩,by rw[jz];rfl,rfl,fun h' hh' h2=>?_,hi⟩
     cases q2:strLt (key x) (key S[h'])
     ·rfl
     ·have:=up h' h hh' hhS (by omega) q2
      rw[a7v]at this;cases this
    ·have aeq:byC (key x) (key S[h])<0:=by rw[Zz,a7v]
     simp only[go_sem,aa,reduceCtorEq,f14,f15,aeq]
     exact⟨by omega,i,h,by omega,by omega,by omega,⟨eb,f0,f2,f4,rfl,emp,ebl⟩,rfl,rfl,lo,fun h' hh' h2=>up h h' hhS hh' h2 a7v⟩
   ·have aC8:i=j:=by omega
    subst aC8;simp only[go_sem,aa,reduceCtorEq,f2,f14,f15,iy]
    refine⟨i,hj,⟨eb,f0,f2,f4,ev,emp,ebl⟩,rfl,fun y hy=>?_,fun y hy=>?_⟩
    ·obtain⟨h,hh,rfl⟩:=fj.1 hy
     simp only[dd]at hh;rw[aAy]
     exact lo h (by omega) (by omega)
    ·obtain⟨h,hh,rfl⟩:=fj.1 hy
     simp only[qn]at hh;rw[List.getElem_drop]
     exact hi (i+h) (by omega) (by omega)
 ·rintro s2 ⟨i,hiS,⟨eb,f0,f2,f4,ev,emp,ebl⟩,f14,lo,hiB⟩
  have L5:=ade key lo hiB;simp only[go_sem,f2]
  refine Wh (i:=6) (fun s3=>s3.ver=m.ver∧s3.mp=m.mp∧s3.bm=jf m.bm id (some (.arr sz ((sq key S.reverse x).reverse.map ce)))) ?_ ?_
  ·refine dq (S.length-i) (fun r s3=>r≤S.length-i∧axb m b id q sz g ce S.length (S.take (S.length-r)++x::S.drop (S.length-r)) s3∧s3.tmp 14= .d (.int .i64 i)∧s3.tmp 17= .d (.int .i64 ((S.length-r:Nat):Int))) ?_ ?_
   ·refine⟨aFr _,⟨eb,?_,?_,?_,ev,emp,?_⟩,?_,?_⟩
    ·simp only[al,aa,if_false]
     exact f0
    ·simp only[al,aa,if_false]
     exact f2
    ·simp only[al,aa,if_false]
     exact f4
    ·show s2.bm=_
     rw[ebl,S8,eo,Ma]
    ·simp only[al,aa,if_false]
     exact f14
    ·simp only[al,aa,if_false,if_true]
     rfl
   ·clear eb f0 f2 f4 ev emp ebl f14
    rintro r s3 hr ⟨_,⟨eb,f0,f2,f4,ev,emp,ebl⟩,f14,f17⟩;by_cases iy:((S.length-r:Nat):Int)>i
    ·obtain⟨F,hF⟩:∃F,F=S.take (S.length-r-1):=⟨_,rfl⟩
     obtain⟨R,hR⟩:∃R,R=S.drop (S.length-r):=⟨_,rfl⟩
     have hFl:F.length=S.length-r-1:=by rw[hF,dd];omega
     have hk1:S.length-r=F.length+1:=by omega
     have hFS:F.length<S.length:=by omega
     obtain⟨y,hy⟩:∃y,y=S[F.length]:=⟨_,rfl⟩
     have hW2:S.take (S.length-r)++x::S.drop (S.length-r)=F++y::x::R:=by
      rw[←hR,hk1,ey,ao hFS,←hy,hF];simp only[ahq,we,vp,An]
      congr 2
      rw[dd];omega
     have hW3:F++x::y::R=S.take (S.length-(r+1))++x::S.drop (S.length-(r+1)):=by
      have e1:S.length-(r+1)=F.length:=by omega
      have e2:S.drop F.length=y::S.drop (F.length+1):=by rw[hy];exact gd hFS
      rw[e1,e2,hR,hk1]
      congr 1
      rw[hF,dd]
      congr 1
      omega
     rw[hW2]at ebl;rw[hk1]at f17 iy
     have hRl:R.length=r:=by rw[hR];simp only[qn];omega
     have wj:=br (((F.length+1:Nat):Int)-1) (by omega) (by omega)
     have wj2:((F.length+1:Nat):Int)-1=(F.length:Int):=by omega
     rw[wj2]at wj;have g0:=at0 ce F R x y;have g1:=at1 ce F R x y
     have hl1:((F.length+1:Nat):Int)<((S.length+1:Nat):Int):=by omega
     have hl2:(F.length:Int)<((S.length+1:Nat):Int):=by omega
     have hn1:F.length+1<S.length+1:=by omega
     have hbi:s3.bm id=some (.arr sz ((F++y::x::R).map ce)):=by rw[ebl,bh]
     have ata:((F++y::x::R).map ce).length=S.length+1:=by
      have h6:=congrArg Cq hW2;simp only[cb,bq,dd,qn]at h6;simp only[ae,cb,bq];omega
     generalize hM:(F++y::x::R).map ce=M at*
     have g2:(M.set (F.length+1) (ce y))[F.length]? =some (ce y):=by rw[pv,if_neg (by omega)];exact g0
     have L1:(M.set (F.length+1) (ce y)).set F.length (ce x)=(F++x::y::R).map ce:=by
      rw[←hM,Gu,Gu,a9m]
     simp only[go_sem,aa,reduceCtorEq,f0,f14,f17,iy,ev,hbi,ata,wj,wj2,hl1,hl2,g0,g1,C3,a16,toNat_cast,aj,mkd,Vx,zx,abe,Fx,g2,L1]
     refine⟨by omega,by omega,⟨eb,f0,f2,f4,rfl,emp,?_⟩,?_⟩
     ·show jf _ _ _=jf _ _ _
      rw[ebl,hW3]
      funext i
      simp only[al];split<;>rfl
     ·rw[show S.length-(r+1)=F.length by omega]
    ·have hri:S.length-r=i:=by omega
     simp only[go_sem,aa,reduceCtorEq,f14,f17,iy];refine⟨ev,emp,?_⟩;rw[ebl,hri,←L5]
  ·rintro s3 ⟨ev,emp,ebl⟩
   simp only[go_sem,nh,Gw];intro i;simp only[Mem.put,PS.mem,ev,emp,ebl,al];by_cases hi:i=id
   ·subst hi;simp
   ·simp[hi]
end
def a4r(auq abx:Nat):cn:=
 (.seq (
 .region [⟨some 6,.ij (.c (.int .i64 20)),none,[]⟩] false []) (
 (.seq (
  .region [⟨some 10,.ij (.t 6),none,[]⟩,
   ⟨some 7,.ij (.c (.int .i64 0)),none,[]⟩,
   ⟨some 8,.ij (.t 10),none,[]⟩] false []) (
  (.seq (
  (.block 0 (
   (.loop (
   (.seq (
    (.seq (
    .region [⟨some 11,.ij (.t 8),none,[]⟩,
     ⟨some 12,.ij (.t 1),none,[]⟩,
     ⟨some 13,.bin .leq (.t 11) (.t 12),none,[]⟩] false []) (
    (.cond (.t 13) (
     .skip) (
     .exit 0))))) (
    (.block 1 (
    (.seq (
     .region [⟨some 14,.ij (.t 0),none,[]⟩,
      ⟨some 15,.ij (.t 7),none,[]⟩,
      ⟨some 16,.ij (.t 8),none,[]⟩,
      ⟨some 17,.ij (.t 2),none,[]⟩,
      ⟨some 18,.pz auq [(.t 14),(.t 15),(.t 16),(.t 17)],none,[]⟩] false []) (
     (.seq (
     .region [⟨some 19,.ij (.t 8),none,[]⟩,
      ⟨some 7,.ij (.t 19),none,[]⟩] false []) (
     .region [⟨some 20,.ij (.t 8),none,[]⟩,
      ⟨some 21,.ij (.t 6),none,[]⟩,
      ⟨some 22,.bin .add (.t 20) (.t 21),none,[]⟩,
      ⟨some 8,.ij (.t 22),none,[]⟩] false []))))))))))))) (
  (.seq (
   .region [⟨some 23,.ij (.t 0),none,[]⟩,
    ⟨some 24,.ij (.t 7),none,[]⟩,
    ⟨some 25,.ij (.t 1),none,[]⟩,
    ⟨some 26,.ij (.t 2),none,[]⟩,
    ⟨some 27,.pz auq [(.t 23),(.t 24),(.t 25),(.t 26)],none,[]⟩] false []) (
   (.block 2 (
   (.loop (
    (.seq (
    (.seq (
     .region [⟨some 28,.ij (.t 6),none,[]⟩,
      ⟨some 29,.ij (.t 1),none,[]⟩,
      ⟨some 30,.bin .lss (.t 28) (.t 29),none,[]⟩] false []) (
     (.cond (.t 30) (
     .skip) (
     .exit 2))))) (
    (.block 3 (
     (.seq (
     .region [⟨some 31,.ij (.t 6),none,[]⟩,
      ⟨some 32,.bin .mul (.c (.int .i64 2)) (.t 31),none,[]⟩,
      ⟨some 7,.ij (.c (.int .i64 0)),none,[]⟩,
      ⟨some 8,.ij (.t 32),none,[]⟩] false []) (
     (.seq (
      (.block 4 (
      (.loop (
       (.seq (
       (.seq (
        .region [⟨some 33,.ij (.t 8),none,[]⟩,
         ⟨some 34,.ij (.t 1),none,[]⟩,
         ⟨some 35,.bin .leq (.t 33) (.t 34),none,[]⟩] false []) (
        (.cond (.t 35) (
        .skip) (
        .exit 4))))) (
       (.block 5 (
        (.seq (
        .region [⟨some 36,.ij (.t 0),none,[]⟩,
         ⟨some 37,.ij (.t 7),none,[]⟩,
         ⟨some 38,.ij (.t 7),none,[]⟩,
         ⟨some 39,.ij (.t 6),none,[]⟩,
         ⟨some 40,.bin .add (.t 38) (.t 39),none,[]⟩,
         ⟨some 41,.ij (.t 8),none,[]⟩,
         ⟨some 42,.ij (.t 2),none,[]⟩,
         ⟨some 43,.pz abx [(.t 36),(.t 37),(.t 40),(.t 41),(.t 42)],none,[]⟩] false []) (
        (.seq (
         .region [⟨some 44,.ij (.t 8),none,[]⟩,
          ⟨some 7,.ij (.t 44),none,[]⟩] false []) (
         .region [⟨some 45,.ij (.t 8),none,[]⟩,
          ⟨some 46,.ij (.t 6),none,[]⟩,
          ⟨some 47,.bin .mul (.c (.int .i64 2)) (.t 46),none,[]⟩,
          ⟨some 48,.bin .add (.t 45) (.t 47),none,[]⟩,
          ⟨some 8,.ij (.t 48),none,[]⟩] false []))))))))))))) (
      (.seq (
      (.seq (
       .region [⟨some 49,.ij (.t 7),none,[]⟩,
        ⟨some 50,.ij (.t 6),none,[]⟩,
        ⟨some 51,.bin .add (.t 49) (.t 50),none,[]⟩,
        ⟨some 9,.ij (.t 51),none,[]⟩] false []) (
       (.seq (
       .region [⟨some 52,.ij (.t 9),none,[]⟩,
        ⟨some 53,.ij (.t 1),none,[]⟩,
        ⟨some 54,.bin .lss (.t 52) (.t 53),none,[]⟩] false []) (
       (.cond (.t 54) (
        .region [⟨some 55,.ij (.t 0),none,[]⟩,
         ⟨some 56,.ij (.t 7),none,[]⟩,
         ⟨some 57,.ij (.t 9),none,[]⟩,
         ⟨some 58,.ij (.t 1),none,[]⟩,
         ⟨some 59,.ij (.t 2),none,[]⟩,
         ⟨some 60,.pz abx [(.t 55),(.t 56),(.t 57),(.t 58),(.t 59)],none,[]⟩] false []) (
        .skip))))))) (
      .region [⟨some 61,.ij (.t 6),none,[]⟩,
       ⟨some 62,.bin .mul (.t 61) (.c (.int .i64 2)),none,[]⟩,
       ⟨some 6,.ij (.t 62),none,[]⟩] false []))))))))))))))))))))))
def T2{α:Type}(m:Mem)(b id q sz g:Nat)(ce:α→List D)(n:Nat)(V:List α)(s':PS):Prop:=
 s'.base=b∧s'.tmp 0= .ref id (m.ver id) n∧s'.tmp 1= .d (.int .i64 n)∧s'.tmp 2= .mb g [(q,m.ver q)]∧s'.ver=m.ver∧s'.mp=m.mp∧s'.bm=jf m.bm id (some (.arr sz (V.map ce)))
section
variable{P:Program}
def aAf(l:List Nat):Ann:={imm:=[],rb:=[],ce:=[],cf:=[],cr:=l,kp:=[],cv:=[],dyn:=[],od:=[]}
theorem aBl{m:Mem}{id sz:Nat}{b:B}(hb:m.bm id=some b):m.put id (m.ver id) b=m:=by
 cases m with
 |mk bm ver mp=>
  simp only[Mem.put,Mem.mk.injEq,and_true];refine⟨?_,?_⟩
  ·funext i
   simp only[al];split
   ·rename_i h;subst h;exact hb.symm
   ·rfl
  ·funext i
   simp only[al];split
   ·rename_i h;subst h;rfl
   ·rfl
theorem ayi{m:Mem}{id v:Nat}{b b':B}:(m.put id v b).put id v b'=m.put id v b':=ark
theorem a9q(hm:P.follows .mixedOrders=true){f fi fs fr fs2:Nat}{sz:Nat}(hf:dj P f (aAf [18,27,43,60])=some (a4r fi fs,[],63))(hfi:dj P fi {}=some (ab7 sz,[],53))(hfs:dj P fs {}=some (aqk sz fr fs2,[],220)){α:Type}{ce:α→List D}{key:α→ByteArray}(C3:∀x,(ce x).length=sz)(Ac:∀x,(ce x).all D.one=true){g q qv:Nat}{X:D}
  (abf:∀x y,fp P g [.agg (ce x),.agg (ce y),.tz [X] 0] (.int .i64 (byC (key x) (key y)))){m:Mem}{id ver:Nat}{W:List α}(hl:W.length≤21)(hb:m.bm id=some (.arr sz (W.map ce)))(hv:m.ver id=ver)
  (hq:m.bm q=some (.loc [.d X]))(hqv:m.ver q=qv)(kg:id≠q)(b:Nat):
  nj P f m [.ref id ver W.length,.d (.int .i64 W.length),.mb g [(q,qv)]] (m.put id ver (.arr sz ((ic key W).map ce))) (.yi []):=by
 subst hv hqv
 refine jt hm hf (by simp) b (fun c=>?_) (Mem.Ja (ar _)) Mem.Nq (fun i es hi=> .inl hi) (by simp[F5])
 show jd P (a4r fi fs) (u0 m [] _ _) _
 have a1c:∀(mm:Mem) (V:List α) (a b':Nat),V.length=W.length→a≤b'→b'≤W.length→mm.bm id=some (.arr sz (V.map ce))→mm.ver=m.ver→mm.bm q=m.bm q→nj P fi mm [.ref id (m.ver id) W.length,.d (.int .i64 a),.d (.int .i64 b'),.mb g [(q,m.ver q)]] (mm.put id (m.ver id) (.arr sz ((V.take a++ic key ((V.drop a).take (b'-a))++V.drop b').map ce))) (.yi []):=by
  intro mm V a b' h1 h2 h3 h4 h5 h6;rw[←h1]
  exact asv hm hfi C3 Ac abf h2 (by omega) (by omega) h4 (by rw[h5]) (by rw[h6];exact hq) (by rw[h5]) kg (b+100)
 have Ci:∀(s':PS),s'.ver=m.ver→s'.mp=m.mp→s'.bm=jf m.bm id (some (.arr sz ((ic key W).map ce)))→Clean s'.mem (m.put id (m.ver id) (.arr sz ((ic key W).map ce))):=by
  intro s' ev emp ebl i;simp only[Mem.put,PS.mem,ev,emp,ebl,al];by_cases hi:i=id
  ·subst hi;simp
  ·simp[hi]
 have To:∀(mm:Mem) bb,mm.ver=m.ver→(mm.put id (m.ver id) bb).ver=m.ver:=fun mm bb h=>by
  funext i
  simp only[Mem.put,al,h];split
  ·rename_i h;rw[h]
  ·rfl
 simp only[a4r,enter,go_sem,aa]
 have aBw:jf m.bm id (some (.arr sz (W.map ce)))=m.bm:=by
  funext i
  simp only[al];split
  ·rename_i h;subst h;exact hb.symm
  ·rfl
 have hqu:∀bb,jf m.bm id bb q=m.bm q:=fun bb=>er _ _ _ _ kg.symm
 have Yz:∀(s':PS) V,T2 m b id q sz g ce W.length V s'→s'.mem.bm id=some (.arr sz (V.map ce))∧s'.mem.ver=m.ver∧s'.mem.bm q=m.bm q:=by
  rintro s' V ⟨_,_,_,_,ev,emp,ebl⟩
  exact⟨by show s'.bm id=_;rw[ebl,bh],ev,by show s'.bm q=_;rw[ebl,hqu]⟩
 refine Wh (i:=0) (fun s'=>s'.tmp 6= .d (.int .i64 20)∧((W.length<20∧T2 m b id q sz g ce W.length W s'∧s'.tmp 7= .d (.int .i64 0))∨(20≤W.length∧T2 m b id q sz g ce W.length (ic key (W.take 20)++W.drop 20) s'∧s'.tmp 7= .d (.int .i64 20)))) ?_ ?_
 ·refine dq 1 (fun k s'=>s'.tmp 6= .d (.int .i64 20)∧((k=0∧T2 m b id q sz g ce W.length W s'∧s'.tmp 7= .d (.int .i64 0)∧s'.tmp 8= .d (.int .i64 20))∨(k=1∧20≤W.length∧T2 m b id q sz g ce W.length (ic key (W.take 20)++W.drop 20) s'∧s'.tmp 7= .d (.int .i64 20)∧s'.tmp 8= .d (.int .i64 40)))) ?_ ?_
  ·exact⟨rfl,.inl ⟨rfl,⟨rfl,rfl,rfl,rfl,rfl,rfl,aBw.symm⟩,rfl,rfl⟩⟩
  ·rintro k s' hk ⟨f6,h⟩
   rcases h with ⟨rfl,hT,f7,f8⟩|⟨rfl,h20,hT,f7,f8⟩
   ·have hT2:=hT
    obtain⟨eb,f0,f1,f2,ev,emp,ebl⟩:=hT2;by_cases h20:(20:Int)≤W.length
    ·have atb:20≤W.length:=by omega
     simp only[go_sem,aa,reduceCtorEq,f0,f1,f2,f7,f8,h20];obtain⟨q1,q2,q3⟩:=Yz s' W hT
     refine jw (nj.toR (a1c _ W 0 20 rfl (by omega) atb q1 q2 q3)) ?_
     rintro m' r ⟨rfl,rfl⟩
     have w40:kc.wrap 40=40:=by decide
     simp only[go_sem,aa,aF9,reduceCtorEq,PS.gl,PS.mem,Mem.put,f6,f7,f8,w40]
     refine⟨by omega,.inr ⟨atb,⟨eb,f0,f1,f2,?_,emp,?_⟩⟩⟩
     ·show jf s'.ver _ _=m.ver
      exact To s'.mem (.loc []) ev
     ·show jf s'.bm _ _=_
      rw[ebl]
      funext i
      simp only[al,S8];split<;>rfl
    ·have atb:W.length<20:=by omega
     simp only[go_sem,aa,reduceCtorEq,f1,f8,f6,f7,h20];exact .inl ⟨atb,eb,f0,f1,f2,ev,emp,ebl⟩
   ·have hT2:=hT
    obtain⟨eb,f0,f1,f2,ev,emp,ebl⟩:=hT2
    have h40:¬((40:Int)≤W.length):=by omega
    simp only[go_sem,aa,reduceCtorEq,f1,f8,f6,f7,h40];exact .inr ⟨h20,eb,f0,f1,f2,ev,emp,ebl⟩
 ·intro s1 h1
  have aBs:s1.tmp 6= .d (.int .i64 20)∧∃V a,V.length=W.length∧a≤W.length∧T2 m b id q sz g ce W.length V s1∧s1.tmp 7= .d (.int .i64 (a:Nat))∧V.take a++ic key ((V.drop a).take (W.length-a))++V.drop W.length=if W.length≤20 then ic key W else ic key (W.take 20)++W.drop 20:=by
   obtain⟨f6,h⟩:=h1;refine⟨f6,?_⟩;rcases h with ⟨h20,hT,f7⟩|⟨h20,hT,f7⟩
   ·refine⟨W,0,rfl,aFr _,hT,f7,?_⟩
    rw[if_pos (by omega)]
    simp
   ·have hVl:(ic key (W.take 20)++W.drop 20).length=W.length:=by
     rw[cb,x6,←cb,Mf]
    have hil:(ic key (W.take 20)).length=20:=by rw[x6,dd];omega
    refine⟨_,20,hVl,h20,hT,f7,?_⟩;have e1:(ic key (W.take 20)++W.drop 20).take 20=ic key (W.take 20):=aEq hil;have e2:(ic key (W.take 20)++W.drop 20).drop 20=W.drop 20:=List.drop_left' hil;rw[e1,e2,Yn (aFf hVl),th];by_cases h21:W.length≤20
    ·have e20:W.length=20:=by omega
     rw[if_pos h21,e20,Yn (aFf e20)];rw[Ab (aFf e20)];show ic key W++ic key []=_;simp[ic]
    ·have e21:W.length=21:=by omega
     rw[if_neg h21]
     have:W.drop 20=[W[20]]:=by
      rw[gd (by omega),Yn (by omega)]
     have e1':W.length-20=1:=by omega
     rw[this,e1'];rfl
  obtain⟨f6,V,a,hVl,ha,hT,f7,hV⟩:=aBs;have hT2:=hT;obtain⟨eb,f0,f1,f2,ev,emp,ebl⟩:=hT2;simp only[go_sem,aa,f0,f1,f2,f7];obtain⟨q1,q2,q3⟩:=Yz s1 V hT;refine jw (nj.toR (a1c _ V a W.length hVl ha (ar _) q1 q2 q3)) ?_;rintro m' r ⟨rfl,rfl⟩;rw[hV]
  generalize hV2:(if W.length≤20 then ic key W else ic key (W.take 20)++W.drop 20)=V2 at*
  simp only[go_sem,PS.gl,PS.mem,Mem.put]
  refine dq 1 (fun k s'=>(k=0∧T2 m b id q sz g ce W.length V2 s'∧s'.tmp 6= .d (.int .i64 20))∨(k=1∧T2 m b id q sz g ce W.length (ic key W) s'∧s'.tmp 6= .d (.int .i64 40))) ?_ ?_
  ·refine .inl ⟨rfl,⟨eb,f0,f1,f2,To s1.mem (.loc []) ev,emp,?_⟩,f6⟩
   show jf s1.bm _ _=_;rw[ebl]
   funext i
   simp only[al];split<;>rfl
  ·clear eb f0 f1 f2 ev emp ebl f6 f7
   rintro k s2 hk h;rcases h with ⟨rfl,hT,f6⟩|⟨rfl,hT,f6⟩
   ·have hT2:=hT
    obtain⟨eb,f0,f1,f2,ev,emp,ebl⟩:=hT2;by_cases h21:(20:Int)<W.length
    ·have e21:W.length=21:=by omega
     have w40:kc.wrap 40=40:=by decide
     have w20:kc.wrap 20=20:=by decide
     have h40:¬((40:Int)≤W.length):=by omega
     simp only[go_sem,aa,Int.reduceMul,reduceCtorEq,f1,f6,h21,w40]
     refine Wh (i:=4) (fun s3=>T2 m b id q sz g ce W.length V2 s3∧s3.tmp 6= .d (.int .i64 20)∧s3.tmp 7= .d (.int .i64 0)) ?_ ?_
     ·refine dq 0 (fun k s3=>T2 m b id q sz g ce W.length V2 s3∧s3.tmp 6= .d (.int .i64 20)∧s3.tmp 7= .d (.int .i64 0)∧s3.tmp 8= .d (.int .i64 40)) ?_ ?_
      ·exact⟨⟨eb,f0,f1,f2,ev,emp,ebl⟩,f6,rfl,rfl⟩
      ·rintro k s3 _ ⟨⟨eb,f0,f1,f2,ev,emp,ebl⟩,f6,f7,f8⟩
       simp only[go_sem,aa,aF9,reduceCtorEq,f1,f6,f7,f8,h40];exact⟨eb,f0,f1,f2,ev,emp,ebl⟩
     ·clear eb f0 f1 f2 ev emp ebl f6 hT
      rintro s3 ⟨hT,f6,f7⟩;have hT2:=hT;obtain⟨eb,f0,f1,f2,ev,emp,ebl⟩:=hT2;obtain⟨q1,q2,q3⟩:=Yz s3 V2 hT
      have eV:V2=ic key (W.take 20)++[W[20]]:=by
       rw[←hV2,if_neg (by omega),gd (by omega),Yn (show W.length≤20+1 by omega)]
      have hil:(ic key (W.take 20)).length=20:=by rw[x6,dd];omega
      rw[eV]at q1
      have hsy:=aqj hm hfs C3 Ac abf (m:=s3.mem) (id:=id) (ver:=m.ver id) (S:=ic key (W.take 20)) (x:=W[20]) (by omega) (by omega) (a7s key _) q1 (by rw[q2]) (qv:=m.ver q) (by rw[q3];exact hq) (by rw[q2]) kg (b+100)
      rw[hil]at hsy
      have L5:(sq key (ic key (W.take 20)).reverse W[20]).reverse=ic key W:=by
       rw[←Cg]
       congr 1
       have:W.take 20++[W[20]]=W.take 21:=by
        have h:=ey (l:=W) (i:=20)
        rw[ao (show 20<W.length by omega)]at h
        exact h.symm
       rw[this,Ab (by omega)]
      rw[L5]at hsy
      have aA1:((W.length:Nat):Int)=21:=by omega
      rw[e21]at f0;rw[aA1]at f1;simp only[go_sem,aa,bx,aF9,reduceCtorEq,f0,f1,f2,f6,f7,w20];refine jw (nj.toR hsy) ?_;rintro m' r ⟨rfl,rfl⟩;simp only[go_sem,aa,Int.reduceMul,reduceCtorEq,PS.gl,PS.mem,Mem.put,f6,w40]
      refine⟨by omega,.inr ⟨eb,?_,?_,f2,To s3.mem (.loc []) ev,emp,?_⟩⟩
      ·rw[e21];exact f0
      ·show s3.tmp 1=_
       rw[f1,aA1]
      ·show jf s3.bm _ _=_
       rw[ebl]
       funext i
       simp only[al];split<;>rfl
    ·simp only[go_sem,aa,reduceCtorEq,f1,f6,h21,nh,Gw]
     refine Ci _ ev emp ?_;show s2.bm=_
     rw[ebl,←hV2,if_pos (by omega)]
   ·have hT2:=hT
    obtain⟨eb,f0,f1,f2,ev,emp,ebl⟩:=hT2
    have h40:¬((40:Int)<W.length):=by omega
    simp only[go_sem,aa,reduceCtorEq,f1,f6,h40,nh,Gw];exact Ci _ ev emp ebl
end
section
variable{P:Program}
theorem asw(hm:P.follows .mixedOrders=true){f:Nat}{sz:Nat}(hf:dj P f {}=some (ab7 sz,[],53))(m:Mem)(v:V)(hv:F5 m v)(b:Nat):nj P f m [.d .bd,.d (.int .i64 0),.d (.int .i64 0),v] m (.yi []):=by
 refine jt hm hf (by simp) b (fun c=>?_) (fun i=>ar _) (fun i x hx=> .inl hx) (fun i es hi=> .inl hi) (by simp[F5])
 show jd P (ab7 sz) (u0 m [] _ _) _
 have w1:kc.wrap 1=1:=by decide
 simp only[ab7,enter,go_sem,aa,aF9,reduceCtorEq,w1]
 refine dq 0 (fun k s'=>s'.tmp 8= .d (.int .i64 1)∧s'.tmp 2= .d (.int .i64 0)∧s'.mem=m) ?_ ?_
 ·exact⟨rfl,rfl,rfl⟩
 ·rintro k s' _ ⟨f8,f2,hmm⟩
  simp only[go_sem,aa,bx,reduceCtorEq,f8,f2,nh,Gw];show Clean s'.mem m;rw[hmm]
  exact fun i=>⟨.inr ⟨rfl,rfl⟩,.inr ⟨rfl,rfl⟩⟩
theorem a9r(hm:P.follows .mixedOrders=true){f fi fs:Nat}{sz:Nat}(hf:dj P f (aAf [18,27,43,60])=some (a4r fi fs,[],63))(hfi:dj P fi {}=some (ab7 sz,[],53))(m:Mem)(v:V)(hv:F5 m v)(b:Nat):nj P f m [.d .bd,.d (.int .i64 0),v] m (.yi []):=by
 refine jt hm hf (by simp) b (fun c=>?_) (fun i=>ar _) (fun i x hx=> .inl hx) (fun i es hi=> .inl hi) (by simp[F5])
 show jd P (a4r fi fs) (u0 m [] _ _) _;simp only[a4r,enter,go_sem,aa]
 refine Wh (i:=0) (fun s'=>s'.tmp 0= .d .bd∧s'.tmp 1= .d (.int .i64 0)∧s'.tmp 2=v∧s'.tmp 6= .d (.int .i64 20)∧s'.tmp 7= .d (.int .i64 0)∧s'.mem=m) ?_ ?_
 ·refine dq 0 (fun k s'=>s'.tmp 0= .d .bd∧s'.tmp 1= .d (.int .i64 0)∧s'.tmp 2=v∧s'.tmp 6= .d (.int .i64 20)∧s'.tmp 7= .d (.int .i64 0)∧s'.tmp 8= .d (.int .i64 20)∧s'.mem=m) ?_ ?_
  ·exact⟨rfl,rfl,rfl,rfl,rfl,rfl,rfl⟩
  ·rintro k s' _ ⟨f0,f1,f2,f6,f7,f8,hmm⟩
   simp only[go_sem,aa,df,reduceCtorEq,f0,f1,f2,f6,f7,f8];exact hmm
 ·rintro s1 ⟨f0,f1,f2,f6,f7,hmm⟩
  simp only[go_sem,aa,f0,f1,f2,f7]
  refine jw (nj.toR (asw hm hfi _ v (by show F5 s1.mem v;rw[hmm];exact hv) (b+100))) ?_
  rintro m' r ⟨rfl,rfl⟩;simp only[go_sem,PS.gl,PS.mem]
  refine dq 0 (fun k s'=>s'.tmp 1= .d (.int .i64 0)∧s'.tmp 6= .d (.int .i64 20)∧s'.mem=m) ?_ ?_
  ·refine⟨?_,?_,hmm⟩
   ·simp only[al,aa,if_false]
    exact f1
   ·simp only[al,aa,if_false]
    exact f6
  ·rintro k s' _ ⟨f1,f6,hmm⟩
   simp only[go_sem,aa,bx,reduceCtorEq,f1,f6,nh,Gw];show Clean s'.mem m;rw[hmm]
   exact fun i=>⟨.inr ⟨rfl,rfl⟩,.inr ⟨rfl,rfl⟩⟩
end
section
variable{P:Program}(A:Pr4 P)
theorem a0a(a b:ByteArray):fp P A.l8 [.str a,.str b] (.int .i64 (byC a b)):=by
 refine cy A.mo A.Tz (by simp) ?_
 show jd P zr (kf _ _) _;unfold byC;cases h1:strLt a b
 ·have h1':=h1
  unfold strLt at h1';cases h2:jh a b
  ·have h2':=h2
   unfold jh at h2';simp only[zr,go_sem,aa,bc,reduceCtorEq,h1',h2',Bool.or_self]
  ·have h2':=h2
   unfold jh at h2';simp only[zr,go_sem,aa,bc,reduceCtorEq,h1',h2',aF0]
 ·have h1':=h1
  unfold strLt at h1';simp only[zr,go_sem,aa,bc,reduceCtorEq,h1']
theorem adi(p q:Pm):fp P A.mz [.agg (pn p),.agg (pn q),.tz [.mb A.l8 []] 0] (.int .i64 (byC p.n q.n)):=by
 refine cy A.mo A.Ty (by simp) ?_
 show jd P G7 (kf _ _) _;simp only[G7,pn,go_sem,aa,ab,ag];refine Ly (a0a A p.n q.n) ?_;simp only[go_sem,aa]
theorem adh(x y:WN):fp P A.my [.agg (Ag x),.agg (Ag y),.tz [.mb A.l8 []] 0] (.int .i64 (byC x.n.n y.n.n)):=by
 refine cy A.mo A.Tx (by simp) ?_
 show jd P G6 (kf _ _) _;have ox:=x.ox;have oy:=x.oy;have px:=y.ox;have py:=y.oy;simp only[D.one]at ox oy px py;simp only[G6,Ag,jv,go_sem,aa,ab,ag];refine gf (a0a A x.n.n y.n.n) ?_;simp only[go_sem,aa]
theorem atw(z:WN):(Ag z).all D.one=true:=by
 simp only[Ag,Sl,aEw,z.ox,z.oy,F9];rfl
theorem aub{m:Mem}{id ver q qv:Nat}{ps:List Pm}(hl:ps.length≤21)(hb:m.bm id=some (.arr 2 (ps.map pn)))(hv:m.ver id=ver)(hq:m.bm q=some (.loc [.d (.mb A.l8 [])]))(hqv:m.ver q=qv)(kg:id≠q)(b:Nat):
  nj P A.fw m [.ref id ver ps.length,.mb A.mz [(q,qv)]] (m.put id ver (.arr 2 ((ic Pm.n ps).map pn))) (.yi []):=by
 subst hv hqv
 refine jt A.mo A.xr (by simp) b (fun c=>?_) (Mem.Ja (ar _)) Mem.Nq (fun i es hi=> .inl hi) (by simp[F5])
 show jd P (lj A.ki) (u0 m [] _ _) _;simp only[lj,enter,go_sem,aa,reduceCtorEq,hb,ae]
 refine jw (nj.toR (a9q A.mo (fi:=A.ia) (fs:=A.fg) A.yd A.u7 A.Dy (ce:=pn) (key:=Pm.n) (fun _=>rfl) (fun _=>rfl) (adi A) hl hb rfl hq rfl kg (b+100))) ?_
 rintro m' r ⟨rfl,rfl⟩;simp only[go_sem,PS.gl,PS.mem,nh,Gw]
 exact fun i=>⟨.inr ⟨rfl,rfl⟩,.inr ⟨rfl,rfl⟩⟩
theorem auc{m:Mem}{id ver q qv:Nat}{zs:List WN}(hl:zs.length≤21)(hb:m.bm id=some (.arr 5 (zs.map Ag)))(hv:m.ver id=ver)(hq:m.bm q=some (.loc [.d (.mb A.l8 [])]))(hqv:m.ver q=qv)(kg:id≠q)(b:Nat):
  nj P A.ga m [.ref id ver zs.length,.mb A.my [(q,qv)]] (m.put id ver (.arr 5 ((ic (fun z=>z.n.n) zs).map Ag))) (.yi []):=by
 subst hv hqv
 refine jt A.mo A.ye (by simp) b (fun c=>?_) (Mem.Ja (ar _)) Mem.Nq (fun i es hi=> .inl hi) (by simp[F5])
 show jd P (ly A.ko) (u0 m [] _ _) _;simp only[ly,enter,go_sem,aa,reduceCtorEq,hb,ae]
 refine jw (nj.toR (a9q A.mo (fi:=A.il) (fs:=A.fk) A.yx A.uv A.Eo (ce:=Ag) (key:=fun z=>z.n.n) (fun _=>rfl) atw (adh A) hl hb rfl hq rfl kg (b+100))) ?_
 rintro m' r ⟨rfl,rfl⟩;simp only[go_sem,PS.gl,PS.mem,nh,Gw]
 exact fun i=>⟨.inr ⟨rfl,rfl⟩,.inr ⟨rfl,rfl⟩⟩
theorem a9x(m:Mem)(q qv:Nat)(hq:qv≤m.ver q)(b:Nat):nj P A.fw m [.d .bd,.mb A.mz [(q,qv)]] m (.yi []):=by
 refine jt A.mo A.xr (by simp) b (fun c=>?_) (fun i=>ar _) (fun i x hx=> .inl hx) (fun i es hi=> .inl hi) (by simp[F5])
 show jd P (lj A.ki) (u0 m [] _ _) _;simp only[lj,enter,go_sem,aa,reduceCtorEq]
 refine jw (nj.toR (a9r A.mo (fi:=A.ia) (fs:=A.fg) (sz:=2) A.yd A.u7 _ _ (by simpa[F5,PS.mem]using hq) (b+100))) ?_
 rintro m' r ⟨rfl,rfl⟩;simp only[go_sem,PS.gl,PS.mem,nh,Gw]
 exact fun i=>⟨.inr ⟨rfl,rfl⟩,.inr ⟨rfl,rfl⟩⟩
theorem a9y(m:Mem)(q qv:Nat)(hq:qv≤m.ver q)(b:Nat):nj P A.ga m [.d .bd,.mb A.my [(q,qv)]] m (.yi []):=by
 refine jt A.mo A.ye (by simp) b (fun c=>?_) (fun i=>ar _) (fun i x hx=> .inl hx) (fun i es hi=> .inl hi) (by simp[F5])
 show jd P (ly A.ko) (u0 m [] _ _) _;simp only[ly,enter,go_sem,aa,reduceCtorEq]
 refine jw (nj.toR (a9r A.mo (fi:=A.il) (fs:=A.fk) (sz:=5) A.yx A.uv _ _ (by simpa[F5,PS.mem]using hq) (b+100))) ?_
 rintro m' r ⟨rfl,rfl⟩;simp only[go_sem,PS.gl,PS.mem,nh,Gw]
 exact fun i=>⟨.inr ⟨rfl,rfl⟩,.inr ⟨rfl,rfl⟩⟩
def Oa(m:Mem)(pid:Nat)(ps:List Pm)(cP:C):Mem:=if isRef cP=true then m.put pid (m.ver pid) (.arr 2 ((ic Pm.n ps).map pn))else m
def Ob(m:Mem)(nid:Nat)(zs:List WN)(cN:C):Mem:=if isRef cN=true then m.put nid (m.ver nid) (.arr 5 ((ic (fun z=>z.n.n) zs).map Ag))else m
theorem Rq{m:Mem}{b pid nid:Nat}{ps:List Pm}{zs:List WN}{cP cN:C}(hlp:ps.length≤21)(hln:zs.length≤21)(oP:Own m pid 2 (ps.map pn) cP)(oN:Own m nid 5 (zs.map Ag) cN)(kg:pid≠nid)(j1:qb m b):
  nj P A.ot m [mkv true [cP,cN]] (Ob (Oa m pid ps cP) nid zs cN) (mkv true [cP,cN]):=by
 have hp:∀{x},m.bm pid=some x→pid<b:=fun h=>j1.lt h
 have hn:∀{x},m.bm nid=some x→nid<b:=fun h=>j1.lt h
 have Ci:∀(m2 s1:Mem),m2.ver=m.ver→m2.mp=m.mp→(∀i,b≤i→m2.bm i=none)→(∀i,i<b→s1.ver i=m.ver i)→s1.mp=m.mp→(∀i,i<b→s1.bm i=m2.bm i)→Clean s1 m2:=by
  intro m2 s1 h1 h2 h3 h4 h5 h6
  refine rp (b:=b) (fun i hi=>⟨(h6 i hi).symm,?_,?_⟩) (fun i hi=>⟨.inl (h3 i hi),?_⟩)
  ·rw[h1,h4 i hi]
  ·rw[h2,h5]
  ·rw[h2];exact(j1 i hi).2
 rcases oP with ⟨e1,rfl⟩|⟨rfl,Ad⟩<;>rcases oN with ⟨e2,rfl⟩|⟨rfl,xp⟩
 ·have hmm:Ob (Oa m pid ps (.d .bd)) nid zs (.d .bd)=m:=by
   simp only[Ob,Oa,isRef,ec,if_false]
  rw[hmm];have Z0:(ic Pm.n ps).length=ps.length:=x6 _ _
  have Z1:(ic (fun z:WN=>z.n.n) zs).length=zs.length:=x6 _ _
  have hv1:m.ver=m.ver:=by
   rfl
  have hb1:∀i,b≤i→m.bm i=none:=fun i hi=>by
   exact(j1 i hi).1
  have hw1:∀i x,m.bm i=some x→m.bm i=some x∨Jw m x:=fun i x hx=>by
   exact .inl hx
  refine jt A.mo A.Ep (by simp) b (fun c=>?_) (fun i=>by rw[hv1];exact ar _) hw1 (fun i es hi=> .inl hi) (Wr fun c hc=>?_)
  rotate_left
  ·simp only[dn,jg,or_false]at hc
   rcases hc with rfl|rfl
   ·trivial
   ·trivial
  show jd P (r5 A.l8 A.mz A.fw A.my A.ga) (u0 m [.cell 2 2 true] _ _) _;simp only[r5,enter,go_sem,aa,ab,ag];refine jw (nj.toR (a9x A _ _ _ ?_ (b+100))) ?_
  ·simp only[PS.mem,bh]
   exact ar _
  rintro m' r ⟨rfl,rfl⟩;simp only[go_sem,aa,ab,PS.gl,PS.mem];refine jw (nj.toR (a9y A _ _ _ ?_ (b+100))) ?_
  ·simp only[PS.mem,al]
   (try rw[if_neg (by omega)])
   simp only[if_true];exact ar _
  rintro m' r ⟨rfl,rfl⟩;simp only[go_sem,aa,ab,PS.gl,PS.mem,nh,qa]
  refine Ci _ _ hv1 rfl hb1 (fun i hi=>?_) ?_ (fun i hi=>?_)
  ·simp only[al]
   (repeat' split)<;>first|rfl|omega|(subst_vars;first|rfl|omega)
  ·rfl
  ·simp only[al]
   (repeat' split)<;>first|rfl|omega|(subst_vars;first|rfl|omega)
 ·have hmm:Ob (Oa m pid ps (.d .bd)) nid zs (.ref nid (m.ver nid) (zs.map Ag).length)=(m.put nid (m.ver nid) (.arr 5 ((ic (fun z=>z.n.n) zs).map Ag))):=by
   simp only[Ob,Oa,isRef,if_true,ec,if_false]
  rw[hmm];have Z0:(ic Pm.n ps).length=ps.length:=x6 _ _
  have Z1:(ic (fun z:WN=>z.n.n) zs).length=zs.length:=x6 _ _
  have hnl:=hn xp
  have hn3:nid≠b+3:=by omega
  have hn1:nid≠b+1:=by omega
  have hn2:nid≠b+2:=by omega
  have hv1:(m.put nid (m.ver nid) (.arr 5 ((ic (fun z=>z.n.n) zs).map Ag))).ver=m.ver:=by
   funext i
   simp only[Mem.put,al]
   (repeat' split)<;>first|rfl|(subst_vars;rfl)
  have hb1:∀i,b≤i→(m.put nid (m.ver nid) (.arr 5 ((ic (fun z=>z.n.n) zs).map Ag))).bm i=none:=fun i hi=>by
   simp only[Mem.put,al]
   (repeat' rw[if_neg (by omega)])
   exact(j1 i hi).1
  have hw1:∀i x,(m.put nid (m.ver nid) (.arr 5 ((ic (fun z=>z.n.n) zs).map Ag))).bm i=some x→m.bm i=some x∨Jw (m.put nid (m.ver nid) (.arr 5 ((ic (fun z=>z.n.n) zs).map Ag))) x:=fun i x hx=>by
   simp only[Mem.put,al]at hx
   (repeat' split at hx)<;>first|exact .inl hx|(injection hx with hx;subst hx;exact .inr trivial)
  refine jt A.mo A.Ep (by simp) b (fun c=>?_) (fun i=>by rw[hv1];exact ar _) hw1 (fun i es hi=> .inl hi) (Wr fun c hc=>?_)
  rotate_left
  ·simp only[dn,jg,or_false]at hc
   rcases hc with rfl|rfl
   ·trivial
   ·show m.ver nid≤(m.put nid (m.ver nid) (.arr 5 ((ic (fun z=>z.n.n) zs).map Ag))).ver nid
    rw[hv1];exact ar _
  show jd P (r5 A.l8 A.mz A.fw A.my A.ga) (u0 m [.cell 2 2 true] _ _) _;simp only[r5,enter,go_sem,aa,ab,ag,ae];refine jw (nj.toR (a9x A _ _ _ ?_ (b+100))) ?_
  ·simp only[PS.mem,bh]
   exact ar _
  rintro m' r ⟨rfl,rfl⟩;simp only[go_sem,aa,ab,PS.gl,PS.mem,Mem.put];refine jw (nj.toR (auc A hln ?_ ?_ ?_ ?_ hn3 (b+100))) ?_
  ·simp only[PS.mem,al]
   (repeat' rw[if_neg (by omega)])
   exact xp
  ·simp only[PS.mem,al]
   (repeat' rw[if_neg (by omega)])
  ·simp only[PS.mem,al]
   (try rw[if_neg (by omega)])
   simp only[if_true]
  ·simp only[PS.mem,al]
   (try rw[if_neg (by omega)])
   simp only[if_true]
  rintro m' r ⟨rfl,rfl⟩;simp only[go_sem,aa,ab,PS.gl,PS.mem,Mem.put,beq_self_eq_true,ae,nh,qa,xp,hn3,hn1,hn2,hn1.symm,hn2.symm,Z1]
  refine Ci _ _ hv1 rfl hb1 (fun i hi=>?_) ?_ (fun i hi=>?_)
  ·simp only[al]
   (repeat' split)<;>first|rfl|omega|(subst_vars;first|rfl|omega)
  ·rfl
  ·simp only[al]
   (repeat' split)<;>first|rfl|omega|(subst_vars;first|rfl|omega)
 ·have hmm:Ob (Oa m pid ps (.ref pid (m.ver pid) (ps.map pn).length)) nid zs (.d .bd)=(m.put pid (m.ver pid) (.arr 2 ((ic Pm.n ps).map pn))):=by
   simp only[Ob,Oa,isRef,if_true,ec,if_false]
  rw[hmm];have Z0:(ic Pm.n ps).length=ps.length:=x6 _ _
  have Z1:(ic (fun z:WN=>z.n.n) zs).length=zs.length:=x6 _ _
  have hpl:=hp Ad
  have hp3:pid≠b+3:=by omega
  have hp1:pid≠b+1:=by omega
  have hp2:pid≠b+2:=by omega
  have hv1:(m.put pid (m.ver pid) (.arr 2 ((ic Pm.n ps).map pn))).ver=m.ver:=by
   funext i
   simp only[Mem.put,al]
   (repeat' split)<;>first|rfl|(subst_vars;rfl)
  have hb1:∀i,b≤i→(m.put pid (m.ver pid) (.arr 2 ((ic Pm.n ps).map pn))).bm i=none:=fun i hi=>by
   simp only[Mem.put,al]
   (repeat' rw[if_neg (by omega)])
   exact(j1 i hi).1
  have hw1:∀i x,(m.put pid (m.ver pid) (.arr 2 ((ic Pm.n ps).map pn))).bm i=some x→m.bm i=some x∨Jw (m.put pid (m.ver pid) (.arr 2 ((ic Pm.n ps).map pn))) x:=fun i x hx=>by
   simp only[Mem.put,al]at hx
   (repeat' split at hx)<;>first|exact .inl hx|(injection hx with hx;subst hx;exact .inr trivial)
  refine jt A.mo A.Ep (by simp) b (fun c=>?_) (fun i=>by rw[hv1];exact ar _) hw1 (fun i es hi=> .inl hi) (Wr fun c hc=>?_)
  rotate_left
  ·simp only[dn,jg,or_false]at hc
   rcases hc with rfl|rfl
   ·show m.ver pid≤(m.put pid (m.ver pid) (.arr 2 ((ic Pm.n ps).map pn))).ver pid
    rw[hv1];exact ar _
   ·trivial
  show jd P (r5 A.l8 A.mz A.fw A.my A.ga) (u0 m [.cell 2 2 true] _ _) _;simp only[r5,enter,go_sem,aa,ab,ag,ae];refine jw (nj.toR (aub A hlp ?_ ?_ ?_ ?_ hp3 (b+100))) ?_
  ·simp only[PS.mem,al]
   (repeat' rw[if_neg (by omega)])
   exact Ad
  ·simp only[PS.mem,al]
   (repeat' rw[if_neg (by omega)])
  ·simp only[PS.mem,al,if_true]
  ·simp only[PS.mem,al,if_true]
  rintro m' r ⟨rfl,rfl⟩;simp only[go_sem,aa,ab,PS.gl,PS.mem,Mem.put,hp1.symm];refine jw (nj.toR (a9y A _ _ _ ?_ (b+100))) ?_
  ·simp only[PS.mem,al]
   (try rw[if_neg (by omega)])
   simp only[if_true];exact ar _
  rintro m' r ⟨rfl,rfl⟩;simp only[go_sem,aa,ab,PS.gl,PS.mem,beq_self_eq_true,ae,nh,qa,Ad,hp3,hp1,hp2,hp1.symm,hp2.symm,Z0]
  refine Ci _ _ hv1 rfl hb1 (fun i hi=>?_) ?_ (fun i hi=>?_)
  ·simp only[al]
   (repeat' split)<;>first|rfl|omega|(subst_vars;first|rfl|omega)
  ·rfl
  ·simp only[al]
   (repeat' split)<;>first|rfl|omega|(subst_vars;first|rfl|omega)
 ·have hmm:Ob (Oa m pid ps (.ref pid (m.ver pid) (ps.map pn).length)) nid zs (.ref nid (m.ver nid) (zs.map Ag).length)=((m.put pid (m.ver pid) (.arr 2 ((ic Pm.n ps).map pn))).put nid (m.ver nid) (.arr 5 ((ic (fun z=>z.n.n) zs).map Ag))):=by
   simp only[Ob,Oa,isRef,if_true];simp only[Mem.put,er _ _ _ _ kg.symm]
  rw[hmm];have Z0:(ic Pm.n ps).length=ps.length:=x6 _ _
  have Z1:(ic (fun z:WN=>z.n.n) zs).length=zs.length:=x6 _ _
  have hpl:=hp Ad
  have hp3:pid≠b+3:=by omega
  have hp1:pid≠b+1:=by omega
  have hp2:pid≠b+2:=by omega
  have hnl:=hn xp
  have hn3:nid≠b+3:=by omega
  have hn1:nid≠b+1:=by omega
  have hn2:nid≠b+2:=by omega
  have hv1:((m.put pid (m.ver pid) (.arr 2 ((ic Pm.n ps).map pn))).put nid (m.ver nid) (.arr 5 ((ic (fun z=>z.n.n) zs).map Ag))).ver=m.ver:=by
   funext i
   simp only[Mem.put,al]
   (repeat' split)<;>first|rfl|(subst_vars;rfl)
  have hb1:∀i,b≤i→((m.put pid (m.ver pid) (.arr 2 ((ic Pm.n ps).map pn))).put nid (m.ver nid) (.arr 5 ((ic (fun z=>z.n.n) zs).map Ag))).bm i=none:=fun i hi=>by
   simp only[Mem.put,al]
   (repeat' rw[if_neg (by omega)])
   exact(j1 i hi).1
  have hw1:∀i x,((m.put pid (m.ver pid) (.arr 2 ((ic Pm.n ps).map pn))).put nid (m.ver nid) (.arr 5 ((ic (fun z=>z.n.n) zs).map Ag))).bm i=some x→m.bm i=some x∨Jw ((m.put pid (m.ver pid) (.arr 2 ((ic Pm.n ps).map pn))).put nid (m.ver nid) (.arr 5 ((ic (fun z=>z.n.n) zs).map Ag))) x:=fun i x hx=>by
   simp only[Mem.put,al]at hx
   (repeat' split at hx)<;>first|exact .inl hx|(injection hx with hx;subst hx;exact .inr trivial)
  refine jt A.mo A.Ep (by simp) b (fun c=>?_) (fun i=>by rw[hv1];exact ar _) hw1 (fun i es hi=> .inl hi) (Wr fun c hc=>?_)
  rotate_left
  ·simp only[dn,jg,or_false]at hc
   rcases hc with rfl|rfl
   ·show m.ver pid≤((m.put pid (m.ver pid) (.arr 2 ((ic Pm.n ps).map pn))).put nid (m.ver nid) (.arr 5 ((ic (fun z=>z.n.n) zs).map Ag))).ver pid
    rw[hv1];exact ar _
   ·show m.ver nid≤((m.put pid (m.ver pid) (.arr 2 ((ic Pm.n ps).map pn))).put nid (m.ver nid) (.arr 5 ((ic (fun z=>z.n.n) zs).map Ag))).ver nid
    rw[hv1];exact ar _
  show jd P (r5 A.l8 A.mz A.fw A.my A.ga) (u0 m [.cell 2 2 true] _ _) _;simp only[r5,enter,go_sem,aa,ab,ag,ae];refine jw (nj.toR (aub A hlp ?_ ?_ ?_ ?_ hp3 (b+100))) ?_
  ·simp only[PS.mem,al]
   (repeat' rw[if_neg (by omega)])
   exact Ad
  ·simp only[PS.mem,al]
   (repeat' rw[if_neg (by omega)])
  ·simp only[PS.mem,al,if_true]
  ·simp only[PS.mem,al,if_true]
  rintro m' r ⟨rfl,rfl⟩;simp only[go_sem,aa,ab,PS.gl,PS.mem,Mem.put,hp1.symm];refine jw (nj.toR (auc A hln ?_ ?_ ?_ ?_ hn3 (b+100))) ?_
  ·simp only[PS.mem,al]
   (repeat' rw[if_neg (by omega)])
   exact xp
  ·simp only[PS.mem,al]
   (repeat' rw[if_neg (by omega)])
  ·simp only[PS.mem,al]
   (try rw[if_neg (by omega)])
   simp only[if_true]
  ·simp only[PS.mem,al]
   (try rw[if_neg (by omega)])
   simp only[if_true]
  rintro m' r ⟨rfl,rfl⟩;simp only[go_sem,aa,ab,PS.gl,PS.mem,Mem.put,beq_self_eq_true,ae,nh,qa,Ad,hp3,hp1,hp2,hp1.symm,hp2.symm,Z0,xp,hn3,hn1,hn2,hn1.symm,hn2.symm,Z1,kg,kg.symm]
  refine Ci _ _ hv1 rfl hb1 (fun i hi=>?_) ?_ (fun i hi=>?_)
  ·simp only[al]
   (repeat' split)<;>first|rfl|omega|(subst_vars;first|rfl|omega)
  ·rfl
  ·simp only[al]
   (repeat' split)<;>first|rfl|omega|(subst_vars;first|rfl|omega)
end
def qi(t:Tr)(e:Edt):Tr×Int:=
 if e.k=0 then(if yk t e.n<0 then(t,4)else(⟨a9t t.ps (yk t e.n).toNat e.v,t.ns⟩,0))
 else if e.k=1 then(if yk t e.n<0 then(⟨t.ps++[⟨e.n,e.v⟩],t.ns⟩,0)else(t,7))
 else if e.k=2 then(if yk t e.n<0 then(t,4)else(⟨t.ps.eraseIdx (yk t e.n).toNat,t.ns⟩,0))
 else if e.k=3 then(if Af t e.nd.n<0 then(⟨t.ps,t.ns++[e.nd]⟩,0)else(⟨t.ps,t.ns.set (Af t e.nd.n).toNat e.nd⟩,0))
 else if e.k=4 then(if Af t e.n<0 then(t,4)else(⟨t.ps,t.ns.eraseIdx (Af t e.n).toNat⟩,0))
 else if e.k=5 then(if Af t e.n<0 then(t,4)else if Af t e.t<0 then(Pd t e (Af t e.n).toNat,0)else(t,7))
 else(if yk t e.n<0 then(t,4)else if yk t e.t<0 then(Lg t e (yk t e.n).toNat,0)else(t,7))
def Fa(t:Tr):Tr:=⟨ic Pm.n t.ps,ic Nd.n t.ns⟩
def applyN(pr:List (List Sp)→Bool)(t:Tr)(e:Edt):Tr×Int:=
 if e.k<0∨7≤e.k then(⟨[],[]⟩,1)
 else if(qi t e).2≠0 then(⟨[],[]⟩,(qi t e).2)
 else if Cr pr (Fa (qi t e).1)=true then(Fa (qi t e).1,0)else(⟨[],[]⟩,230)
theorem ajt{α β:Type}(key:β→ByteArray)(f:α→β)(l:List α):(ic (fun x=>key (f x)) l).map f=ic key (l.map f):=by
 have ins:∀(r:List α) (x:α),(sq (fun x=>key (f x)) r x).map f=sq key (r.map f) (f x):=by
  intro r x
  induction r with
  |nil=>rfl
  |cons y r ih=>
   simp only[sq,cu];split
   ·rw[cu,ih]
   ·rfl
 have:∀r:List α,(ic (fun x=>key (f x)) r.reverse).map f=ic key (r.reverse.map f):=by
  intro r
  induction r with
  |nil=>rfl
  |cons x r ih=>rw[qm,Cg,fb,cu,ez,Cg,List.map_reverse,ins,List.map_reverse,ih]
 have h:=this l.reverse
 rwa[Cp]at h
theorem Wk.yi{xs ys:List D}(hl:xs.length=ys.length)(h:∀(i:Nat) (x y:D),xs[i]? =some x→ys[i]? =some y→Wk x y):Wk (.yi xs) (.yi ys):=by
 intro G v hv
 cases hv with
 | @yi _ vs k1 k2=>
  refine .yi (by omega) fun i y u hy hu=>?_
  have hi:i<xs.length:=by have:=(aq.1 hy).1;omega
  exact h i xs[i] y (ao hi) hy G u (k2 i _ u (ao hi) hu)
theorem J8{x x' y:D}(h:Wk x x'):Wk (.yi [x,y]) (.yi [x',y]):=by
 refine Wk.yi rfl fun i a b ha hb=>?_
 match i with
 |0=>simp at ha hb;subst ha hb;exact h
 |1=>simp at ha hb;subst ha hb;exact Wk.refl _
 |i+2=>simp at ha
def Qp{P:Program}(A:Pr4 P):List D:=[.mb A.ph [],.mb A.pg [],.mb A.pe [],.mb A.pb [],.mb A.pa [],.mb A.lh [],.mb A.kz []]
def Qq{P:Program}(A:Pr4 P)(k:Int):Nat:=
 if k=0 then A.ph else if k=1 then A.pg else if k=2 then A.pe else if k=3 then A.pb else if k=4 then A.pa else if k=5 then A.lh else A.kz
section
variable{P:Program}(A:Pr4 P)
theorem a0c:fp P A.vo [] (.agg (Qp A)):=by
 refine cy A.mo A.Zc (by simp) ?_
 show jd P (Kd A.ph A.pg A.pe A.pb A.pa A.lh A.kz) (kf _ _) _;simp only[Kd,Qp,go_sem,ab,ag,reduceCtorEq]
theorem asi{k:Nat}(hk:k<7):(Qp A)[k]? =some (.mb (Qq A k) []):=by
 match k,hk with
 |0,_=>rfl
 |1,_=>rfl
 |2,_=>rfl
 |3,_=>rfl
 |4,_=>rfl
 |5,_=>rfl
 |6,_=>rfl
theorem axa(t:Tr)(e:Edt)(hk:e.k<0∨7≤e.k):fp P A.tg [.agg (sf t),.agg (l9 e)] (.yi [.agg [.bd,.bd],.int .i64 1]):=by
 refine cy A.mo A.Py (by simp) ?_
 show jd P (Ai A.vo A.jk A.ot A.la) (kf _ _) _;by_cases h0:e.k<0
 ·simp only[Ai,sf,l9,ix,jj,go_sem,aa,ab,ag,reduceCtorEq,h0]
 ·have h7:e.k≥7:=by omega
  simp only[Ai,sf,l9,ix,jj,go_sem,aa,ab,ag,reduceCtorEq,h0];refine Dg (a0c A) ?_;simp only[Qp,go_sem,aa,ab,reduceCtorEq,h7]
end
section
variable{P:Program}{K:PS→Prop}{s:PS}{r:List RI}{af:List Nat}
theorem aja{old cs:List C}(h:cs.length=old.length):patch old 0 cs=cs:=by
 unfold patch;rw[F8,An,eh,h,Ma,th]
theorem aam{t x n id ver:Nat}{cs old:List C}(hx:(s.tmp x).cells s=some cs)(ha:s.tmp t= .dv id ver 0)(hc:s.cs id ver=some old)(hl:old.length=n)(hcl:cs.length=n)(h1:cs.all (C.one s)=true)
  (h:jn P r {s with bm:=jf s.bm id (some (.loc cs))} K):jn P (⟨none,.store n (.t t) (.t x),none,af⟩::r) s K:=by
 rw[agu];simp only[j6.ml,aby,hx,ha,w9,hc]
 rw[if_pos ⟨h1,hcl,by omega⟩,Fk,aja (by omega)]
 exact h
end
theorem B5.arv{s:PS}{m:Mem}{b:Nat}{t:Tr}{cs:List C}(h:B5 m b t cs)(hm:s.mem=m):cs.all (C.one s)=true:=by
 subst hm;obtain⟨cP,cN,cells,rfl,oP,hC,hN⟩:=h
 have h2:C.one s cN=true:=by
  rcases hN with ⟨_,rfl⟩|⟨_,rfl,hb⟩
  ·rfl
  ·have ow:s.bm (b+51)=some (.ny 5 cells):=hb
   simp[C.one,V.live,PS.Gl,PS.mem,ow,B.Bg,hC.1]
 simp only[Sl,aEw,oP.one,h2,F9]
theorem B5.len{m:Mem}{b:Nat}{t:Tr}{cs:List C}(h:B5 m b t cs):cs.length=2:=by
 obtain⟨_,_,_,rfl,_⟩:=h;rfl
theorem abq{s:PS}{ids:List Nat}{j:Nat}(h:s.bm j=none):Ea s ids j=none:=by
 unfold Ea;rw[h]
theorem aez{s:PS}{ids:List Nat}{j sz:Nat}{els:List (List D)}(h:s.bm j=some (.arr sz els)):Ea s ids j=some (.arr sz els):=by
 unfold Ea;rw[h]
theorem abr{s:PS}{ids:List Nat}{j:Nat}{ds:List D}(h:s.bm j=some (.loc (ds.map .d))):Ea s ids j=some (.loc (ds.map .d)):=by
 unfold Ea;rw[h];simp only[aEt];rfl
theorem abo{s:PS}{ids:List Nat}{c:C}(h:∀i v l,c= .ref i v l→i∉ids)(h2:∀i v,c≠ .ku i v):C.rb s ids c=c:=by
 cases c with
 |d x=>rfl
 |ref i v l=>simp only[C.rb,if_neg (h i v l rfl)]
 |ku i v=>exact absurd rfl (h2 i v)
 |ptr i v o=>rfl
theorem apu(l:List (List D)):Yl (l.map (·.map .d))=some l:=by
 induction l with
 |nil=>rfl
 |cons e r ih=>simp only[cu,Yl,Vx,ih]
theorem azq{s:PS}{ids:List Nat}{i:Nat}(hi:i∉ids)(h0:ids=[]→Ea s ids i=s.bm i):(s.rb ids).bm i=Ea s ids i:=by
 by_cases h:ids=[]
 ·rw[h0 h,h];rfl
 ·exact I1 h hi
theorem R0{s:PS}{ids:List Nat}:(s.rb ids).ver=s.ver:=by
 by_cases h:ids=[]
 ·rw[h];rfl
 ·exact Zv h
theorem axm{s:PS}{ids:List Nat}{t:Nat}{x:D}(h:s.tmp t= .d x):(s.rb ids).tmp t= .d x:=by
 by_cases h':ids=[]
 ·rw[h'];exact h
 ·rw[Fv h',h];rfl
theorem Ov{s:PS}{ids:List Nat}{t i v o:Nat}(h:s.tmp t= .dv i v o):(s.rb ids).tmp t= .dv i v o:=by
 by_cases h':ids=[]
 ·rw[h'];exact h
 ·rw[Fv h',h];rfl
theorem Yb{s:PS}{B0 u b:Nat}{t:Tr}{cs:List C}(hT:B5 s.mem B0 t cs)(hu:s.bm u=some (.loc cs))(huB:u<B0)(hB:B0+96+64*t.ns.length+64≤b)(j1:qb s.mem b):
  ∃zs:List WN,zs.map WN.n=t.ns∧O3 (s.rb (Bw (B0+32) t.ns.length)).mem u (u+1) t.ps zs∧(∀j,j<B0→∀ds:List D,s.bm j=some (.loc (ds.map .d))→(s.rb (Bw (B0+32) t.ns.length)).bm j=some (.loc (ds.map .d)))∧
   qb (s.rb (Bw (B0+32) t.ns.length)).mem b:=by
 obtain⟨cP,cN,cells,rfl,oP,hC,hN⟩:=hT;obtain⟨zs,z1,_,z3⟩:=hC.data
 generalize Sa:Bw (B0+32) t.ns.length=ids at*
 have hin:∀i,i∈ids→B0+96≤i∧i<b:=fun i hi=>by
  rw[←Sa]at hi;obtain⟨k,hk,h|h⟩:=Rv.1 hi<;>omega
 have hP:C.rb s ids cP=cP:=abo (fun i v l h hi=>by
  have:=hin i hi;rcases oP with ⟨_,rfl⟩|⟨rfl,_⟩
  ·cases h
  ·injection h with h;omega) (fun i v h=>by
  rcases oP with ⟨_,rfl⟩|⟨rfl,_⟩<;>cases h)
 have hNf:C.rb s ids cN=cN:=abo (fun i v l h hi=>by
  have:=hin i hi;rcases hN with ⟨_,rfl⟩|⟨_,rfl,_⟩
  ·cases h
  ·injection h with h;omega) (fun i v h=>by
  rcases hN with ⟨_,rfl⟩|⟨_,rfl,_⟩<;>cases h)
 have bu:(s.rb ids).bm u=some (.loc [cP,cN]):=by
  by_cases h:ids=[]
  ·rw[h];exact hu
  ·rw[I1 h (fun hi=>by have:=hin u hi;omega)]
   unfold Ea;rw[hu];simp only[cu,ez,hP,hNf]
 refine⟨zs,z1,⟨B0+15,B0+51,cP,cN,by omega,by omega,by omega,bu,?_,?_⟩,fun j hj ds hd=>?_,fun i hi=>?_⟩
 ·rcases oP with ⟨e1,rfl⟩|⟨rfl,hb⟩
  ·exact .inl ⟨e1,rfl⟩
  ·have ow:s.bm (B0+15)=some (.arr 2 (t.ps.map pn)):=hb
   refine .inr ⟨?_,?_⟩
   ·show C.ref (B0+15) (s.ver (B0+15)) _=C.ref (B0+15) ((s.rb ids).ver (B0+15)) _
    rw[R0]
   ·show(s.rb ids).bm _=_
    by_cases h:ids=[]
    ·rw[h];exact ow
    ·rw[I1 h (fun hi=>by have:=hin _ hi;omega)]
     exact aez ow
 ·rcases hN with ⟨h0',rfl⟩|⟨h0',rfl,hb⟩
  ·refine .inl ⟨?_,rfl⟩
   rw[h0']at z1;rw[dg.1 z1];rfl
  ·have ow:s.bm (B0+51)=some (.ny 5 cells):=hb
   have kg:ids≠[]:=by
    rw[←Sa];intro h
    obtain⟨n,hn⟩:∃n,t.ns.length=n+1:=⟨t.ns.length-1,by have:=acv.2 h0';omega⟩
    have:B0+32+64+64*0+45∈Bw (B0+32) t.ns.length:=Rv.2 ⟨0,by omega,.inl rfl⟩
    rw[h]at this;cases this
   refine .inr ⟨?_,?_⟩
   ·show C.ref (B0+51) (s.ver (B0+51)) _=C.ref (B0+51) ((s.rb ids).ver (B0+51)) _
    rw[R0,ae,←z1,ae]
   ·show(s.rb ids).bm _=_
    rw[I1 kg (fun hi=>by have:=hin _ hi;omega)]
    unfold Ea;rw[ow];simp only[z3,Uz,apu]
 ·by_cases h:ids=[]
  ·rw[h];exact hd
  ·rw[I1 h (fun hi=>by have:=hin _ hi;omega)]
   exact abr hd
 ·refine⟨?_,?_⟩
  ·show(s.rb ids).bm i=none
   by_cases h:ids=[]
   ·rw[h];exact(j1 i hi).1
   ·rw[I1 h (fun h2=>by have:=hin _ h2;omega)]
    exact abq (j1 i hi).1
  ·show(s.rb ids).mp i=none
   by_cases h:ids=[]
   ·rw[h];exact(j1 i hi).2
   ·rw[a8a h (fun h2=>by have:=hin _ h2;omega)]
    unfold a5n;rw[show s.mp i=none from(j1 i hi).2];rfl
def af6(rs:List I7)(r:D):Exit→PS→Prop:=fun e s=>(e= .normal∨e= .ret)∧∃x,Wg s rs=some x∧Wk x r
theorem aov{rs:List I7}{r:D}{s:PS}:af6 rs r .ret s=∃x,Wg s rs=some x∧Wk x r:=by simp[af6]
theorem ac2{rs:List I7}{r:D}{s:PS}:af6 rs r .normal s=∃x,Wg s rs=some x∧Wk x r:=by simp[af6]
attribute [go_sem] aov ac2
def al1(ot:Nat):cn:=
 .region
   [⟨some 31,.load 2 true (.t 6),none,[]⟩,
   ⟨some 32,.pz ot [(.t 31)],none,[]⟩,
   ⟨none,.store 2 (.t 6) (.t 32),none,[]⟩] false []
def al0(la:Nat):cn:=
 (.seq
   (
   (.seq (
   .region [⟨some 33,.load 2 true (.t 6),none,[]⟩,
    ⟨some 34,.call la [(.t 33)],none,[]⟩,
    ⟨some 35,.bin .neq (.t 34) (.c (.int .i64 0)),none,[]⟩] false []) (
   (.cond (.t 35) (
    (.seq (
    .region [⟨some 36,.build [.bd,.bd] [],none,[]⟩,
     ⟨none,.store 2 (.t 4) (.t 36),none,[]⟩,
     ⟨some 5,.ij (.c (.int .i64 230)),none,[]⟩] false []) (
    .ret))) (
    .skip))))) (
   (.seq (
   .region [⟨some 37,.load 2 true (.t 6),none,[]⟩,
    ⟨none,.store 2 (.t 4) (.t 37),none,[]⟩,
    ⟨some 5,.ij (.c (.int .i64 0)),none,[]⟩] false []) (
   .ret))))
section
variable{P:Program}(A:Pr4 P)
theorem au2{pr:List (List Sp)→Bool}(hpr:J5 A.toPr pr){u:Tr}{zs:List WN}{s4:PS}{b:Nat}(g0:s4.base=0)(g4:s4.tmp 4= .dv 4 (s4.ver 4) 0)(b4:s4.bm 4=some (.loc [.d .bd,.d .bd]))(g6:s4.tmp 6= .dv 6 (s4.ver 6) 0)(hTA:O3 s4.mem 6 7 u.ps zs)(hz:zs.map WN.n=u.ns)
  (j1:qb s4.mem b)(hlp:u.ps.length≤21)(hln:zs.length≤21)(C3:Rk (Fa u)):
  jd P (al1 A.ot) (Ug P (al0 A.la) (af6 [.cell 4 2 true,.tmp 5] (.yi [.agg (sf (if Cr pr (Fa u)=true then Fa u else⟨[],[]⟩)),.int .i64 (if Cr pr (Fa u)=true then 0 else 230)]))) s4:=by
 obtain⟨pid,nid,cP,cN,hp,hn,kg,b6,oP,oN⟩:=hTA;replace b6:s4.bm 6=some (.loc [cP,cN]):=b6
 have hns:(ic (fun z=>z.n.n) zs).map WN.n=ic Nd.n u.ns:=by rw[ajt Nd.n WN.n,hz]
 have hyW:Wk (.dt 5 ((ic (fun z=>z.n.n) zs).map Ag)) (jj (ic Nd.n u.ns)):=by rw[←hns];exact Gi _
 have at7:∀x y,Wk x (ix (ic Pm.n u.ps))→Wk y (jj (ic Nd.n u.ns))→fp P A.la [.agg [x,y]] (.int .i64 (if Cr pr (Fa u)then 0 else 230)):=fun x y hx hy=>
  (aa7 A.toPr2 hpr (Fa u) C3).args rfl fun i a c ha hc=>by
   match i with
   |0=>simp at ha hc;subst ha hc;exact Ip hx hy
   |i+1=>simp at ha
 have Z0:(ic Pm.n u.ps).length=u.ps.length:=x6 _ _
 have Z1:(ic (fun z:WN=>z.n.n) zs).length=zs.length:=x6 _ _
 rcases oP with ⟨e1,rfl⟩|⟨rfl,ao8⟩<;>rcases oN with ⟨e2,rfl⟩|⟨rfl,at3⟩
 ·have hxN:Wk .bd (ix (ic Pm.n u.ps)):=by rw[dg.1 e1];exact Wk.bd
  have hyN:Wk .bd (jj (ic Nd.n u.ns)):=by
   rw[←hz,dg.1 e2];exact Wk.bd
  simp only[al1,go_sem,ab,g0,g6,b6];refine jw (nj.toR (Rq A (pid:=pid) (nid:=nid) (ps:=u.ps) (zs:=zs) (b:=b) (cP:= .d .bd) (cN:= .d .bd) hlp hln (.inl ⟨e1,rfl⟩) (.inl ⟨e2,rfl⟩) kg j1)) ?_;rintro m' r ⟨rfl,rfl⟩;simp only[al0,Ob,Oa,isRef,go_sem,aa,ab,PS.gl,PS.mem,Mem.put,g6,b6];refine iv (ds:=[.agg [.bd,.bd]]) ?_ (at7 _ _ hxN hyN) rfl ?_
  ·simp only[go_sem]
  ·cases hT:Cr pr (Fa u)
   ·simp only[go_sem,aa,je,ab,reduceCtorEq,g4,b4]
    exact⟨_,rfl,J8 (Ip Wk.bd Wk.bd)⟩
   ·simp only[go_sem,aa,je,ab,reduceCtorEq,g4,b4,g6,b6]
    exact⟨_,rfl,J8 (Ip hxN hyN)⟩
 ·have hxN:Wk .bd (ix (ic Pm.n u.ps)):=by rw[dg.1 e1];exact Wk.bd
  have hn6:nid≠6:=by omega
  have hn4:nid≠4:=by omega
  have xp:s4.bm nid=some (.arr 5 (zs.map Ag)):=at3;have hnv:s4.mem.ver nid=s4.ver nid:=rfl;simp only[al1,go_sem,ab,g0,g6,b6,ae]
  refine jw (nj.toR (Rq A (pid:=pid) (nid:=nid) (ps:=u.ps) (zs:=zs) (b:=b) (cP:= .d .bd) (cN:= .ref nid (s4.mem.ver nid) zs.length) hlp hln (.inl ⟨e1,rfl⟩) (.inr ⟨by rw[ae];rfl,at3⟩) kg j1)) ?_
  rintro m' r ⟨rfl,rfl⟩;simp only[al0,Ob,Oa,isRef,go_sem,aa,ab,PS.gl,PS.mem,Mem.put,beq_self_eq_true,ae,g6,b6,xp,hn6.symm,Z1]
  refine iv (ds:=[.agg [.bd,.dt 5 ((ic (fun z=>z.n.n) zs).map Ag)]]) ?_ (at7 _ _ hxN hyW) rfl ?_
  ·simp only[go_sem,ae,iz,mc,xp,hn6,Z1]
  ·cases hT:Cr pr (Fa u)
   ·simp only[go_sem,aa,je,ab,reduceCtorEq,g4,b4,hn4.symm]
    exact⟨_,rfl,J8 (Ip Wk.bd Wk.bd)⟩
   ·simp only[go_sem,aa,je,ab,reduceCtorEq,PS.mem,beq_self_eq_true,ae,g4,b4,g6,b6,Mh,Nr,xp,hn6,hn4,hn6.symm,hn4.symm,Z1]
    exact⟨_,rfl,J8 (Ip hxN hyW)⟩
 ·have hp6:pid≠6:=by omega
  have hp4:pid≠4:=by omega
  have hyN:Wk .bd (jj (ic Nd.n u.ns)):=by
   rw[←hz,dg.1 e2];exact Wk.bd
  have Ad:s4.bm pid=some (.arr 2 (u.ps.map pn)):=ao8;have hpv:s4.mem.ver pid=s4.ver pid:=rfl;simp only[al1,go_sem,ab,g0,g6,b6,ae]
  refine jw (nj.toR (Rq A (pid:=pid) (nid:=nid) (ps:=u.ps) (zs:=zs) (b:=b) (cP:= .ref pid (s4.mem.ver pid) u.ps.length) (cN:= .d .bd) hlp hln (.inr ⟨by rw[ae];rfl,ao8⟩) (.inl ⟨e2,rfl⟩) kg j1)) ?_
  rintro m' r ⟨rfl,rfl⟩;simp only[al0,Ob,Oa,isRef,go_sem,aa,ab,PS.gl,PS.mem,Mem.put,beq_self_eq_true,ae,g6,b6,Ad,hp6.symm,Z0];refine iv (ds:=[.agg [.dt 2 ((ic Pm.n u.ps).map pn),.bd]]) ?_ (at7 _ _ (Wk.refl _) hyN) rfl ?_
  ·simp only[go_sem,ae,iz,mc,Ad,hp6,Z0]
  ·cases hT:Cr pr (Fa u)
   ·simp only[go_sem,aa,je,ab,reduceCtorEq,g4,b4,hp4.symm]
    exact⟨_,rfl,J8 (Ip Wk.bd Wk.bd)⟩
   ·simp only[go_sem,aa,je,ab,reduceCtorEq,PS.mem,beq_self_eq_true,ae,g4,b4,g6,b6,Mh,Nr,Ad,hp6,hp4,hp6.symm,hp4.symm,Z0]
    exact⟨_,rfl,J8 (Ip (Wk.refl _) hyN)⟩
 ·have hp6:pid≠6:=by omega
  have hp4:pid≠4:=by omega
  have hn6:nid≠6:=by omega
  have hn4:nid≠4:=by omega
  have Ad:s4.bm pid=some (.arr 2 (u.ps.map pn)):=ao8;have hpv:s4.mem.ver pid=s4.ver pid:=rfl;have xp:s4.bm nid=some (.arr 5 (zs.map Ag)):=at3;have hnv:s4.mem.ver nid=s4.ver nid:=rfl;simp only[al1,go_sem,ab,g0,g6,b6,ae]
  refine jw (nj.toR (Rq A (pid:=pid) (nid:=nid) (ps:=u.ps) (zs:=zs) (b:=b) (cP:= .ref pid (s4.mem.ver pid) u.ps.length) (cN:= .ref nid (s4.mem.ver nid) zs.length) hlp hln (.inr ⟨by rw[ae];rfl,ao8⟩) (.inr ⟨by rw[ae];rfl,at3⟩) kg j1)) ?_
  rintro m' r ⟨rfl,rfl⟩;simp only[al0,Ob,Oa,isRef,go_sem,aa,ab,PS.gl,PS.mem,Mem.put,beq_self_eq_true,ae,g6,b6,Ad,hp6.symm,Z0,xp,hn6.symm,Z1,kg,kg.symm]
  refine iv (ds:=[.agg [.dt 2 ((ic Pm.n u.ps).map pn),.dt 5 ((ic (fun z=>z.n.n) zs).map Ag)]]) ?_ (at7 _ _ (Wk.refl _) hyW) rfl ?_
  ·simp only[go_sem,ae,iz,mc,Ad,hp6,Z0,xp,hn6,Z1,kg,kg.symm]
  ·cases hT:Cr pr (Fa u)
   ·simp only[go_sem,aa,je,ab,reduceCtorEq,g4,b4,hp4.symm,hn4.symm]
    exact⟨_,rfl,J8 (Ip Wk.bd Wk.bd)⟩
   ·simp only[go_sem,aa,je,ab,reduceCtorEq,PS.mem,beq_self_eq_true,ae,g4,b4,g6,b6,Mh,Nr,Ad,hp6,hp4,hp6.symm,hp4.symm,Z0,xp,hn6,hn4,hn6.symm,hn4.symm,Z1,kg,kg.symm]
    exact⟨_,rfl,J8 (Ip (Wk.refl _) hyW)⟩
end
theorem T3.Qe{P:Program}{f:Nat}{args:List D}{r:D}(h:T3 P f args fun x=>Wk x r):fp P f args r:=
 ⟨h.1,fun G w vs hG hl hr=>(h.2 G w vs hG hl hr).mono fun _ _ ⟨v,G',x,k1,k2,k3,k4,k5,k6,k7⟩=>⟨v,G',k1,k3,k4,k5,k6,k2 G' v k7⟩⟩
def afk(P:Program)(v:V)(args:List V)(d:Option Nat)(s:PS)(K:PS→Prop):Prop:=
 match v with
 | .d (.mb g caps)=>ac6 P g (args++caps.map .d) d s K
 |_=>False
theorem afj{P:Program}{s:PS}{K:PS→Prop}{d:Option Nat}{g:Nat}{caps:List D}{args:List V}:afk P (.d (.mb g caps)) args d s K=ac6 P g (args++caps.map .d) d s K:=rfl
theorem ang{P:Program}{s:PS}{K:PS→Prop}{d:Option Nat}{r:List RI}{af:List Nat}{f:lb}{args:List lb}:jn P (⟨d,.Kn f args,none,af⟩::r) s K=afk P (f.ev s) (args.map (·.ev s)) d s (xd P r K):=by
 show(match f.ev s with| .d (.mb g caps)=>∃m' r',nj P g s.mem ((args.map fun x:lb=>x.ev s)++caps.map V.d) m' r'∧xd P r K ((s.gl m').put d r')|_=>False)=_
 unfold afk;split<;>rfl
attribute [go_sem] ang afj
def O4(e:Edt):Prop:=Sk e.nd
def F6(t:Tr):Prop:=t.ps.length≤20∧t.ns.length≤20∧∀n∈t.ns,Sk n
theorem F6.mid{t:Tr}(h:F6 t):Mid t:=⟨by have:=h.1;omega,by have:=h.2.1;omega,h.2.2⟩
def aq0(t:Tr)(e:Edt)(s':PS):Prop:=
 s'.base=0∧s'.tmp 3= .dv 3 (s'.ver 3) 0∧s'.bm 3=some (.loc ((l9 e).map .d))∧s'.tmp 4= .dv 4 (s'.ver 4) 0∧s'.bm 4=some (.loc [.d .bd,.d .bd])∧s'.tmp 6= .dv 6 (s'.ver 6) 0∧
 ∃cs,s'.bm 6=some (.loc cs)∧B5 s'.mem 1000 t cs∧qb s'.mem (1160+64*t.ns.length)
def aEg(u:Tr)(code:Int)(s':PS):Prop:=
 s'.base=0∧s'.tmp 4= .dv 4 (s'.ver 4) 0∧s'.bm 4=some (.loc [.d .bd,.d .bd])∧s'.tmp 6= .dv 6 (s'.ver 6) 0∧s'.tmp 7= .d (.int .i64 code)∧
 (code=0→∃ids b zs,zs.map WN.n=u.ns∧O3 (s'.rb ids).mem 6 7 u.ps zs∧(s'.rb ids).bm 4=some (.loc [.d .bd,.d .bd])∧qb (s'.rb ids).mem b)
section
variable{P:Program}(A:Pr4 P)
theorem aAe{pr:List (List Sp)→Bool}(hpr:J5 A.toPr pr)(t:Tr)(e:Edt)(hk0:0≤e.k)(hk7:e.k<7)(ht:F6 t)(he:O4 e)(hlp:(qi t e).1.ps.length≤21)(hln:(qi t e).1.ns.length≤21)(C3:Rk (Fa (qi t e).1))
  (az9:∀s',aq0 t e s'→∃ids m',nj P (Qq A e.k) (s'.rb ids).mem [.dv 6 (s'.ver 6) 0,.d (.agg (l9 e))] m' (.d (.int .i64 (qi t e).2))∧(s'.rb ids).bm 3=some (.loc ((l9 e).map .d))∧(s'.rb ids).bm 6≠none∧
   m'.bm 4=some (.loc [.d .bd,.d .bd])∧m'.ver 4=s'.ver 4∧m'.ver 6=s'.ver 6∧
   ((qi t e).2=0→∀s2:PS,s2.mem=m'→∃ids b zs,zs.map WN.n=(qi t e).1.ns∧O3 (s2.rb ids).mem 6 7 (qi t e).1.ps zs∧(s2.rb ids).bm 4=some (.loc [.d .bd,.d .bd])∧qb (s2.rb ids).mem b)):
  fp P A.tg [.agg (sf t),.agg (l9 e)] (.yi [.agg (sf (applyN pr t e).1),.int .i64 (applyN pr t e).2]):=by
 refine T3.Qe (an1 A.mo A.Py (by simp) ?_)
 show jd P (Ai A.vo A.jk A.ot A.la) (af6 _ _) _
 have h0:¬(e.k<0):=by omega
 have h7:¬(e.k≥7):=by omega
 simp only[Ai,sf,l9,ix,jj,go_sem,aa,ab,ag,reduceCtorEq,h0];refine Dg (a0c A) ?_;simp only[Qp,go_sem,aa,ab,reduceCtorEq,h7]
 refine jw (ail A t ht.mid _ 1000 (fun i hi=>?_)) ?_
 ·simp only[PS.mem,al]
  (repeat' rw[if_neg (by omega)])
  exact⟨rfl,trivial⟩
 rintro m1 r1 ⟨hx,cs,rfl,hT⟩
 have L2:=hx.low 2 (by omega)
 have L3:=hx.low 3 (by omega)
 have L4:=hx.low 4 (by omega)
 have L6:=hx.low 6 (by omega)
 simp only[PS.mem,al,aa,reduceIte]at L2 L3 L4 L6;refine Ur (aq0 t e) ?_ ?_
 ·simp only[agv,j6.ml,Fk,kn.app,PS.sn,PS.put,PS.gl,cu,ez,j3,eh]
  refine aam (cs:=cs) (id:=6) (ver:=m1.ver 6+1) (old:=[.d .bd,.d .bd]) ?_ ?_ ?_ rfl hT.len ?_ ?_
  ·simp only[al,aa,if_false,if_true]
   exact a5f
  ·simp only[al,if_true]
  ·simp only[PS.cs,al,if_true]
  ·refine B5.arv (m:=⟨jf m1.bm 6 (some (.loc [.d .bd,.d .bd])),jf m1.ver 6 (m1.ver 6+1),m1.mp⟩) (hT.mono (ar _) fun i h1 h2=>?_) rfl
   simp only[al]
   rw[if_neg (by omega),if_neg (by omega)]
   exact⟨rfl,rfl⟩
  ·rw[Qk]
   refine⟨rfl,?_,?_,?_,?_,?_,cs,?_,?_,fun i hi=>⟨?_,?_⟩⟩
   ·simp only[al,aa,if_false,if_true,L3.2.1]
   ·simp only[al,aa,if_false,L3.1,l9,cu,ez]
   ·simp only[al,aa,if_false,if_true,L4.2.1]
   ·simp only[al,aa,if_false,L4.1]
   ·simp only[al,aa,if_false,if_true]
   ·simp only[al,if_true]
   ·refine hT.mono (ar _) fun i h1 h2=>?_
    simp only[PS.mem,al]
    rw[if_neg (by omega),if_neg (by omega),if_neg (by omega)]
    exact⟨rfl,rfl⟩
   ·simp only[PS.mem,al]
    rw[if_neg (by omega),if_neg (by omega)]
    refine hx.high i (by omega) ?_
    rintro(h1|h1|⟨k,hk,h1|h1⟩)<;>omega
   ·exact hx.mps i (by omega)
 ·intro s1 h1
  obtain⟨ids,m',hE,b3,b6,k1,k2,k3,k4⟩:=az9 s1 h1;obtain⟨eb,f3,_,f4,b4,f6,_⟩:=h1;simp only[go_sem];refine Qg ids ?_
  have g0:(s1.rb ids).base=0:=by rw[R1];exact eb
  have g3:=Ov (ids:=ids) f3;have g4:=Ov (ids:=ids) f4;have g6:=Ov (ids:=ids) f6;have gv:(s1.rb ids).ver=s1.ver:=R0
  generalize s1.rb ids=s2 at*
  rw[←gv]at hE k2 k3
  have a7x:((Qp A).drop e.k.toNat).take 1=[.mb (Qq A e.k) []]:=by
   have h8:=asi A (k:=e.k.toNat) (by omega)
   rw[show((e.k.toNat:Nat):Int)=e.k by omega]at h8
   have h9:e.k.toNat<(Qp A).length:=by show e.k.toNat<7;omega
   rw[gd h9];rw[ao h9]at h8
   injection h8 with h8
   rw[h8];rfl
  have hkl:(Qp A).length=7:=rfl
  have hkn:e.k.toNat+1≤7:=by omega
  rw[←gv]at g3 g4 g6;simp only[go_sem];refine Dg (a0c A) ?_;simp only[l9,cu,ez]at b3;simp only[go_sem,aa,ab,ag,g0,g3,g6,b3,hk0,hk7,a7x,hkl,hkn,Nat.mul_one,mkd];refine iu hE ?_;by_cases hc:(qi t e).2=0
  ·have hap:applyN pr t e=if Cr pr (Fa (qi t e).1)=true then(Fa (qi t e).1,0)else(⟨[],[]⟩,230):=by
    unfold applyN
    rw[if_neg (by omega),if_neg (by omega)]
   have step:∀S:PS,S.mem=m'→S.base=0→S.tmp 4= .dv 4 (S.ver 4) 0→S.tmp 6= .dv 6 (S.ver 6) 0→jd P .freeze (Ug P (al1 A.ot) (Ug P (al0 A.la) (af6 [.cell 4 2 true,.tmp 5] (.yi [.agg (sf (applyN pr t e).1),.int .i64 (applyN pr t e).2])))) S:=by
    intro S hm e0 e4 e6;obtain⟨ayt,b2,zs,z1,hTA,hb4,X1⟩:=k4 hc S hm;refine Qg ayt ?_;rw[Jj];have v4:(S.rb ayt).ver=S.ver:=R0
    have h:=au2 A hpr (u:=(qi t e).1) (by rw[R1];exact e0) (by rw[v4];exact Ov e4) hb4 (by rw[v4];exact Ov e6) hTA z1 X1 hlp (by rw[←ae (f:=WN.n),z1];exact hln) C3
    rw[hap];cases hT:Cr pr (Fa (qi t e).1)
    ·rw[hT]at h;exact h
    ·rw[hT]at h;exact h
   rw[hc];simp only[go_sem,aa,je,reduceCtorEq,PS.gl];refine step _ rfl rfl ?_ ?_
   ·simp only[al,aa,if_false,g4]
    rw[←k2]
   ·simp only[al,aa,if_false,g6]
    rw[←k3]
  ·have hap:applyN pr t e=(⟨[],[]⟩,(qi t e).2):=by
    unfold applyN
    rw[if_neg (by omega),if_pos hc]
   have hcb:((qi t e).2 !=0)=true:=by simpa using hc
   rw[hap];simp only[go_sem,aa,ab,reduceCtorEq,PS.gl,g4,hcb,k1,k2];refine⟨_,rfl,J8 (Ip Wk.bd Wk.bd)⟩
end
def HK(P:Program)(f:Nat)(t:Tr)(e:Edt)(u:Tr)(code:Int)(s':PS):Prop:=
 ∃ids m',nj P f (s'.rb ids).mem [.dv 6 (s'.ver 6) 0,.d (.agg (l9 e))] m' (.d (.int .i64 code))∧(s'.rb ids).bm 3=some (.loc ((l9 e).map .d))∧(s'.rb ids).bm 6≠none∧
  m'.bm 4=some (.loc [.d .bd,.d .bd])∧m'.ver 4=s'.ver 4∧m'.ver 6=s'.ver 6∧
  (code=0→∀s2:PS,s2.mem=m'→∃ids b zs,zs.map WN.n=u.ns∧O3 (s2.rb ids).mem 6 7 u.ps zs∧(s2.rb ids).bm 4=some (.loc [.d .bd,.d .bd])∧qb (s2.rb ids).mem b)
theorem T0{P:Program}{f:Nat}{t u:Tr}{e:Edt}{code:Int}{s':PS}(h1:aq0 t e s')(hK:∀zs:List WN,zs.map WN.n=t.ns→∃zs',KOk P f e t.ps u.ps zs zs' code∧zs'.map WN.n=u.ns):HK P f t e u code s':=by
 obtain⟨eb,f3,b3,f4,b4,f6,cs,b6,hT,j1⟩:=h1
 obtain⟨zs,z1,hTA,hds,X1⟩:=Yb hT b6 (by omega) (by omega) j1
 obtain⟨zs',hk,z2⟩:=hK zs z1;have hv:(s'.rb (Bw (1000+32) t.ns.length)).mem.ver=s'.ver:=R0
 obtain⟨m',hE,aCk,Ts,hv6,hmp,aCd⟩:=hk _ 6 7 _ hTA (by omega) (by omega) X1
 rw[hv]at hE hv6
 have hb6:(s'.rb (Bw (1000+32) t.ns.length)).bm 6≠none:=by
  obtain⟨_,_,cP,cN,_,_,_,hb,_⟩:=hTA;intro h;have:(s'.rb (Bw (1000+32) t.ns.length)).bm 6=some (.loc [cP,cN]):=hb;rw[h]at this;cases this
 have l4:=Ts 4 (by omega) (by omega)
 refine⟨_,m',hE,hds 3 (by omega) _ b3,hb6,?_,?_,hv6,fun _ s2 hs2=>⟨[],1160+64*t.ns.length+64,zs',z2,?_,?_,?_⟩⟩
 ·rw[l4.1]
  exact hds 4 (by omega) [.bd,.bd] b4
 ·rw[l4.2,hv]
 ·show O3 s2.mem 6 7 u.ps zs'
  rw[hs2];exact aCk
 ·show s2.mem.bm 4=_
  rw[hs2,l4.1]
  exact hds 4 (by omega) [.bd,.bd] b4
 ·show qb s2.mem _
  rw[hs2];exact aCd
theorem Wz{P:Program}{f:Nat}{t u:Tr}{e:Edt}{code:Int}{s':PS}(h1:aq0 t e s')(hl:code=0→u.ns.length=t.ns.length)
  (hK:∀(cs:List C) (m:Mem),m.bm 6=some (.loc cs)→B5 m 1000 t cs→qb m (1160+64*t.ns.length)→∃m',nj P f m [.dv 6 (m.ver 6) 0,.d (.agg (l9 e))] m' (.d (.int .i64 code))∧(code=0→B5 m' 1000 u cs)∧(∀i,i<1000→m'.bm i=m.bm i)∧m'.ver=m.ver∧qb m' (1160+64*t.ns.length)):HK P f t e u code s':=by
 obtain⟨eb,f3,b3,f4,b4,f6,cs,b6,hT,j1⟩:=h1;obtain⟨m',hE,hT',Ts,hv,aCe⟩:=hK cs s'.mem b6 hT j1
 refine⟨[],m',hE,b3,by show s'.bm 6≠none;rw[b6];simp,?_,by rw[hv];rfl,by rw[hv];rfl,fun hc s2 hs2=>?_⟩
 ·rw[Ts 4 (by omega)];exact b4
 ·obtain⟨zs,z1,hTA,hds,X1⟩:=Yb (s:=s2) (B0:=1000) (u:=6) (b:=1160+64*t.ns.length) (t:=u) (cs:=cs) (by rw[hs2];exact hT' hc) (by show s2.mem.bm 6=_;rw[hs2,Ts 6 (by omega)];exact b6) (by omega) (by rw[hl hc];omega) (by rw[hs2];exact aCe)
  refine⟨Bw (1000+32) u.ns.length,1160+64*t.ns.length,zs,z1,hTA,hds 4 (by omega) [.bd,.bd] ?_,X1⟩
  show s2.mem.bm 4=_
  rw[hs2,Ts 4 (by omega)];exact b4
theorem alq(zs:List WN)(k:Nat)(n:Nd):(zs.set k (WN.of n)).map WN.n=(zs.map WN.n).set k n:=by
 rw[aG9];rfl
theorem af3(zs:List WN)(k:Nat):(zs.eraseIdx k).map WN.n=(zs.map WN.n).eraseIdx k:=by
 rw[oz,oz,fb,J7,av0]
section
variable{P:Program}(A:Pr4 P)
theorem ash(t:Tr)(e:Edt)(hk0:0≤e.k)(hk7:e.k<7)(ht:F6 t)(he:O4 e)(s':PS)(h1:aq0 t e s'):HK P (Qq A e.k) t e (qi t e).1 (qi t e).2 s':=by
 obtain⟨t1,t2,t3⟩:=ht
 have zl:∀zs:List WN,zs.map WN.n=t.ns→zs.length=t.ns.length:=fun zs h=>by rw[←h,ae]
 have tt:∀zs:List WN,zs.map WN.n=t.ns→(⟨t.ps,zs.map WN.n⟩:Tr)=t:=fun zs h=>by rw[h]
 have ax2:e.k=0∨e.k=1∨e.k=2∨e.k=3∨e.k=4∨e.k=5∨e.k=6:=by omega
 rcases ax2 with h|h|h|h|h|h|h
 ·have hf:Qq A e.k=A.ph:=by rw[h];rfl
  rw[hf];unfold qi;rw[if_pos h];rcases Hm t e.n with hi|⟨k,hk,hi⟩
  ·rw[hi,if_pos (by omega)]
   exact T0 h1 fun zs hz=>⟨zs,asu A e t.ps zs (by omega) (by rw[tt zs hz];exact hi),hz⟩
  ·rw[hi,if_neg (by omega),toNat_cast]
   exact T0 h1 fun zs hz=>⟨zs,ast A e t.ps zs (by omega) hk (by rw[tt zs hz];exact hi),hz⟩
 ·have hf:Qq A e.k=A.pg:=by rw[h];rfl
  rw[hf];unfold qi
  rw[if_neg (by omega),if_pos h]
  rcases Hm t e.n with hi|⟨k,hk,hi⟩
  ·rw[hi,if_pos (by omega)]
   exact T0 h1 fun zs hz=>⟨zs,ass A e t.ps zs (by omega) (by rw[tt zs hz];exact hi),hz⟩
  ·rw[hi,if_neg (by omega)]
   exact T0 h1 fun zs hz=>⟨zs,asr A e t.ps zs (by omega) (by rw[tt zs hz];exact hi),hz⟩
 ·have hf:Qq A e.k=A.pe:=by rw[h];rfl
  rw[hf];unfold qi
  rw[if_neg (by omega),if_neg (by omega),if_pos h]
  rcases Hm t e.n with hi|⟨k,hk,hi⟩
  ·rw[hi,if_pos (by omega)]
   exact T0 h1 fun zs hz=>⟨zs,asq A e t.ps zs (by omega) (by rw[tt zs hz];exact hi),hz⟩
  ·rw[hi,if_neg (by omega),toNat_cast]
   exact T0 h1 fun zs hz=>⟨zs,asp A e t.ps zs (by omega) hk (by rw[tt zs hz];exact hi),hz⟩
 ·have hf:Qq A e.k=A.pb:=by rw[h];rfl
  rw[hf];unfold qi
  rw[if_neg (by omega),if_neg (by omega),if_neg (by omega),if_pos h]
  rcases Hk t e.nd.n with hi|⟨k,hk,hi⟩
  ·rw[hi,if_pos (by omega)]
   exact T0 h1 fun zs hz=>⟨_,aso A e t.ps zs (by rw[zl zs hz];omega) he (by rw[tt zs hz];exact hi),by simp[hz,WN.of]⟩
  ·rw[hi,if_neg (by omega),toNat_cast]
   exact T0 h1 fun zs hz=>⟨_,asn A e t.ps zs (by rw[zl zs hz];omega) he (by rw[zl zs hz];exact hk) (by rw[tt zs hz];exact hi),by rw[alq,hz]⟩
 ·have hf:Qq A e.k=A.pa:=by rw[h];rfl
  rw[hf];unfold qi
  rw[if_neg (by omega),if_neg (by omega),if_neg (by omega),if_neg (by omega),if_pos h]
  rcases Hk t e.n with hi|⟨k,hk,hi⟩
  ·rw[hi,if_pos (by omega)]
   exact T0 h1 fun zs hz=>⟨zs,asm A e t.ps zs (by rw[zl zs hz];omega) (by rw[tt zs hz];exact hi),hz⟩
  ·rw[hi,if_neg (by omega),toNat_cast]
   exact T0 h1 fun zs hz=>⟨_,asl A e t.ps zs (by rw[zl zs hz];omega) (by rw[zl zs hz];exact hk) (by rw[tt zs hz];exact hi),by rw[af3,hz]⟩
 ·have hf:Qq A e.k=A.lh:=by rw[h];rfl
  rw[hf];unfold qi
  rw[if_neg (by omega),if_neg (by omega),if_neg (by omega),if_neg (by omega),if_neg (by omega),if_pos h]
  rcases Hk t e.n with hi|⟨k,hk,hi⟩
  ·rw[hi,if_pos (by omega)]
   exact Wz h1 (fun _=>rfl) fun cs m b6 hT j1=>⟨m,ard A e t (by omega) hi hT b6 (by omega) (by omega) j1,fun hc=>absurd hc (by simp),fun _ _=>rfl,rfl,j1⟩
  ·rw[hi,if_neg (by omega),toNat_cast]
   rcases Hk t e.t with hj|⟨q,hq,hj⟩
   ·rw[hj,if_pos (by omega)]
    refine Wz h1 (fun _=>by simp[Pd,Qm]) fun cs m b6 hT j1=>?_
    obtain⟨m',h2,h3,h4,h5,h6,h7⟩:=ayc A e t (by omega) (fun n hn=>(t3 n hn).2.2.2) hk hi hj hT b6 (by omega) (by omega) j1
    exact⟨m',h2,fun _=>h3,h4,h5,h7⟩
   ·rw[hj,if_neg (by omega)]
    exact Wz h1 (fun _=>rfl) fun cs m b6 hT j1=>⟨m,avp A e t (by omega) hi hj hT b6 (by omega) (by omega) j1,fun hc=>absurd hc (by simp),fun _ _=>rfl,rfl,j1⟩
 ·have hf:Qq A e.k=A.kz:=by rw[h];rfl
  rw[hf];unfold qi
  rw[if_neg (by omega),if_neg (by omega),if_neg (by omega),if_neg (by omega),if_neg (by omega),if_neg (by omega)]
  rcases Hm t e.n with hi|⟨k,hk,hi⟩
  ·rw[hi,if_pos (by omega)]
   exact Wz h1 (fun _=>rfl) fun cs m b6 hT j1=>⟨m,arb A e t (by omega) hi hT b6 (by omega) (by omega) j1,fun hc=>absurd hc (by simp),fun _ _=>rfl,rfl,j1⟩
  ·rw[hi,if_neg (by omega),toNat_cast]
   rcases Hm t e.t with hj|⟨q,hq,hj⟩
   ·rw[hj,if_pos (by omega)]
    refine Wz h1 (fun _=>by simp[Lg]) fun cs m b6 hT j1=>?_
    obtain⟨m',h2,h3,h4,h5,h6,h7⟩:=ayb A e t (by omega) (by omega) (fun n hn=>(t3 n hn).1) hk hi hj hT b6 (by omega) (by omega) j1
    exact⟨m',h2,fun _=>h3,h4,h5,h7⟩
   ·rw[hj,if_neg (by omega)]
    exact Wz h1 (fun _=>rfl) fun cs m b6 hT j1=>⟨m,avo A e t (by omega) hi hj hT b6 (by omega) (by omega) j1,fun hc=>absurd hc (by simp),fun _ _=>rfl,rfl,j1⟩
theorem Sk.set{l:List Nd}{k:Nat}{n:Nd}(h:∀x∈l,Sk x)(hn:Sk n):∀x∈l.set k n,Sk x:=by
 intro x hx;rcases aAq hx with h2|rfl
 ·exact h x h2
 ·exact hn
theorem ak4{l:List Nd}{k:Nat}(h:k<l.length):l.getD k n0∈l:=by
 have:l.getD k n0=l[k]:=by simp[bn,h]
 rw[this];exact bz _
theorem a0x(t:Tr)(e:Edt)(ht:F6 t)(he:O4 e):(qi t e).1.ps.length≤21∧(qi t e).1.ns.length≤21∧∀n∈(qi t e).1.ns,Sk n:=by
 obtain⟨t1,t2,t3⟩:=ht
 have tr:t.ps.length≤21∧t.ns.length≤21∧∀n∈t.ns,Sk n:=⟨by omega,by omega,t3⟩
 unfold qi;split
 ·split
  ·exact tr
  ·exact⟨by simp only[a9t,Fx];omega,tr.2⟩
 split
 ·split
  ·exact⟨by simp only[cb,bq,dh];omega,tr.2⟩
  ·exact tr
 split
 ·split
  ·exact tr
  ·refine⟨gn (aDr _ _) (by omega),tr.2⟩
 split
 ·split
  ·refine⟨tr.1,by simp only[cb,bq,dh];omega,fun n hn=>?_⟩
   rcases oo.1 hn with h|h
   ·exact t3 n h
   ·simp only[Ua]at h;subst h;exact he
  ·exact⟨tr.1,by simp only[Fx];omega,Sk.set t3 he⟩
 split
 ·split
  ·exact tr
  ·exact⟨tr.1,gn (aDr _ _) (by omega),fun n hn=>t3 n (List.mem_of_mem_eraseIdx hn)⟩
 split
 ·split
  ·exact tr
  ·rename_i hp
   split
   ·refine⟨by simp only[Pd];omega,by simp only[Pd,Qm,ae,Fx];omega,fun n hn=>?_⟩
    simp only[Pd,jc]at hn;obtain⟨n',hn',rfl⟩:=hn
    have hk:(Af t e.n).toNat<t.ns.length:=by
     rcases Hk t e.n with hi|⟨k,hk,hi⟩
     ·rw[hi]at hp;exact absurd (by decide) hp
     ·rw[hi,toNat_cast];exact hk
    have hn2:Sk n':=by
     unfold Qm at hn';have hm:=t3 _ (ak4 hk);exact Sk.set t3 (n:=⟨e.t,_,_⟩) ⟨hm.1,hm.2.1,hm.2.2.1,hm.2.2.2⟩ n' hn'
    obtain⟨q1,q2,q3,q4⟩:=hn2
    exact⟨q1,q2,q3,by simpa[aac]using q4⟩
   ·exact tr
 ·split
  ·exact tr
  ·split
   ·refine⟨by simp only[Lg,V4,Fx];omega,by simp only[Lg,ae];omega,fun n hn=>?_⟩
    simp only[Lg,jc]at hn;obtain⟨n',hn',rfl⟩:=hn;obtain⟨q1,q2,q3,q4⟩:=t3 n' hn'
    exact⟨by simpa[aab]using q1,q2,q3,q4⟩
   ·exact tr
theorem aia{u:Tr}(h1:u.ns.length≤21)(h2:∀n∈u.ns,Sk n):Rk (Fa u):=by
 refine⟨?_,fun n hn=>?_⟩
 ·show(ic Nd.n u.ns).length≤1000
  rw[x6];omega
 ·obtain⟨q1,q2,q3,q4⟩:=h2 n ((a0y Nd.n u.ns).mem_iff.1 hn)
  exact⟨q4,q1,q2,q3⟩
theorem ago{pr:List (List Sp)→Bool}(hpr:J5 A.toPr pr)(t:Tr)(e:Edt)(ht:F6 t)(he:O4 e):fp P A.tg [.agg (sf t),.agg (l9 e)] (.yi [.agg (sf (applyN pr t e).1),.int .i64 (applyN pr t e).2]):=by
 by_cases h:e.k<0∨7≤e.k
 ·have:applyN pr t e=(⟨[],[]⟩,1):=by unfold applyN;rw[if_pos h]
  rw[this];exact(axa A t e h).Qe (J8 (Ip Wk.bd Wk.bd))
 ·obtain⟨s1,s2,s3⟩:=a0x t e ht he
  exact aAe A hpr t e (by omega) (by omega) ht he s1 s2 (aia s2 s3) fun s' h1=>ash A t e (by omega) (by omega) ht he s' h1
end
def cMk(x:ByteArray×Tr):D×C:=(.str x.1,.d (.agg (sf x.2)))
def HAt(m:Mem)(h lo:Nat)(t:Tr)(us rs:List Tr)(mk:List (ByteArray×Tr)):Prop:=
 ∃uid rid mid cU cR,lo≤uid∧lo≤rid∧lo≤mid∧uid≠rid∧uid≠mid∧rid≠mid∧uid≠h∧rid≠h∧mid≠h∧m.bm h=some (.loc [.d (ix t.ps),.d (jj t.ns),cU,cR,.ku mid (m.ver mid)])∧Own m uid 2 (us.map sf) cU∧Own m rid 2 (rs.map sf) cR∧m.mp mid=some (mk.map cMk)
theorem HAt.mono{m m':Mem}{h lo b:Nat}{t:Tr}{us rs:List Tr}{mk:List (ByteArray×Tr)}(H:HAt m h lo t us rs mk)(j1:qb m b)(hm:∀i,i<b→m'.bm i=m.bm i∧m'.ver i=m.ver i∧m'.mp i=m.mp i):HAt m' h lo t us rs mk:=by
 obtain⟨uid,rid,mid,cU,cR,l1,l2,l3,n1,n2,n3,n4,n5,n6,hb,oU,oR,hm2⟩:=H;have hh:=j1.lt hb
 have aep:mid<b:=by
  rcases a00 mid b with h|h
  ·exact h
  ·rw[(j1 mid h).2]at hm2;cases hm2
 refine⟨uid,rid,mid,cU,cR,l1,l2,l3,n1,n2,n3,n4,n5,n6,by rw[(hm h hh).1,(hm mid aep).2.1];exact hb,?_,?_,by rw[(hm mid aep).2.2];exact hm2⟩
 ·rcases oU with h|⟨h1,h2⟩
  ·exact .inl h
  ·have:=j1.lt h2
   exact .inr ⟨by rw[(hm uid this).2.1];exact h1,by rw[(hm uid this).1];exact h2⟩
 ·rcases oR with h|⟨h1,h2⟩
  ·exact .inl h
  ·have:=j1.lt h2
   exact .inr ⟨by rw[(hm rid this).2.1];exact h1,by rw[(hm rid this).1];exact h2⟩
theorem ans(s:PS)(mk:List (ByteArray×Tr))(n:Nat):Nt ((mk.map cMk).map fun e=>(deep s n e.2).map fun x=>(e.1,x))=some (mk.map fun x=>(.str x.1,.agg (sf x.2))):=by
 rw[aEt]
 refine Uw _ _ mk fun x _=>?_
 show(deep s n (.d (.agg (sf x.2)))).map _=_;rw[afg];rfl
theorem HAt.data{s:PS}{h lo:Nat}{t:Tr}{us rs:List Tr}{mk:List (ByteArray×Tr)}(H:HAt s.mem h lo t us rs mk):
  ∃x y,snap s (.dv h (s.ver h) 0)=some (.tz [ix t.ps,jj t.ns,x,y,.map (mk.map fun x=>(.str x.1,.agg (sf x.2)))] 0)∧Wk x (.dt 2 (us.map sf))∧Wk y (.dt 2 (rs.map sf)):=by
 obtain⟨uid,rid,mid,cU,cR,l1,l2,l3,n1,n2,n3,n4,n5,n6,hb,oU,oR,hm2⟩:=H;obtain⟨x,x1,x2,x3,x4,x5⟩:=oU.data;obtain⟨y,y1,y2,y3,y4,y5⟩:=oR.data;refine⟨x,y,?_,x1,y1⟩;have ow:s.bm h=some (.loc [.d (ix t.ps),.d (jj t.ns),cU,cR,.ku mid (s.ver mid)]):=hb
 have hc:s.cs h (s.ver h)=some [.d (ix t.ps),.d (jj t.ns),cU,cR,.ku mid (s.ver mid)]:=by unfold PS.cs;rw[if_pos rfl,ow]
 have hm3:s.ents mid (s.ver mid)=some (mk.map cMk):=by unfold PS.ents;rw[if_pos rfl];exact hm2
 have e5:mc s (.ku mid (s.ver mid))=some (.map (mk.map fun x=>(.str x.1,.agg (sf x.2)))):=by
  show deep s 6 (.ku mid (s.ver mid))=_;simp only[deep,hm3,ans,gz]
 have one:∀(c:C) (x:D) (r:List C) (xs:List D),mc s c=some x→iz s r=some xs→iz s (c::r)=some (x::xs):=by
  intro c x r xs h1 h2
  show(match mc s c,iz s r with|some x,some l=>some (x::l)|_,_=>none)=_
  rw[h1,h2]
 have e6:=one _ _ _ _ (rfl:mc s (.d (ix t.ps))=some (ix t.ps)) (one _ _ _ _ (rfl:mc s (.d (jj t.ns))=some (jj t.ns)) (one _ _ _ _ x4 (one _ _ _ _ y4 (one _ _ _ _ e5 (rfl:iz s []=some [])))))
 show(match s.cs h (s.ver h)with|some cs=>(iz s cs).map fun ds=>D.tz ds 0|none=>none)=_
 rw[hc];show(iz s _).map _=_;rw[e6];rfl
section
variable{P:Program}(A:Pr4 P)
theorem avh(t:Tr)(h:Mid t)(x y z:D):fp P A.fy [.tz [ix t.ps,jj t.ns,x,y,z] 0] (.agg (sf t)):=by
 refine cy A.mo A.Hy (by simp) ?_
 show jd P (um A.jk) (kf _ _) _;have hc:=a0d A.toPr t h;simp only[sf,ix,jj]at hc;simp only[um,sf,ix,jj,go_sem,aa,ab,ag,reduceCtorEq];refine ee hc ?_;simp only[go_sem,aa,ab]
theorem ar9(p n z:D){us rs:List Tr}{x y:D}(hx:Wk x (.dt 2 (us.map sf)))(hy:Wk y (.dt 2 (rs.map sf))):fp P A.ng [.tz [p,n,x,y,z] 0] (.yi [.int .i64 us.length,.int .i64 rs.length]):=by
 have main:fp P A.ng [.tz [p,n,.dt 2 (us.map sf),.dt 2 (rs.map sf),z] 0] (.yi [.int .i64 us.length,.int .i64 rs.length]):=by
  refine cy A.mo A.Ot (by simp) ?_
  show jd P Bs (kf _ _) _;simp only[Bs,go_sem,aa,ab,ag,reduceCtorEq,ae]
 refine main.args rfl fun i a c ha hc=>?_
 match i with
 |0=>
  simp at ha hc;subst ha hc
  refine Wk.tz rfl fun j a c ha hc=>?_
  match j with
  |0=>simp at ha hc;subst ha hc;exact Wk.refl _
  |1=>simp at ha hc;subst ha hc;exact Wk.refl _
  |2=>simp at ha hc;subst ha hc;exact hx
  |3=>simp at ha hc;subst ha hc;exact hy
  |4=>simp at ha hc;subst ha hc;exact Wk.refl _
  |j+5=>simp at ha
 |i+1=>simp at ha
theorem ama{pr:List (List Sp)→Bool}(hpr:J5 A.toPr pr)(t:Tr)(h:Mid t)(hs:Rk t)(hT:Cr pr t=true)(m:Mem)(b:Nat)(j1:qb m b):
  ∃m',nj P A.ug m [.d (.agg (sf t))] m' (.yi [.ptr (b+11) (m'.ver (b+11)) 0,.d (.int .i64 0)])∧HAt m' (b+11) b t [] [] []∧(∀i,i<b→m'.bm i=m.bm i∧m'.ver i=m.ver i∧m'.mp i=m.mp i)∧qb m' (b+64):=by
 have hck:=aa7 A.toPr2 hpr t hs;rw[if_pos hT]at hck;have hc:=a0d A.toPr t h;simp only[sf,ix,jj]at hck hc;obtain⟨m',hm'⟩:∃m':Mem,m'=⟨jf m.bm (b+11) (some (.loc [.d (ix t.ps),.d (jj t.ns),.d .bd,.d .bd,.ku (b+9) (m.ver (b+9)+1)])),jf (jf m.ver (b+9) (m.ver (b+9)+1)) (b+11) (m.ver (b+11)+1),jf m.mp (b+9) (some [])⟩:=⟨_,rfl⟩
 have v9:m'.ver (b+9)=m.ver (b+9)+1:=by rw[hm'];simp[al]
 have v11:m'.ver (b+11)=m.ver (b+11)+1:=by rw[hm'];simp[al]
 refine⟨m',jt A.mo A.a4c (by simp) b (fun c=>?_) (fun i=>?_) (fun i x hx=>?_) (fun i es hi=>?_) ?_,⟨b+12,b+13,b+9,.d .bd,.d .bd,by omega,by omega,by omega,by omega,by omega,by omega,by omega,by omega,by omega,?_,.inl ⟨rfl,rfl⟩,.inl ⟨rfl,rfl⟩,?_⟩,fun i hi=>⟨?_,?_,?_⟩,fun i hi=>⟨?_,?_⟩⟩
 ·show jd P (Np A.la A.jk) (u0 m [.tmp 2,.tmp 3] _ _) _
  simp only[Np,enter,sf,ix,jj,go_sem,aa,ab];refine ee hck ?_;simp only[go_sem,aa,je,ab,reduceCtorEq];refine ee hc ?_;simp only[go_sem,aa,ab,ag,PS.ents,PS.mem,nh,qa,Gw,V.toC,v11];subst hm';intro i;simp only[al];by_cases h11:i=b+11
  ·subst h11
   simp only[if_true]
   exact⟨.inr ⟨rfl,by simp⟩,.inl (by rw[if_neg (by omega)];exact(j1 _ (by omega)).2)⟩
  ·simp only[if_neg h11]
   by_cases h9:i=b+9
   ·subst h9
    simp only[if_true]
    exact⟨.inl (j1 _ (by omega)).1,.inr ⟨trivial,by simp⟩⟩
   ·simp only[if_neg h9]
    by_cases h1:i=b+1
    ·subst h1
     exact⟨.inl (j1 _ (by omega)).1,.inl (j1 _ (by omega)).2⟩
    ·simp only[if_neg h1]
     exact⟨.inr ⟨trivial,trivial⟩,.inr ⟨trivial,trivial⟩⟩
 ·rw[hm']
  simp only[al]
  (repeat' split)<;>first|omega|(subst_vars;omega)
 ·rw[hm']at hx
  simp only[al]at hx;split at hx
  ·injection hx with hx
   subst hx
   refine .inr fun c hc=>?_
   simp only[dn,jg,or_false]at hc;rcases hc with rfl|rfl|rfl|rfl|rfl
   ·trivial
   ·trivial
   ·trivial
   ·trivial
   ·show m.ver (b+9)+1≤m'.ver (b+9)
    rw[v9];exact ar _
  ·exact .inl hx
 ·rw[hm']at hi
  simp only[al]at hi;split at hi
  ·injection hi with hi
   subst hi
   exact .inr fun e he=>absurd he (by simp)
  ·exact .inl hi
 ·intro c hc
  simp only[dn,jg,or_false]at hc;rcases hc with rfl|rfl
  ·exact ar _
  ·trivial
 ·rw[v9,hm']
  simp only[al,if_true]
 ·rw[hm']
  simp only[al,if_true,ez]
 ·rw[hm']
  simp only[al]
  rw[if_neg (by omega)]
 ·rw[hm']
  simp only[al]
  rw[if_neg (by omega),if_neg (by omega)]
 ·rw[hm']
  simp only[al]
  rw[if_neg (by omega)]
 ·rw[hm']
  simp only[al]
  rw[if_neg (by omega)]
  exact(j1 i (by omega)).1
 ·rw[hm']
  simp only[al]
  rw[if_neg (by omega)]
  exact(j1 i (by omega)).2
end
def Kept(m m':Mem)(h lo:Nat):Prop:=(∀j,j<lo→j≠h→m'.bm j=m.bm j∧m'.ver j=m.ver j∧m'.mp j=m.mp j)∧m'.ver h=m.ver h
def Wf2(m m':Mem)(h b:Nat):Prop:=(∀i,m.ver i≤m'.ver i)∧(∀i x,m'.bm i=some x→m.bm i=some x∨Jw m' x)∧m'.mp=m.mp∧∀j,j<b→j≠h→(∃sz els,m.bm j=some (.arr sz els))∨(m'.bm j=m.bm j∧m'.ver j=m.ver j)
theorem HAt.Tj{m:Mem}{b mid:Nat}{es:List (D×C)}(j1:qb m b)(h:m.mp mid=some es):mid<b:=by
 rcases a00 mid b with h2|h2
 ·exact h2
 ·rw[(j1 mid h2).2]at h;cases h
def Jl(m:Mem)(h uid w mid:Nat)(u:Tr)(us:List Tr):Mem:=(m.put uid w (.arr 2 (us.map sf))).put h (m.ver h) (.loc [.d (ix u.ps),.d (jj u.ns),.ref uid w us.length,.d .bd,.ku mid (m.ver mid)])
theorem agd{m:Mem}{h lo uid w mid b:Nat}{u:Tr}{us:List Tr}{mk:List (ByteArray×Tr)}(hu:lo≤uid)(x7:uid<b+60)(hw:m.ver uid≤w)(hm:lo≤mid)(h1:uid≠mid)(h2:uid≠h)(h3:mid≠h)(hmp:m.mp mid=some (mk.map cMk))(j1:qb m b)(hlo:lo≤b)(hhb:h<b):
  HAt (Jl m h uid w mid u us) h lo u us [] mk∧Kept m (Jl m h uid w mid u us) h lo∧qb (Jl m h uid w mid u us) (b+64)∧(∀i,m.ver i≤(Jl m h uid w mid u us).ver i)∧
  (∀i x,(Jl m h uid w mid u us).bm i=some x→m.bm i=some x∨Jw (Jl m h uid w mid u us) x):=by
 have hmb:=HAt.Tj j1 hmp
 have vm:(Jl m h uid w mid u us).ver mid=m.ver mid:=by
  simp only[Jl,Mem.put,al]
  rw[if_neg h3,if_neg (fun q=>h1 q.symm)]
 have vu:(Jl m h uid w mid u us).ver uid=w:=by
  simp only[Jl,Mem.put,al];rw[if_neg h2,if_pos trivial]
 refine⟨⟨uid,b+61,mid,.ref uid w us.length,.d .bd,hu,by omega,hm,by omega,h1,by omega,h2,by omega,h3,?_,.inr ⟨by rw[vu,ae],?_⟩,.inl ⟨rfl,rfl⟩,hmp⟩,⟨fun j hj kg=>⟨?_,?_,rfl⟩,?_⟩,fun i hi=>⟨?_,(j1 i (by omega)).2⟩,fun i=>?_,fun i x hx=>?_⟩
 ·rw[vm]
  simp only[Jl,Mem.put,bh]
 ·simp only[Jl,Mem.put,al]
  rw[if_neg h2,if_pos trivial]
 ·simp only[Jl,Mem.put,al]
  rw[if_neg kg,if_neg (by omega)]
 ·simp only[Jl,Mem.put,al]
  rw[if_neg kg,if_neg (by omega)]
 ·simp only[Jl,Mem.put,bh]
 ·simp only[Jl,Mem.put,al]
  rw[if_neg (by omega),if_neg (by omega)]
  exact(j1 i (by omega)).1
 ·simp only[Jl,Mem.put,al]
  (repeat' split)<;>first|omega|(subst_vars;omega)
 ·simp only[Jl,Mem.put,al]at hx
  split at hx
  ·injection hx with hx
   subst hx
   refine .inr fun c hc=>?_
   simp only[dn,jg,or_false]at hc;rcases hc with rfl|rfl|rfl|rfl|rfl
   ·trivial
   ·trivial
   ·show w≤(Jl m h uid w mid u us).ver uid
    rw[vu];exact ar _
   ·trivial
   ·show m.ver mid≤(Jl m h uid w mid u us).ver mid
    rw[vm];exact ar _
  ·split at hx
   ·injection hx with hx;subst hx;exact .inr trivial
   ·exact .inl hx
section
variable{P:Program}(A:Pr4 P)
theorem ay8{m:Mem}{h lo b:Nat}{t u:Tr}{us rs:List Tr}{mk:List (ByteArray×Tr)}(H:HAt m h lo t us rs mk)(hn:us.length<50)(j1:qb m b)(hlo:lo≤b):
  ∃m',nj P A.qc m [.dv h (m.ver h) 0,.d (.agg (sf u))] m' (.yi [])∧HAt m' h lo u (us++[t]) [] mk∧Kept m m' h lo∧qb m' (b+64)∧Wf2 m m' h b:=by
 obtain⟨uid,rid,mid,cU,cR,l1,l2,l3,n1,n2,n3,n4,n5,n6,hb,oU,oR,hm2⟩:=H;have hh:=j1.lt hb;have aep:=HAt.Tj j1 hm2
 have hh3:h≠b+3:=by omega
 have aCa:h≠b+14:=by omega
 have h3h:b+3≠h:=by omega
 have azi:b+14≠h:=by omega
 simp only[ix,jj]at hb;rcases oU with ⟨e1,rfl⟩|⟨rfl,x7⟩
 ·have e0:us=[]:=dg.1 e1
  subst e0
  obtain⟨k1,k2,k3,k4,k5⟩:=agd (m:=m) (h:=h) (lo:=lo) (uid:=b+14) (w:=m.ver (b+14)+1) (mid:=mid) (b:=b) (u:=u) (us:=[t]) (mk:=mk) (by omega) (by omega) (by omega) l3 (by omega) (by omega) n6 hm2 j1 hlo hh
  refine⟨_,jt A.mo A.Ik (by simp) b (fun c=>?_) k4 k5 (fun i es hi=> .inl hi) (by simp[F5]),k1,k2,k3,k4,k5,rfl,fun j hj kg=> .inr ?_⟩
  rotate_left
  ·simp only[Jl,Mem.put,al]
   rw[if_neg kg,if_neg (by omega),if_neg kg,if_neg (by omega)]
   exact⟨rfl,rfl⟩
  show jd P (wh A.nk) (u0 m [] _ _) _
  have w23:(1:Nat)*48≤2^47:=by omega
  simp only[wh,enter,sf,ix,jj,go_sem,aa,bx,de,ab,ag,reduceCtorEq,ca,ax,PS.mem,beq_self_eq_true,hb,hh3,h3h,aCa,azi,Ex,ov,w23,Mt,nh,Gw]
  refine rp (b:=b) (fun i hi=>?_) (fun i hi=>?_)
  ·simp only[Jl,Mem.put,al,ix,jj,cu,ez,sf,bq,dh]
   refine⟨?_,?_,trivial⟩<;>(repeat' split)<;>first|rfl|omega|(subst_vars;first|rfl|omega|simp)
  ·simp only[Jl,Mem.put,al,ix,jj,cu,ez,sf]
   rw[if_neg (show¬i=h by omega)]
   by_cases h14:i=b+14
   ·subst h14
    simp only[if_true,if_neg azi]
    exact⟨.inr ⟨trivial,by simp⟩,(j1 _ (by omega)).2⟩
   ·rw[if_neg h14]
    exact⟨.inl (j1 i hi).1,(j1 i hi).2⟩
 ·have iy:=j1.lt x7
  have hu3:uid≠b+3:=by omega
  have h3u:b+3≠uid:=by omega
  have e9:(us++[t]).length=us.length+1:=by simp
  obtain⟨k1,k2,k3,k4,k5⟩:=agd (m:=m) (h:=h) (lo:=lo) (uid:=uid) (w:=m.ver uid) (mid:=mid) (b:=b) (u:=u) (us:=us++[t]) (mk:=mk) l1 (by omega) (by omega) l3 n2 n4 n6 hm2 j1 hlo hh
  refine⟨_,jt A.mo A.Ik (by simp) b (fun c=>?_) k4 k5 (fun i es hi=> .inl hi) (by simp[F5]),k1,k2,k3,k4,k5,rfl,fun j hj kg=>?_⟩
  rotate_left
  ·by_cases hju:j=uid
   ·subst hju;exact .inl ⟨_,_,x7⟩
   ·refine .inr ?_
    simp only[Jl,Mem.put,al];rw[if_neg kg,if_neg hju,if_neg kg,if_neg hju];exact⟨rfl,rfl⟩
  show jd P (wh A.nk) (u0 m [] _ _) _
  have w23:(us.length+1)*48≤2^47:=by omega
  have w50:¬(((us.length+1:Nat):Int)>50):=by omega
  simp only[wh,enter,sf,ix,jj,go_sem,aa,ab,ag,reduceCtorEq,ca,ax,PS.mem,beq_self_eq_true,ae,hb,x7,hh3,h3h,hu3,h3u,n4,n4.symm,Ex,ov,w23,w50,cb,bq,nh,Gw]
  refine rp (b:=b) (fun i hi=>?_) (fun i hi=>?_)
  ·simp only[Jl,Mem.put,al,ix,jj,fb,cu,ez,e9]
   refine⟨?_,?_,trivial⟩<;>(repeat' split)<;>first|rfl|omega|(subst_vars;first|rfl|omega|simp)
  ·simp only[Jl,Mem.put,al]
   rw[if_neg (show¬i=h by omega),if_neg (by omega)]
   exact⟨.inl (j1 i hi).1,(j1 i hi).2⟩
end
def Bo(m:Mem)(h fid gid w mid:Nat)(p:Tr)(fs gs:List Tr)(undo:Bool):Mem:=
 ((m.put gid w (.arr 2 (gs.map sf))).put fid (m.ver fid+1) (.arr 2 (fs.map sf))).put h (m.ver h)
  (.loc (if undo=true then[.d (ix p.ps),.d (jj p.ns),.ref fid (m.ver fid+1) fs.length,.ref gid w gs.length,.ku mid (m.ver mid)]else[.d (ix p.ps),.d (jj p.ns),.ref gid w gs.length,.ref fid (m.ver fid+1) fs.length,.ku mid (m.ver mid)]))
theorem Uh{m:Mem}{h lo fid gid w mid b:Nat}{p:Tr}{fs gs:List Tr}{mk:List (ByteArray×Tr)}{undo:Bool}(hf:lo≤fid)(hfb:fid<b)(hg:lo≤gid)(hgb:gid<b+60)(hw:m.ver gid≤w)(hm:lo≤mid)(h1:fid≠gid)(h2:fid≠mid)(h3:gid≠mid)(h4:fid≠h)(h5:gid≠h)(h6:mid≠h)
  (hmp:m.mp mid=some (mk.map cMk))(j1:qb m b)(hlo:lo≤b)(hhb:h<b):
  (if undo=true then HAt (Bo m h fid gid w mid p fs gs undo) h lo p fs gs mk else HAt (Bo m h fid gid w mid p fs gs undo) h lo p gs fs mk)∧Kept m (Bo m h fid gid w mid p fs gs undo) h lo∧qb (Bo m h fid gid w mid p fs gs undo) (b+64)∧(∀i,m.ver i≤(Bo m h fid gid w mid p fs gs undo).ver i)∧
  (∀i x,(Bo m h fid gid w mid p fs gs undo).bm i=some x→m.bm i=some x∨Jw (Bo m h fid gid w mid p fs gs undo) x):=by
 have hmb:=HAt.Tj j1 hmp;obtain⟨M,hM⟩:∃M,M=Bo m h fid gid w mid p fs gs undo:=⟨_,rfl⟩
 have bl:∀i,i≠h→i≠fid→i≠gid→M.bm i=m.bm i∧M.ver i=m.ver i:=fun i q1 q2 q3=>by
  rw[hM];simp only[Bo,Mem.put,al];rw[if_neg q1,if_neg q2,if_neg q3,if_neg q1,if_neg q2,if_neg q3];exact⟨rfl,rfl⟩
 have vm:M.ver mid=m.ver mid:=(bl mid h6 (fun q=>h2 q.symm) (fun q=>h3 q.symm)).2
 have vf:M.ver fid=m.ver fid+1:=by
  rw[hM];simp only[Bo,Mem.put,al];rw[if_neg h4,if_pos trivial]
 have vg:M.ver gid=w:=by
  rw[hM];simp only[Bo,Mem.put,al];rw[if_neg h5,if_neg (fun q=>h1 q.symm),if_pos trivial]
 have bf:M.bm fid=some (.arr 2 (fs.map sf)):=by
  rw[hM];simp only[Bo,Mem.put,al];rw[if_neg h4,if_pos trivial]
 have bg:M.bm gid=some (.arr 2 (gs.map sf)):=by
  rw[hM];simp only[Bo,Mem.put,al];rw[if_neg h5,if_neg (fun q=>h1 q.symm),if_pos trivial]
 have vh:M.ver h=m.ver h:=by rw[hM];simp only[Bo,Mem.put,bh]
 have mp':M.mp=m.mp:=by rw[hM];rfl
 have hof:Own M fid 2 (fs.map sf) (.ref fid (m.ver fid+1) fs.length):= .inr ⟨by rw[vf,ae],bf⟩
 have hog:Own M gid 2 (gs.map sf) (.ref gid w gs.length):= .inr ⟨by rw[vg,ae],bg⟩
 have hbh:M.bm h=some (.loc (if undo=true then[.d (ix p.ps),.d (jj p.ns),.ref fid (m.ver fid+1) fs.length,.ref gid w gs.length,.ku mid (m.ver mid)]else[.d (ix p.ps),.d (jj p.ns),.ref gid w gs.length,.ref fid (m.ver fid+1) fs.length,.ku mid (m.ver mid)])):=by
  rw[hM];simp only[Bo,Mem.put,bh]
 have aBu:∀i,m.ver i≤M.ver i:=fun i=>by
  by_cases q1:i=h
  ·subst q1;rw[vh];exact ar _
  ·by_cases q2:i=fid
   ·subst q2;rw[vf];omega
   ·by_cases q3:i=gid
    ·subst q3;rw[vg];exact hw
    ·rw[(bl i q1 q2 q3).2];exact ar _
 rw[←hM]
 refine⟨?_,⟨fun j hj kg=>⟨(bl j kg (by omega) (by omega)).1,(bl j kg (by omega) (by omega)).2,by rw[mp']⟩,vh⟩,fun i hi=>⟨?_,by rw[mp'];exact(j1 i (by omega)).2⟩,aBu,fun i x hx=>?_⟩
 ·cases undo
  ·exact⟨gid,fid,mid,_,_,hg,hf,hm,fun q=>h1 q.symm,h3,h2,h5,h4,h6,by rw[vm];exact hbh,hog,hof,by rw[mp'];exact hmp⟩
  ·exact⟨fid,gid,mid,_,_,hf,hg,hm,h1,h2,h3,h4,h5,h6,by rw[vm];exact hbh,hof,hog,by rw[mp'];exact hmp⟩
 ·rw[(bl i (by omega) (by omega) (by omega)).1]
  exact(j1 i (by omega)).1
 ·by_cases q1:i=h
  ·subst q1
   rw[hbh]at hx
   injection hx with hx
   subst hx
   have cf:M7 M (.ref fid (m.ver fid+1) fs.length):=by show m.ver fid+1≤M.ver fid;rw[vf];exact ar _
   have cg:M7 M (.ref gid w gs.length):=by show w≤M.ver gid;rw[vg];exact ar _
   have cm:M7 M (.ku mid (m.ver mid)):=by show m.ver mid≤M.ver mid;rw[vm];exact ar _
   refine .inr fun c hc=>?_
   cases undo
   ·simp only[ec,if_false,dn,jg,or_false]at hc
    rcases hc with rfl|rfl|rfl|rfl|rfl
    ·trivial
    ·trivial
    ·exact cg
    ·exact cf
    ·exact cm
   ·simp only[if_true,dn,jg,or_false]at hc
    rcases hc with rfl|rfl|rfl|rfl|rfl
    ·trivial
    ·trivial
    ·exact cf
    ·exact cg
    ·exact cm
  ·by_cases q2:i=fid
   ·subst q2;rw[bf]at hx;injection hx with hx;subst hx;exact .inr trivial
   ·by_cases q3:i=gid
    ·subst q3;rw[bg]at hx;injection hx with hx;subst hx;exact .inr trivial
    ·rw[(bl i q1 q2 q3).1]at hx;exact .inl hx
theorem ahf{l:List Tr}{p:Tr}:((l++[p]).map sf)[l.length]? =some [.dt 2 (p.ps.map pn),.dt 5 (p.ns.map xe)]:=by
 simp[sf,ix,jj]
section
variable{P:Program}(A:Pr4 P)
theorem als{m:Mem}{h lo b:Nat}{t:Tr}{rs:List Tr}{mk:List (ByteArray×Tr)}(H:HAt m h lo t [] rs mk)(j1:qb m b):
  nj P A.iq m [.dv h (m.ver h) 0,.dv h (m.ver h) 2,.dv h (m.ver h) 3] m (.d (.int .i64 7)):=by
 obtain⟨uid,rid,mid,cU,cR,l1,l2,l3,n1,n2,n3,n4,n5,n6,hb,oU,oR,hm2⟩:=H;simp only[ix,jj]at hb
 refine jt A.mo A.ra (by simp) b (fun c=>?_) (fun i=>ar _) (fun i x hx=> .inl hx) (fun i es hi=> .inl hi) trivial
 show jd P ig (u0 m [.tmp 6] _ _) _;rcases oU with ⟨_,rfl⟩|⟨rfl,x7⟩
 ·simp only[ig,enter,go_sem,aa,ab,ag,reduceCtorEq,ax,PS.mem,beq_self_eq_true,hb,nh,qa]
  exact fun i=>⟨.inr ⟨rfl,rfl⟩,.inr ⟨rfl,rfl⟩⟩
 ·simp only[ez]at x7
  simp only[ig,enter,go_sem,aa,ab,ag,reduceCtorEq,ax,PS.mem,beq_self_eq_true,hb,x7,nh,qa]
  exact fun i=>⟨.inr ⟨rfl,rfl⟩,.inr ⟨rfl,rfl⟩⟩
theorem aqo{m:Mem}{h lo b:Nat}{t p:Tr}{fs gs:List Tr}{mk:List (ByteArray×Tr)}(H:HAt m h lo t (fs++[p]) gs mk)(hl:fs.length≤1000)(hl2:gs.length≤1000)(j1:qb m b)(hlo:lo≤b):
  ∃m',nj P A.iq m [.dv h (m.ver h) 0,.dv h (m.ver h) 2,.dv h (m.ver h) 3] m' (.d (.int .i64 0))∧HAt m' h lo p fs (gs++[t]) mk∧Kept m m' h lo∧qb m' (b+64)∧Wf2 m m' h b:=by
 obtain⟨uid,rid,mid,cU,cR,l1,l2,l3,n1,n2,n3,n4,n5,n6,hb,oU,oR,hm2⟩:=H;have hh:=j1.lt hb;have aep:=HAt.Tj j1 hm2;simp only[ix,jj]at hb
 have kg:(fs++[p]).map sf≠[]:=by simp
 obtain⟨rfl,x7⟩:=oU.ref kg;have hF:=j1.lt x7
 have e8:((fs++[p]).map sf).length=fs.length+1:=by simp
 have e7:(fs++[p]).length=fs.length+1:=by simp
 have hg:=ahf (l:=fs) (p:=p)
 have htk:((fs++[p]).map sf).take fs.length=fs.map sf:=by rw[←J7,aFg]
 rw[e8]at hb
 have wj:=br (((fs.length+1:Nat):Int)-1) (by omega) (by omega)
 have wj2:((fs.length+1:Nat):Int)-1=(fs.length:Int):=by omega
 rw[wj2]at wj
 have hz:(((fs.length+1:Nat):Int)==0)=false:=by rw[beq_eq_false_iff_ne];omega
 have hlI:(fs.length:Int)<((fs.length+1:Nat):Int):=by omega
 have hle:fs.length≤fs.length+1:=by omega
 have aoe:(fs.length:Int)≤((fs.length+1:Nat):Int):=by omega
 generalize hL:(fs++[p]).map sf=L at*
 rcases oR with ⟨e1,rfl⟩|⟨rfl,hrb⟩
 ·have e0:gs=[]:=dg.1 e1
  subst e0
  have awr:uid≠b+23:=by omega
  have aww:b+23≠uid:=by omega
  have awm:h≠b+23:=by omega
  have awv:b+23≠h:=by omega
  obtain⟨k1,k2,k3,k4,k5⟩:=Uh (m:=m) (h:=h) (lo:=lo) (fid:=uid) (gid:=b+23) (w:=m.ver (b+23)+1) (mid:=mid) (b:=b) (p:=p) (fs:=fs) (gs:=[t]) (mk:=mk) (undo:=true) l1 (by omega) (by omega) (by omega) (by omega) l3 (by omega) n2 (by omega) n4 (by omega) n6 hm2 j1 hlo hh
  refine⟨_,jt A.mo A.ra (by simp) b (fun c=>?_) k4 k5 (fun i es hi=> .inl hi) trivial,k1,k2,k3,k4,k5,rfl,fun j hj kg=>?_⟩
  rotate_left
  ·by_cases hju:j=uid
   ·subst hju;exact .inl ⟨_,_,x7⟩
   ·refine .inr ?_
    simp only[Bo,Mem.put,al]
    rw[if_neg kg,if_neg hju,if_neg (by omega),if_neg kg,if_neg hju,if_neg (by omega)]
    exact⟨rfl,rfl⟩
  show jd P ig (u0 m [.tmp 6] _ _) _
  have w23:(1:Nat)*48≤2^47:=by omega
  simp only[ig,enter,go_sem,aa,de,ab,ag,reduceCtorEq,ca,ax,PS.mem,beq_self_eq_true,hb,x7,awr,awm,n4,Ex,ov,w23,Mt,nh,qa,e8,wj,wj2,hz,hlI,aoe,hg,toNat_cast,aj,v8,htk]
  refine rp (b:=b) (fun i hi=>?_) (fun i hi=>?_)
  ·simp only[Bo,Mem.put,al,ix,jj,cu,ez,sf,bq,dh,if_true]
   refine⟨?_,?_,trivial⟩<;>(repeat' split)<;>first|rfl|omega|(subst_vars;first|rfl|omega|simp)
  ·simp only[Bo,Mem.put,al]
   rw[if_neg (show¬i=h by omega),if_neg (show¬i=uid by omega)]
   by_cases h14:i=b+23
   ·subst h14
    simp only[if_true,if_neg awv,if_neg aww]
    exact⟨.inr ⟨rfl,by simp⟩,(j1 _ (by omega)).2⟩
   ·rw[if_neg h14]
    exact⟨.inl (j1 i hi).1,(j1 i hi).2⟩
 ·have hG:=j1.lt hrb
  have e9:(gs++[t]).length=gs.length+1:=by simp
  obtain⟨k1,k2,k3,k4,k5⟩:=Uh (m:=m) (h:=h) (lo:=lo) (fid:=uid) (gid:=rid) (w:=m.ver rid) (mid:=mid) (b:=b) (p:=p) (fs:=fs) (gs:=gs++[t]) (mk:=mk) (undo:=true) l1 (by omega) l2 (by omega) (by omega) l3 n1 n2 n3 n4 n5 n6 hm2 j1 hlo hh
  refine⟨_,jt A.mo A.ra (by simp) b (fun c=>?_) k4 k5 (fun i es hi=> .inl hi) trivial,k1,k2,k3,k4,k5,rfl,fun j hj kg=>?_⟩
  rotate_left
  ·by_cases hju:j=uid
   ·subst hju;exact .inl ⟨_,_,x7⟩
   ·by_cases hjg:j=rid
    ·subst hjg;exact .inl ⟨_,_,hrb⟩
    ·refine .inr ?_
     simp only[Bo,Mem.put,al];rw[if_neg kg,if_neg hju,if_neg hjg,if_neg kg,if_neg hju,if_neg hjg];exact⟨rfl,rfl⟩
  show jd P ig (u0 m [.tmp 6] _ _) _
  have w23:(gs.length+1)*48≤2^47:=by omega
  simp only[ig,enter,go_sem,aa,ab,ag,reduceCtorEq,ca,ax,PS.mem,beq_self_eq_true,ae,hb,x7,hrb,n1,n4,n5.symm,Ex,ov,w23,nh,qa,e8,wj,wj2,hz,hlI,aoe,hg,toNat_cast,aj,v8,htk,cb,bq]
  refine rp (b:=b) (fun i hi=>?_) (fun i hi=>?_)
  ·simp only[Bo,Mem.put,al,ix,jj,fb,cu,ez,sf,e9,if_true]
   refine⟨?_,?_,trivial⟩<;>(repeat' split)<;>first|rfl|omega|(subst_vars;first|rfl|omega|simp)
  ·simp only[Bo,Mem.put,al]
   rw[if_neg (show¬i=h by omega),if_neg (show¬i=uid by omega),if_neg (show¬i=rid by omega)]
   exact⟨.inl (j1 i hi).1,(j1 i hi).2⟩
theorem alu{m:Mem}{h lo b:Nat}{t:Tr}{us:List Tr}{mk:List (ByteArray×Tr)}(H:HAt m h lo t us [] mk)(j1:qb m b):
  nj P A.iq m [.dv h (m.ver h) 0,.dv h (m.ver h) 3,.dv h (m.ver h) 2] m (.d (.int .i64 7)):=by
 obtain⟨uid,rid,mid,cU,cR,l1,l2,l3,n1,n2,n3,n4,n5,n6,hb,oU,oR,hm2⟩:=H;simp only[ix,jj]at hb
 refine jt A.mo A.ra (by simp) b (fun c=>?_) (fun i=>ar _) (fun i x hx=> .inl hx) (fun i es hi=> .inl hi) trivial
 show jd P ig (u0 m [.tmp 6] _ _) _;rcases oR with ⟨_,rfl⟩|⟨rfl,x7⟩
 ·simp only[ig,enter,go_sem,aa,ab,ag,reduceCtorEq,ax,PS.mem,beq_self_eq_true,hb,nh,qa]
  exact fun i=>⟨.inr ⟨rfl,rfl⟩,.inr ⟨rfl,rfl⟩⟩
 ·simp only[ez]at x7
  simp only[ig,enter,go_sem,aa,ab,ag,reduceCtorEq,ax,PS.mem,beq_self_eq_true,hb,x7,nh,qa]
  exact fun i=>⟨.inr ⟨rfl,rfl⟩,.inr ⟨rfl,rfl⟩⟩
theorem aqp{m:Mem}{h lo b:Nat}{t p:Tr}{fs gs:List Tr}{mk:List (ByteArray×Tr)}(H:HAt m h lo t gs (fs++[p]) mk)(hl:fs.length≤1000)(hl2:gs.length≤1000)(j1:qb m b)(hlo:lo≤b):
  ∃m',nj P A.iq m [.dv h (m.ver h) 0,.dv h (m.ver h) 3,.dv h (m.ver h) 2] m' (.d (.int .i64 0))∧HAt m' h lo p (gs++[t]) fs mk∧Kept m m' h lo∧qb m' (b+64)∧Wf2 m m' h b:=by
 obtain⟨uid,rid,mid,cU,cR,l1,l2,l3,n1,n2,n3,n4,n5,n6,hb,oU,oR,hm2⟩:=H;have hh:=j1.lt hb;have aep:=HAt.Tj j1 hm2;simp only[ix,jj]at hb
 have kg:(fs++[p]).map sf≠[]:=by simp
 obtain⟨rfl,x7⟩:=oR.ref kg;have hF:=j1.lt x7
 have e8:((fs++[p]).map sf).length=fs.length+1:=by simp
 have e7:(fs++[p]).length=fs.length+1:=by simp
 have hg:=ahf (l:=fs) (p:=p)
 have htk:((fs++[p]).map sf).take fs.length=fs.map sf:=by rw[←J7,aFg]
 rw[e8]at hb
 have wj:=br (((fs.length+1:Nat):Int)-1) (by omega) (by omega)
 have wj2:((fs.length+1:Nat):Int)-1=(fs.length:Int):=by omega
 rw[wj2]at wj
 have hz:(((fs.length+1:Nat):Int)==0)=false:=by rw[beq_eq_false_iff_ne];omega
 have hlI:(fs.length:Int)<((fs.length+1:Nat):Int):=by omega
 have hle:fs.length≤fs.length+1:=by omega
 have aoe:(fs.length:Int)≤((fs.length+1:Nat):Int):=by omega
 generalize hL:(fs++[p]).map sf=L at*
 rcases oU with ⟨e1,rfl⟩|⟨rfl,hrb⟩
 ·have e0:gs=[]:=dg.1 e1
  subst e0
  have awr:rid≠b+23:=by omega
  have aww:b+23≠rid:=by omega
  have awm:h≠b+23:=by omega
  have awv:b+23≠h:=by omega
  obtain⟨k1,k2,k3,k4,k5⟩:=Uh (m:=m) (h:=h) (lo:=lo) (fid:=rid) (gid:=b+23) (w:=m.ver (b+23)+1) (mid:=mid) (b:=b) (p:=p) (fs:=fs) (gs:=[t]) (mk:=mk) (undo:=false) l2 (by omega) (by omega) (by omega) (by omega) l3 (by omega) n3 (by omega) n5 (by omega) n6 hm2 j1 hlo hh
  refine⟨_,jt A.mo A.ra (by simp) b (fun c=>?_) k4 k5 (fun i es hi=> .inl hi) trivial,k1,k2,k3,k4,k5,rfl,fun j hj kg=>?_⟩
  rotate_left
  ·by_cases hju:j=rid
   ·subst hju;exact .inl ⟨_,_,x7⟩
   ·refine .inr ?_
    simp only[Bo,Mem.put,al]
    rw[if_neg kg,if_neg hju,if_neg (by omega),if_neg kg,if_neg hju,if_neg (by omega)]
    exact⟨rfl,rfl⟩
  show jd P ig (u0 m [.tmp 6] _ _) _
  have w23:(1:Nat)*48≤2^47:=by omega
  simp only[ig,enter,go_sem,aa,de,ab,ag,reduceCtorEq,ca,ax,PS.mem,beq_self_eq_true,hb,x7,awr,awm,n5,Ex,ov,w23,Mt,nh,qa,e8,wj,wj2,hz,hlI,aoe,hg,toNat_cast,aj,v8,htk]
  refine rp (b:=b) (fun i hi=>?_) (fun i hi=>?_)
  ·simp only[Bo,Mem.put,al,ix,jj,cu,ez,sf,bq,dh,ec,if_false]
   refine⟨?_,?_,trivial⟩<;>(repeat' split)<;>first|rfl|omega|(subst_vars;first|rfl|omega|simp)
  ·simp only[Bo,Mem.put,al]
   rw[if_neg (show¬i=h by omega),if_neg (show¬i=rid by omega)]
   by_cases h14:i=b+23
   ·subst h14
    simp only[if_true,if_neg awv,if_neg aww]
    exact⟨.inr ⟨rfl,by simp⟩,(j1 _ (by omega)).2⟩
   ·rw[if_neg h14]
    exact⟨.inl (j1 i hi).1,(j1 i hi).2⟩
 ·have hG:=j1.lt hrb
  have e9:(gs++[t]).length=gs.length+1:=by simp
  obtain⟨k1,k2,k3,k4,k5⟩:=Uh (m:=m) (h:=h) (lo:=lo) (fid:=rid) (gid:=uid) (w:=m.ver uid) (mid:=mid) (b:=b) (p:=p) (fs:=fs) (gs:=gs++[t]) (mk:=mk) (undo:=false) l2 (by omega) l1 (by omega) (by omega) l3 n1.symm n3 n2 n5 n4 n6 hm2 j1 hlo hh
  refine⟨_,jt A.mo A.ra (by simp) b (fun c=>?_) k4 k5 (fun i es hi=> .inl hi) trivial,k1,k2,k3,k4,k5,rfl,fun j hj kg=>?_⟩
  rotate_left
  ·by_cases hju:j=rid
   ·subst hju;exact .inl ⟨_,_,x7⟩
   ·by_cases hjg:j=uid
    ·subst hjg;exact .inl ⟨_,_,hrb⟩
    ·refine .inr ?_
     simp only[Bo,Mem.put,al];rw[if_neg kg,if_neg hju,if_neg hjg,if_neg kg,if_neg hju,if_neg hjg];exact⟨rfl,rfl⟩
  show jd P ig (u0 m [.tmp 6] _ _) _
  have w23:(gs.length+1)*48≤2^47:=by omega
  simp only[ig,enter,go_sem,aa,ab,ag,reduceCtorEq,ca,ax,PS.mem,beq_self_eq_true,ae,hb,x7,hrb,n1.symm,n4.symm,n5,Ex,ov,w23,nh,qa,e8,wj,wj2,hz,hlI,aoe,hg,toNat_cast,aj,v8,htk,cb,bq]
  refine rp (b:=b) (fun i hi=>?_) (fun i hi=>?_)
  ·simp only[Bo,Mem.put,al,ix,jj,fb,cu,ez,sf,e9,ec,if_false]
   refine⟨?_,?_,trivial⟩<;>(repeat' split)<;>first|rfl|omega|(subst_vars;first|rfl|omega|simp)
  ·simp only[Bo,Mem.put,al]
   rw[if_neg (show¬i=h by omega),if_neg (show¬i=rid by omega),if_neg (show¬i=uid by omega)]
   exact⟨.inl (j1 i hi).1,(j1 i hi).2⟩
end
theorem Wf2.refl(m:Mem)(h b:Nat):Wf2 m m h b:=⟨fun _=>ar _,fun _ _ hx=> .inl hx,rfl,fun _ _ _=> .inr ⟨rfl,rfl⟩⟩
section
variable{P:Program}(A:Pr4 P)
theorem ar0{m:Mem}{h lo b:Nat}{t:Tr}{rs:List Tr}{mk:List (ByteArray×Tr)}(H:HAt m h lo t [] rs mk)(j1:qb m b):nj P A.j2 m [.dv h (m.ver h) 0] m (.d (.int .i64 7)):=by
 have hE:=als A H j1;obtain⟨uid,rid,mid,cU,cR,l1,l2,l3,n1,n2,n3,n4,n5,n6,hb,oU,oR,hm2⟩:=H
 refine jt A.mo A.Hx (by simp) b (fun c=>?_) (fun i=>ar _) (fun i x hx=> .inl hx) (fun i es hi=> .inl hi) trivial
 show jd P (uk A.iq) (u0 m [.tmp 2] _ _) _;simp only[uk,enter,go_sem,aa,reduceCtorEq,ax,hb];refine iu hE ?_;simp only[go_sem,aa,PS.gl,PS.mem,nh,qa]
 exact fun i=>⟨.inr ⟨rfl,rfl⟩,.inr ⟨rfl,rfl⟩⟩
theorem am6{m:Mem}{h lo b:Nat}{t p:Tr}{fs gs:List Tr}{mk:List (ByteArray×Tr)}(H:HAt m h lo t (fs++[p]) gs mk)(hl:fs.length≤1000)(hl2:gs.length≤1000)(j1:qb m b)(hlo:lo≤b):
  ∃m',nj P A.j2 m [.dv h (m.ver h) 0] m' (.d (.int .i64 0))∧HAt m' h lo p fs (gs++[t]) mk∧Kept m m' h lo∧qb m' (b+64):=by
 obtain⟨m',hE,h2,h3,h4,w1,w2,w3,_⟩:=aqo A H hl hl2 j1 hlo;obtain⟨uid,rid,mid,cU,cR,l1,l2,l3,n1,n2,n3,n4,n5,n6,hb,oU,oR,hm2⟩:=H
 refine⟨m',jt A.mo A.Hx (by simp) b (fun c=>?_) w1 w2 (fun i es hi=> .inl (by rw[←w3];exact hi)) trivial,h2,h3,h4⟩
 show jd P (uk A.iq) (u0 m [.tmp 2] _ _) _;simp only[uk,enter,go_sem,aa,reduceCtorEq,ax,hb];refine iu hE ?_;simp only[go_sem,aa,PS.gl,PS.mem,nh,qa]
 exact fun i=>⟨.inr ⟨rfl,rfl⟩,.inr ⟨rfl,rfl⟩⟩
theorem agq{m:Mem}{h lo b:Nat}{t:Tr}{us:List Tr}{mk:List (ByteArray×Tr)}(H:HAt m h lo t us [] mk)(j1:qb m b):nj P A.ir m [.dv h (m.ver h) 0] m (.d (.int .i64 7)):=by
 have hE:=alu A H j1;obtain⟨uid,rid,mid,cU,cR,l1,l2,l3,n1,n2,n3,n4,n5,n6,hb,oU,oR,hm2⟩:=H
 refine jt A.mo A.Hz (by simp) b (fun c=>?_) (fun i=>ar _) (fun i x hx=> .inl hx) (fun i es hi=> .inl hi) trivial
 show jd P (uo A.iq) (u0 m [.tmp 2] _ _) _;simp only[uo,enter,go_sem,aa,reduceCtorEq,ax,hb];refine iu hE ?_;simp only[go_sem,aa,PS.gl,PS.mem,nh,qa]
 exact fun i=>⟨.inr ⟨rfl,rfl⟩,.inr ⟨rfl,rfl⟩⟩
theorem am7{m:Mem}{h lo b:Nat}{t p:Tr}{fs gs:List Tr}{mk:List (ByteArray×Tr)}(H:HAt m h lo t gs (fs++[p]) mk)(hl:fs.length≤1000)(hl2:gs.length≤1000)(j1:qb m b)(hlo:lo≤b):
  ∃m',nj P A.ir m [.dv h (m.ver h) 0] m' (.d (.int .i64 0))∧HAt m' h lo p (gs++[t]) fs mk∧Kept m m' h lo∧qb m' (b+64):=by
 obtain⟨m',hE,h2,h3,h4,w1,w2,w3,_⟩:=aqp A H hl hl2 j1 hlo;obtain⟨uid,rid,mid,cU,cR,l1,l2,l3,n1,n2,n3,n4,n5,n6,hb,oU,oR,hm2⟩:=H
 refine⟨m',jt A.mo A.Hz (by simp) b (fun c=>?_) w1 w2 (fun i es hi=> .inl (by rw[←w3];exact hi)) trivial,h2,h3,h4⟩
 show jd P (uo A.iq) (u0 m [.tmp 2] _ _) _;simp only[uo,enter,go_sem,aa,reduceCtorEq,ax,hb];refine iu hE ?_;simp only[go_sem,aa,PS.gl,PS.mem,nh,qa]
 exact fun i=>⟨.inr ⟨rfl,rfl⟩,.inr ⟨rfl,rfl⟩⟩
theorem aa5{pr:List (List Sp)→Bool}(hpr:J5 A.toPr pr){m:Mem}{h lo b:Nat}{t:Tr}{us rs:List Tr}{mk:List (ByteArray×Tr)}(H:HAt m h lo t us rs mk)(e:Edt)(ht:F6 t)(he:O4 e)(hc:(applyN pr t e).2≠0)(j1:qb m b):
  nj P A.kl m [.dv h (m.ver h) 0,.d (.agg (l9 e))] m (.d (.int .i64 (applyN pr t e).2)):=by
 obtain⟨uid,rid,mid,cU,cR,l1,l2,l3,n1,n2,n3,n4,n5,n6,hb,oU,oR,hm2⟩:=H;have hh:=j1.lt hb;have hap:=ago A hpr t e ht he
 have hcb:((applyN pr t e).2==0)=false:=by simpa using hc
 generalize applyN pr t e=r at*
 simp only[sf,l9,ix,jj]at hap;simp only[ix,jj]at hb
 have hh3:h≠b+3:=by omega
 have h3h:b+3≠h:=by omega
 have hh5:h≠b+5:=by omega
 have h5h:b+5≠h:=by omega
 refine jt A.mo A.Jt (by simp) b (fun c=>?_) (fun i=>ar _) (fun i x hx=> .inl hx) (fun i es hi=> .inl hi) trivial
 show jd P (xm A.tg A.qc) (u0 m [.tmp 4] _ _) _;simp only[xm,enter,l9,go_sem,aa,ab,ag,reduceCtorEq,ax,hb,hh3,hh5];refine gf hap ?_;simp only[go_sem,aa,ab,reduceCtorEq,PS.mem,p8,hcb,nh,qa]
 refine rp (b:=b) (fun i hi=>?_) (fun i hi=>⟨.inl (j1 i hi).1,(j1 i hi).2⟩)
 simp only[al]
 rw[if_neg (show¬i=b+3 by omega),if_neg (show¬i=b+5 by omega),if_neg (show¬i=b+3 by omega)]
 repeat rw[if_neg (show¬i=b+5 by omega)]
 exact⟨rfl,rfl,rfl⟩
theorem Jw.same{m m':Mem}(hv:m'.ver=m.ver):∀x:B,Jw m x→Jw m' x:=by
 have e:∀c:C,M7 m c→M7 m' c:=fun c hc=>by
  cases c<;>first|trivial|(simp only[M7,hv]at hc⊢;exact hc)
 intro x hx
 cases x<;>first|trivial|(intro c hc;exact e c (hx c hc))|(intro l hl c hc;exact e c (hx l hl c hc))
theorem aqh{α:Type}(f:Nat→α)(i:Nat)(x y:α):jf (jf f i x) i y=jf f i y:=by
 funext j;simp only[al];split<;>rfl
def aut(m:Mem)(b:Nat):Mem:=⟨fun i=>if b≤i∧i<b+64 then none else m.bm i,m.ver,m.mp⟩
theorem ap4{m:Mem}{h lo b:Nat}{t:Tr}{us rs:List Tr}{mk:List (ByteArray×Tr)}(H:HAt m h lo t us rs mk)(hh:h<b)(hna:∀j,b≤j→j<b+64→∀sz els,m.bm j≠some (.arr sz els)):HAt (aut m b) h lo t us rs mk:=by
 obtain⟨uid,rid,mid,cU,cR,l1,l2,l3,n1,n2,n3,n4,n5,n6,hb,oU,oR,hm2⟩:=H;refine⟨uid,rid,mid,cU,cR,l1,l2,l3,n1,n2,n3,n4,n5,n6,?_,?_,?_,hm2⟩
 ·show(if b≤h∧h<b+64 then none else m.bm h)=_
  rw[if_neg (by omega)]
  exact hb
 ·rcases oU with h1|⟨h1,h2⟩
  ·exact .inl h1
  ·refine .inr ⟨h1,?_⟩
   show(if b≤uid∧uid<b+64 then none else m.bm uid)=_
   rw[if_neg (fun q=>hna uid q.1 q.2 _ _ h2)]
   exact h2
 ·rcases oR with h1|⟨h1,h2⟩
  ·exact .inl h1
  ·refine .inr ⟨h1,?_⟩
   show(if b≤rid∧rid<b+64 then none else m.bm rid)=_
   rw[if_neg (fun q=>hna rid q.1 q.2 _ _ h2)]
   exact h2
def doM(m:Mem)(b:Nat)(e:Edt)(u:Tr):Mem:=⟨jf (jf m.bm (b+3) (some (.loc [.d (.int .i64 e.k),.d (.str e.n),.d (.str e.t),.d (.int .i64 e.v),.d (.str e.nd.n),.d (.int .i64 e.nd.f.k),.d (ua e.nd.f.vs),.d (jv e.nd.f.ls),.d (ma e.nd.ins)]))) (b+5) (some (.loc [.d (ix u.ps),.d (jj u.ns)])),
 jf (jf m.ver (b+3) (m.ver (b+3)+1)) (b+5) (m.ver (b+5)+2),jf m.mp (b+5) none⟩
theorem amd{pr:List (List Sp)→Bool}(hpr:J5 A.toPr pr){m:Mem}{h lo b:Nat}{t:Tr}{us rs:List Tr}{mk:List (ByteArray×Tr)}(H:HAt m h lo t us rs mk)(e:Edt)(ht:F6 t)(he:O4 e)(hc:(applyN pr t e).2=0)(hn:us.length<50)(j1:qb m b)(hlo:lo≤b):
  ∃m',nj P A.kl m [.dv h (m.ver h) 0,.d (.agg (l9 e))] m' (.d (.int .i64 0))∧HAt m' h lo (applyN pr t e).1 (us++[t]) [] mk∧Kept m m' h lo∧qb m' (b+128):=by
 have hap:=ago A hpr t e ht he
 have hcb:((applyN pr t e).2==0)=true:=by simpa using hc
 generalize applyN pr t e=r at*
 rw[hc]at hap hcb
 have hb5:∀i,i<b→(doM m b e r.1).bm i=m.bm i∧(doM m b e r.1).ver i=m.ver i∧(doM m b e r.1).mp i=m.mp i:=fun i hi=>by
  simp only[doM,al]
  rw[if_neg (show¬i=b+5 by omega),if_neg (show¬i=b+3 by omega),if_neg (show¬i=b+5 by omega),if_neg (show¬i=b+3 by omega),if_neg (show¬i=b+5 by omega)]
  exact⟨rfl,rfl,rfl⟩
 have H2:=H.mono (b:=b) (m':=doM m b e r.1) j1 hb5
 have X1:qb (doM m b e r.1) (b+64):=fun i hi=>by
  simp only[doM,al]
  rw[if_neg (show¬i=b+5 by omega),if_neg (show¬i=b+3 by omega),if_neg (show¬i=b+5 by omega)]
  exact j1 i (by omega)
 obtain⟨m',hE,k1,k2,k3,w1,w2,w3,w4⟩:=ay8 A (u:=r.1) H2 hn X1 (by omega)
 obtain⟨uid,rid,mid,cU,cR,l1,l2,l3,n1,n2,n3,n4,n5,n6,hb,oU,oR,hm2⟩:=H;have hh:=j1.lt hb
 have hna:∀j,b≤j→j<b+64→∀sz els,m'.bm j≠some (.arr sz els):=fun j h1 h2 sz els hq=>by
  have d3:∀sz els,(doM m b e r.1).bm j≠some (.arr sz els):=fun sz els hq=>by
   simp only[doM,al]at hq;split at hq
   ·cases hq
   ·split at hq
    ·cases hq
    ·rw[(j1 j h1).1]at hq;cases hq
  rcases w4 j h2 (by omega)with ⟨sz2,aEf,h4⟩|⟨h4,_⟩
  ·exact d3 _ _ h4
  ·rw[h4]at hq;exact d3 _ _ hq
 have vle:∀i,m.ver i≤(doM m b e r.1).ver i:=fun i=>by
  simp only[doM,al]
  (repeat' split)<;>first|omega|(subst_vars;omega)
 have hmp:m'.mp=m.mp:=by
  rw[w3]
  funext i
  simp only[doM,al];split
  ·subst_vars;exact(j1 _ (by omega)).2.symm
  ·rfl
 refine⟨aut m' b,jt A.mo A.Jt (by simp) b (fun c=>?_) (fun i=>gn (vle i) (w1 i)) (fun i x hx=>?_) (fun i es hi=> .inl (by rw[←hmp];exact hi)) trivial,ap4 k1 hh hna,⟨fun j hj kg=>?_,?_⟩,fun i hi=>?_⟩
 ·simp only[sf,l9,ix,jj]at hap
  simp only[ix,jj]at hb
  have hh3:h≠b+3:=by omega
  have h3h:b+3≠h:=by omega
  have hh5:h≠b+5:=by omega
  have h5h:b+5≠h:=by omega
  have vh:(doM m b e r.1).ver h=m.ver h:=(hb5 h hh).2.1;rw[vh]at hE;show jd P (xm A.tg A.qc) (u0 m [.tmp 4] _ _) _;simp only[xm,enter,l9,go_sem,aa,ab,ag,reduceCtorEq,ax,hb,hh3,hh5];refine gf hap ?_;simp only[go_sem,aa,ab,reduceCtorEq,p8,beq_self_eq_true,aqh];refine iu hE ?_;simp only[go_sem,aa,PS.gl,PS.mem,nh,qa]
  refine rp (b:=b) (fun i hi=>?_) (fun i hi=>?_)
  ·refine⟨?_,rfl,rfl⟩
   show(if b≤i∧i<b+64 then none else m'.bm i)=_
   rw[if_neg (by omega)]
  ·refine⟨?_,?_⟩
   ·show(if b≤i∧i<b+64 then none else m'.bm i)=none∨((if b≤i∧i<b+64 then none else m'.bm i)=m'.bm i∧_)
    split
    ·exact .inl rfl
    ·exact .inr ⟨rfl,rfl⟩
   ·show m'.mp i=none
    rw[hmp];exact(j1 i hi).2
 ·change(if b≤i∧i<b+64 then none else m'.bm i)=some x at hx
  split at hx
  ·cases hx
  ·next hni=>
   rcases w2 i x hx with h1|h1
   ·by_cases hib:i<b
    ·rw[(hb5 i hib).1]at h1;exact .inl h1
    ·rw[(X1 i (by omega)).1]at h1;cases h1
   ·exact .inr (Jw.same rfl x h1)
 ·obtain⟨q1,q2,q3⟩:=k2.1 j hj kg
  obtain⟨p1,p2,p3⟩:=hb5 j (by omega)
  refine⟨?_,q2.trans p2,q3.trans p3⟩
  show(if b≤j∧j<b+64 then none else m'.bm j)=_
  rw[if_neg (by omega)]
  exact q1.trans p1
 ·exact k2.2.trans (hb5 h hh).2.1
 ·refine⟨?_,(k3 i (by omega)).2⟩
  show(if b≤i∧i<b+64 then none else m'.bm i)=none
  rw[if_neg (by omega)]
  exact(k3 i (by omega)).1
end
theorem nj.aAb{P:Program}{f:Nat}{m m':Mem}{v0:V}{x y:D}{r:V}(h:nj P f m [v0,.d y] m' r)(hw:Wk x y):nj P f m [v0,.d x] m' r:=
 ⟨h.1,fun s B0 w0 nt G0 G E a w vs hm hF hl Di=>h.2 s B0 w0 nt G0 G E a w vs hm hF hl fun i z v hz hv=>by
  match i with
  |0=>exact Di 0 z v hz hv
  |1=>
   simp at hz;subst hz;exact hw G v (Di 1 (.d x) v rfl hv)
  |i+2=>simp at hz⟩
def WkL(xs ys:List D):Prop:=xs.length=ys.length∧∀(i:Nat) (x y:D),xs[i]? =some x→ys[i]? =some y→Wk x y
theorem WkL.nil:WkL [] []:=⟨rfl,fun i x y h=>by simp at h⟩
theorem WkL.cons{x y:D}{xs ys:List D}(h:Wk x y)(t:WkL xs ys):WkL (x::xs) (y::ys):=by
 refine⟨by simp[t.1],fun i a b ha hb=>?_⟩
 cases i with
 |zero=>simp at ha hb;subst ha hb;exact h
 |succ i=>exact t.2 i a b (by simpa using ha) (by simpa using hb)
theorem WkL.agg{xs ys:List D}(h:WkL xs ys):Wk (.agg xs) (.agg ys):=Wk.agg h.1 h.2
def WkR(xs ys:List (List D)):Prop:=xs.length=ys.length∧∀(i:Nat) (x y:List D),xs[i]? =some x→ys[i]? =some y→WkL x y
theorem WkR.nil:WkR [] []:=⟨rfl,fun i x y h=>by simp at h⟩
theorem WkR.cons{x y:List D}{xs ys:List (List D)}(h:WkL x y)(t:WkR xs ys):WkR (x::xs) (y::ys):=by
 refine⟨by simp[t.1],fun i a b ha hb=>?_⟩
 cases i with
 |zero=>simp at ha hb;subst ha hb;exact h
 |succ i=>exact t.2 i a b (by simpa using ha) (by simpa using hb)
theorem WkR.dt{sz:Nat}{xs ys:List (List D)}(h:WkR xs ys):Wk (.dt sz xs) (.dt sz ys):=Wk.dt h.1 h.2
def bE:ByteArray:=⟨#[]⟩
def bW:ByteArray:=⟨#[119]⟩
def bA:ByteArray:=⟨#[97]⟩
def bB:ByteArray:=⟨#[98]⟩
def bC:ByteArray:=⟨#[99]⟩
def bM:ByteArray:=⟨#[109]⟩
def Ns:List Nd:=[⟨bA,⟨0,[⟨bE,0,0⟩,⟨bE,0,0⟩,⟨bE,0,0⟩,⟨bW,1,0⟩,⟨bE,0,1⟩,⟨bE,0,1⟩],[]⟩,[]⟩,⟨bB,⟨0,[⟨bE,0,0⟩,⟨bE,0,0⟩,⟨bE,0,0⟩,⟨bE,0,1⟩,⟨bE,0,1⟩,⟨bE,0,2⟩],[]⟩,[]⟩,⟨bC,⟨4,[],[]⟩,[bB,bA]⟩]
def Lq:Tr:=⟨[⟨bW,2⟩],Ns⟩
section
variable{P:Program}(A:Pr5 P)
theorem aif(e:Edt)(he:O4 e):∃b,fp P A.D4 [.agg (l9 e)] (.bool b):=by
 obtain⟨h1,h2,h3,h4⟩:=he
 have hS:=a4x A.toPr ⟨[],[e.nd]⟩ ⟨by simp,fun n hn=>by rw[Ua.1 hn];exact⟨by omega,by omega⟩⟩
 simp only[sf,ix,jj,xe,ez,cu]at hS;have hS':=hS.aDo (y:= .agg [.bd,.dt 5 [xe e.nd]]) (WkL.agg (WkL.cons Wk.bd (WkL.cons (Wk.refl _) WkL.nil)));simp only[xe]at hS';by_cases c1:(e.n.size:Int)≤100
 ·by_cases c2:(e.t.size:Int)≤100
  ·refine⟨W8 ⟨[],[e.nd]⟩,cy A.mo A.Nz (by simp) ?_⟩
   show jd P (B8 A.qz) (kf _ _) _;simp only[B8,l9,go_sem,aa,ab,ag,reduceCtorEq,ca,c1,c2];refine iv (ds:=[_]) rfl hS' rfl ?_;simp only[go_sem,aa]
  ·refine⟨false,cy A.mo A.Nz (by simp) ?_⟩
   show jd P (B8 A.qz) (kf _ _) _;simp only[B8,l9,go_sem,aa,ab,ag,reduceCtorEq,c1,c2]
 ·refine⟨false,cy A.mo A.Nz (by simp) ?_⟩
  show jd P (B8 A.qz) (kf _ _) _;simp only[B8,l9,go_sem,aa,ab,ag,reduceCtorEq,c1]
theorem avj:fp P A.Cj [] (.agg (sf Lq)):=by
 have main:fp P A.Cj [] (.agg [.dt 2 [[.str bW,.int .i64 2]],.dt 5 [[.str bA,.int .i64 0,.dt 3 ([⟨bE,0,0⟩,⟨bE,0,0⟩,⟨bE,0,0⟩,⟨bW,1,0⟩,⟨bE,0,1⟩,⟨bE,0,1⟩].map Cn),.bd,.bd],[.str bB,.int .i64 0,.dt 3 ([⟨bE,0,0⟩,⟨bE,0,0⟩,⟨bE,0,0⟩,⟨bE,0,1⟩,⟨bE,0,1⟩,⟨bE,0,2⟩].map Cn),.bd,.bd],[.str bC,.int .i64 4,.bd,.bd,.dt 1 [[.str bB],[.str bA]]]]]):=by
  refine cy A.mo A.a86 (by simp) ?_
  show jd P Pf (kf _ _) _;simp only[Pf,go_sem,aa,ab,ag,reduceCtorEq,ca,beq_self_eq_true,bE,bW,bA,bB,bC,Cn]
 refine main.Qe (WkL.agg (.cons (Wk.refl _) (.cons (WkR.dt (.cons ?_ (.cons ?_ (.cons ?_ .nil)))) .nil)))
 ·exact .cons (Wk.refl _) (.cons (Wk.refl _) (.cons (Wk.refl _) (.cons Wk.bd (.cons Wk.bd .nil))))
 ·exact .cons (Wk.refl _) (.cons (Wk.refl _) (.cons (Wk.refl _) (.cons Wk.bd (.cons Wk.bd .nil))))
 ·exact .cons (Wk.refl _) (.cons (Wk.refl _) (.cons Wk.bd (.cons Wk.bd (.cons (Wk.refl _) .nil))))
end
def ay7(m:Mem)(mid:Nat)(es:List (D×C)):Mem:=⟨m.bm,m.ver,jf m.mp mid (some es)⟩
theorem aBr:Cs (.one .str) (.str bM) (.str bM)=some true:=by decide+kernel
section
variable{P:Program}(A:Pr5 P)
theorem agl:fp P A.j5 [.str bM] (.bool true):=by
 have h:=Up A.toPr bM
 rwa[show uu bM=true by decide+kernel]at h
theorem ar4{m:Mem}{h lo b:Nat}{t u:Tr}{us rs:List Tr}(H:HAt m h lo t us rs [(bM,u)])(j1:qb m b):
  nj P A.nu m [.dv h (m.ver h) 0,.d (.str bM)] m (.d (.int .i64 7)):=by
 obtain⟨uid,rid,mid,cU,cR,l1,l2,l3,n1,n2,n3,n4,n5,n6,hb,oU,oR,hm2⟩:=H;have hh:=j1.lt hb;have aep:=HAt.Tj j1 hm2;simp only[ix,jj]at hb
 have hh5:h≠b+5:=by omega
 have h5h:b+5≠h:=by omega
 have hm5:mid≠b+5:=by omega
 have h5m:b+5≠mid:=by omega
 have hn:=agl A;simp only[cu,ez,cMk,sf,ix,jj]at hm2
 have hk0:Fi (.one .str) (.str bM) [(D.str bM,C.d (.agg [.dt 2 (u.ps.map pn),.dt 5 (u.ns.map xe)]))]=some (some (C.d (.agg [.dt 2 (u.ps.map pn),.dt 5 (u.ns.map xe)]))):=by simp[Fi,aBr]
 refine jt A.mo A.I0 (by simp) b (fun c=>?_) (fun i=>ar _) (fun i x hx=> .inl hx) (fun i es hi=> .inl hi) trivial
 show jd P (uq A.j5) (u0 m [.tmp 4] _ _) _;simp only[uq,enter,go_sem,aa,ab,reduceCtorEq,PS.ents,ax,I2,hb,hm2,hk0];refine ee hn ?_;simp only[go_sem,aa,PS.mem,nh,qa]
 refine rp (b:=b) (fun i hi=>⟨?_,?_,rfl⟩) (fun i hi=>⟨.inl (j1 i hi).1,(j1 i hi).2⟩)
 ·simp only[al]
  rw[if_neg (show¬i=b+5 by omega),if_neg (show¬i=b+5 by omega)]
 ·simp only[al]
  rw[if_neg (show¬i=b+5 by omega)]
theorem ar5{m:Mem}{h lo b:Nat}{t:Tr}{us rs:List Tr}(H:HAt m h lo t us rs [])(j1:qb m b)(hlo:lo≤b):
  ∃m',nj P A.nu m [.dv h (m.ver h) 0,.d (.str bM)] m' (.d (.int .i64 0))∧HAt m' h lo t us rs [(bM,t)]∧Kept m m' h lo∧qb m' b:=by
 obtain⟨uid,rid,mid,cU,cR,l1,l2,l3,n1,n2,n3,n4,n5,n6,hb,oU,oR,hm2⟩:=H;have hh:=j1.lt hb;have aep:=HAt.Tj j1 hm2;have hb0:=hb;simp only[ix,jj]at hb
 have hh5:h≠b+5:=by omega
 have h5h:b+5≠h:=by omega
 have hm5:mid≠b+5:=by omega
 have h5m:b+5≠mid:=by omega
 have hn:=agl A;simp only[ez]at hm2;have hk0:Fi (.one .str) (.str bM) ([]:List (D×C))=some none:=rfl
 have hp0:∀v:C,Kh (.one .str) (.str bM) v []=some [(.str bM,v)]:=fun v=>rfl
 refine⟨ay7 m mid [cMk (bM,t)],jt A.mo A.I0 (by simp) b (fun c=>?_) (fun i=>ar _) (fun i x hx=> .inl hx) (fun i es hi=>?_) trivial,⟨uid,rid,mid,cU,cR,l1,l2,l3,n1,n2,n3,n4,n5,n6,hb0,oU,oR,?_⟩,⟨fun j hj kg=>⟨rfl,rfl,?_⟩,rfl⟩,fun i hi=>⟨(j1 i hi).1,?_⟩⟩
 ·show jd P (uq A.j5) (u0 m [.tmp 4] _ _) _
  simp only[uq,enter,go_sem,aa,ab,reduceCtorEq,PS.ents,ax,I2,hb,hm2,hk0];refine ee hn ?_;simp only[go_sem,aa,df,ab,ag,reduceCtorEq,PS.ents,ax,PS.mem,hb,hm2,hh5,hm5,hp0,nh,qa]
  refine rp (b:=b) (fun i hi=>⟨?_,?_,rfl⟩) (fun i hi=>⟨.inl (j1 i hi).1,?_⟩)
  ·simp only[al]
   rw[if_neg (show¬i=b+5 by omega),if_neg (show¬i=b+5 by omega)]
   rfl
  ·simp only[al]
   rw[if_neg (show¬i=b+5 by omega)]
   rfl
  ·show jf m.mp mid _ i=_
   simp only[al]
   rw[if_neg (by omega)]
   exact(j1 i hi).2
 ·change jf m.mp mid _ i=some es at hi
  simp only[al]at hi;split at hi
  ·injection hi with hi
   subst hi
   refine .inr fun e he=>?_
   simp only[dn,jg,or_false]at he;subst he;trivial
  ·exact .inl hi
 ·show jf m.mp mid _ mid=_
  simp only[al,if_true,cu,ez]
 ·show jf m.mp mid _ j=_
  simp only[al]
  rw[if_neg (by omega)]
 ·show jf m.mp mid _ i=_
  simp only[al]
  rw[if_neg (by omega)]
  exact(j1 i hi).2
end
open Classical in
theorem Rz{S:Nat→Prop}(f:Nat→Nat):∀(H:Nat) (S:Nat→Prop),(∀i,S i→f i<H)→(∀i j,S i→S j→i≠j→f i≠f j)→∃b,∀i,S i→i<b
 |0,S,h1,_=>⟨0,fun i hi=>absurd (h1 i hi) (aAp _)⟩
 |H+1,S,h1,h2=>by
  by_cases hx:∃i,S i∧f i=H
  ·obtain⟨i0,h3,h4⟩:=hx
   obtain⟨b,hb⟩:=Rz (S:=S) f H (fun i=>S i∧i≠i0) (fun i hi=>by
    have:=h1 i hi.1;have:=h2 i i0 hi.1 h3 hi.2
    omega) (fun i j hi hj hij=>h2 i j hi.1 hj.1 hij)
   refine⟨max b (i0+1),fun i hi=>?_⟩
   by_cases e:i=i0
   ·omega
   ·have:=hb i ⟨hi,e⟩
    omega
  ·exact Rz (S:=S) f H S (fun i hi=>by
    have:=h1 i hi
    have:f i≠H:=fun e=>hx ⟨i,hi,e⟩
    omega) h2
section
variable{P:Program}
theorem ak7{B0 nt:Nat}{w0 w:World}{G0 G:fc}{s:PS}{E:Env}{a:Act}(h:i6 B0 w0 nt G0 s G E a w):∃b,qb s.mem b:=by
 obtain⟨b1,h1⟩:=Rz (S:=fun i=>s.bm i≠none) E.b w.heap.size (fun i=>s.bm i≠none) (fun i hi=>by
  obtain⟨b,hb⟩:=Eh.1 hi;obtain⟨_,_,cells,et,hc,_⟩:=h.bm i b hb
  exact(j4.1 hc).1) (fun i j hi hj hij=>by
  obtain⟨b,hb⟩:=Eh.1 hi;obtain⟨b',ow⟩:=Eh.1 hj
  exact h.inj i j b b' hb ow hij)
 obtain⟨b2,h2⟩:=Rz (S:=fun i=>s.mp i≠none) E.m w.heap.size (fun i=>s.mp i≠none) (fun i hi=>by
  obtain⟨b,hb⟩:=Eh.1 hi;obtain⟨_,_,ents,clock,hc,_⟩:=h.mp i b hb
  exact(j4.1 hc).1) (fun i j hi hj hij=>by
  obtain⟨b,hb⟩:=Eh.1 hi;obtain⟨b',ow⟩:=Eh.1 hj
  exact h.Oi i j b b' hb ow hij)
 refine⟨max b1 b2,fun i hi=>⟨?_,?_⟩⟩
 ·show s.bm i=none
  apply aAs;intro hx;have:=h1 i hx;omega
 ·show s.mp i=none
  apply aAs;intro hx;have:=h2 i hx;omega
theorem nj.any{f:Nat}{m m':Mem}{args:List V}{r:V}(hc:yh P f=true)(h:∀b,qb m b→nj P f m args m' r):nj P f m args m' r:=by
 refine⟨hc,fun s B0 w0 nt G0 G E a w vs hm hF hl Di=>?_⟩
 obtain⟨b,hb⟩:=ak7 hF;rw[hm]at hb;exact(h b hb).2 s B0 w0 nt G0 G E a w vs hm hF hl Di
variable(A:Pr5 P)
theorem ar2{m:Mem}{h b:Nat}{t:Tr}{cU cR cM:C}(hm:Mid t)(hb:m.bm h=some (.loc [.d (ix t.ps),.d (jj t.ns),cU,cR,cM]))(j1:qb m b):nj P A.fy m [.dv h (m.ver h) 0] m (.d (.agg (sf t))):=by
 have hh:=j1.lt hb
 have hh2:h≠b+2:=by omega
 have h2h:b+2≠h:=by omega
 have hc:=a0d A.toPr4.toPr t hm;simp only[sf,ix,jj]at hc hb
 refine jt A.mo A.Hy (by simp) b (fun c=>?_) (fun i=>ar _) (fun i x hx=> .inl hx) (fun i es hi=> .inl hi) trivial
 show jd P (um A.jk) (u0 m [.cell 2 2 true] _ _) _;simp only[um,enter,sf,ix,jj,go_sem,aa,ab,ag,reduceCtorEq,ax,hb,hh2];refine ee hc ?_;simp only[go_sem,aa,ab,PS.mem,nh,qa]
 refine rp (b:=b) (fun i hi=>⟨?_,?_,rfl⟩) (fun i hi=>⟨.inl (j1 i hi).1,(j1 i hi).2⟩)
 ·simp only[al]
  rw[if_neg (show¬i=b+2 by omega),if_neg (show¬i=b+2 by omega)]
 ·simp only[al]
  rw[if_neg (show¬i=b+2 by omega)]
theorem ar1{s:PS}{h v:Nat}{t:Tr}{cU cR cM:C}(hm:Mid t)(hv:v=s.ver h)(hb:s.bm h=some (.loc [.d (ix t.ps),.d (jj t.ns),cU,cR,cM])):al5 P A.fy s [.dv h v 0] (.agg (sf t)):=by
 intro s2 hs;have h1:P5 s s2 h v:=hs _ List.mem_cons_self;have h2:=h1.1.cs
 have e1:s.cs h v=some [.d (ix t.ps),.d (jj t.ns),cU,cR,cM]:=by
  unfold PS.cs;rw[if_pos hv.symm,hb]
 rw[e1]at h2;unfold PS.cs at h2;split at h2
 ·next hv2=>
  have hb2:s2.bm h=some (.loc [.d (ix t.ps),.d (jj t.ns),cU,cR,cM]):=by
   cases hq:s2.bm h with
   |none=>rw[hq]at h2;cases h2
   |some x=>
    rw[hq]at h2
    cases x<;>first|(injection h2 with h2;rw[h2])|cases h2
  rw[←hv2]
  exact nj.any (avh A.toPr4 t hm .Ti .Ti .Ti).1 fun b j1=>ar2 A hm (m:=s2.mem) hb2 j1
 ·cases h2
theorem HAt.a03{s:PS}{h lo v:Nat}{t:Tr}{us rs:List Tr}{mk:List (ByteArray×Tr)}(H:HAt s.mem h lo t us rs mk)(hm:Mid t)(hv:v=s.ver h):al5 P A.fy s [.dv h v 0] (.agg (sf t)):=by
 obtain⟨uid,rid,mid,cU,cR,l1,l2,l3,n1,n2,n3,n4,n5,n6,hb,oU,oR,hm2⟩:=H;exact ar1 A hm hv hb
end
def w5T:Tr:=⟨[⟨bW,5⟩],Ns⟩
def ed5:Edt:=⟨0,bW,bE,5,⟨bE,⟨0,[],[]⟩,[]⟩⟩
def edA:Edt:=⟨4,bA,bE,0,⟨bE,⟨0,[],[]⟩,[]⟩⟩
theorem ajb:Cr Ew Lq=true:=by decide+kernel
theorem aqd:Cr Ew w5T=true:=by decide+kernel
theorem aqf:qi Lq ed5=(w5T,0):=by
 have h1:yk Lq bW=0:=by decide+kernel
 unfold qi;rw[if_pos (show ed5.k=0 from rfl),show ed5.n=bW from rfl,h1];rfl
theorem aqe:Fa w5T=w5T:=by
 have h1:ic Pm.n w5T.ps=w5T.ps:=rfl
 have h2:strLt bB bA=false:=by decide+kernel
 have h3:strLt bC bB=false:=by decide+kernel
 have h4:strLt bA bB=true:=by decide+kernel
 have h5:strLt bB bC=true:=by decide+kernel
 unfold Fa;rw[h1];simp only[w5T,Ns,ic,List.foldl,a65,qm,An,vp,sq,h2,h3,ec,if_false]
theorem a9g:applyN Ew Lq ed5=(w5T,0):=by
 unfold applyN
 rw[if_neg (by decide),aqf,aqe,if_neg (by simp),if_pos aqd]
def erT:Tr:=⟨[⟨bW,5⟩],[⟨bB,⟨0,[⟨bE,0,0⟩,⟨bE,0,0⟩,⟨bE,0,0⟩,⟨bE,0,1⟩,⟨bE,0,1⟩,⟨bE,0,2⟩],[]⟩,[]⟩,⟨bC,⟨4,[],[]⟩,[bB,bA]⟩]⟩
theorem abz:(applyN Ew w5T edA).2=230:=by
 have h1:Af w5T bA=0:=by decide+kernel
 have h2:qi w5T edA=(erT,0):=by
  unfold qi
  rw[if_neg (by decide),if_neg (by decide),if_neg (by decide),if_neg (by decide),if_pos (show edA.k=4 from rfl),show edA.n=bA from rfl,h1]
  rfl
 have h3:Fa erT=erT:=by
  have h1:ic Pm.n erT.ps=erT.ps:=rfl
  have h3:strLt bC bB=false:=by decide+kernel
  have h5:strLt bB bC=true:=by decide+kernel
  unfold Fa;rw[h1];simp only[erT,ic,List.foldl,a65,qm,An,vp,sq,h3,ec,if_false]
 have h4:Cr Ew erT=false:=by decide+kernel
 unfold applyN
 rw[if_neg (by decide),h2,h3,h4]
 rfl
theorem a4u{n a:ByteArray}{k v:Int}:O4 ⟨k,n,a,v,⟨bE,⟨0,[],[]⟩,[]⟩⟩:=⟨by simp,by simp,by simp,by simp⟩
theorem Tf:∀n∈Ns,Sk n:=by
 intro n hn;simp only[Ns,dn,jg,or_false]at hn
 rcases hn with rfl|rfl|rfl<;>exact⟨by simp,by simp,by simp,by simp⟩
theorem Y3:F6 Lq:=⟨by simp[Lq],by simp[Lq,Ns],Tf⟩
theorem a4l:F6 w5T:=⟨by simp[w5T],by simp[w5T,Ns],Tf⟩
def dE5:D:= .agg [.int .i64 0,.str ⟨#[119]⟩,.str ⟨#[]⟩,.int .i64 5,.str ⟨#[]⟩,.int .i64 0,.bd,.bd,.bd]
def dEA:D:= .agg [.int .i64 4,.str ⟨#[97]⟩,.str ⟨#[]⟩,.int .i64 0,.str ⟨#[]⟩,.int .i64 0,.bd,.bd,.bd]
theorem axy:Wk dE5 (.agg (l9 ed5)):=
 WkL.agg (.cons (Wk.refl _) (.cons (Wk.refl _) (.cons (Wk.refl _) (.cons (Wk.refl _) (.cons (Wk.refl _) (.cons (Wk.refl _) (.cons Wk.bd (.cons Wk.bd (.cons Wk.bd .nil)))))))))
theorem axx:Wk dEA (.agg (l9 edA)):=
 WkL.agg (.cons (Wk.refl _) (.cons (Wk.refl _) (.cons (Wk.refl _) (.cons (Wk.refl _) (.cons (Wk.refl _) (.cons (Wk.refl _) (.cons Wk.bd (.cons Wk.bd (.cons Wk.bd .nil)))))))))
section
theorem ax3:sf w5T=[.dt 2 [[.str bW,.int .i64 5]],jj Ns]:=rfl
theorem ape:sf Lq=[.dt 2 [[.str bW,.int .i64 2]],jj Ns]:=rfl
variable{P:Program}(A:Pr5 P)
theorem ame{s:PS}{h lo v:Nat}{t:Tr}{us rs:List Tr}{mk:List (ByteArray×Tr)}(H:HAt s.mem h lo t us rs mk)(hv:v=s.ver h){K:PS→Prop}{d:Option Nat}{r:List RI}(h4:jn P r (s.put d (.d (.yi [.int .i64 us.length,.int .i64 rs.length]))) K):
  Dd P A.ng [.dv h v 0] [] false d s (xd P r K):=by
 obtain⟨x,y,h1,h2,h3⟩:=H.data;subst hv
 refine iv (ds:=[_]) ?_ (ar9 A.toPr4 (ix t.ps) (jj t.ns) (.map (mk.map fun x=>(.str x.1,.agg (sf x.2)))) h2 h3) rfl h4
 show(match snap s (.dv h (s.ver h) 0),Gt s []with|some x,some l=>some (x::l)|_,_=>none)=_
 rw[h1];rfl
theorem aqz(hpr:J5 A.toPr Ew):fp P A.yz [] (.bool true):=by
 refine cy A.mo A.a3y (by simp) ?_
 show jd P (Nh A.Cj A.ug A.kl A.fy A.j2 A.ng A.ir A.nu) (kf _ _) _;have hP:=avj A;have pm:=Y3.mid;have wm:=a4l.mid
 have psz:Rk Lq:=⟨by simp[Lq,Ns],fun n hn=>by obtain⟨q1,q2,q3,q4⟩:=Tf n hn;exact⟨q4,q1,q2,q3⟩⟩
 obtain⟨m1,E1,H1,k1,f1⟩:=ama A.toPr4 hpr Lq pm psz ajb (start []).mem 200 (fun i _=>⟨rfl,rfl⟩)
 simp only[ab]at E1 H1 f1;obtain⟨v,hv⟩:∃v,v=m1.ver 211:=⟨_,rfl⟩
 obtain⟨m2,E2,H2,k2,f2⟩:=amd A.toPr4 hpr H1 ed5 Y3 a4u (by rw[a9g]) (by simp) f1 (by omega)
 rw[a9g]at H2;replace H2:HAt m2 211 200 w5T [Lq] [] []:=H2;have v2:=k2.2
 obtain⟨m3,E3,H3,k3,f3⟩:=am6 A.toPr4 (fs:=[]) H2 (by simp) (by simp) f2 (by omega)
 replace H3:HAt m3 211 200 Lq [] [w5T] []:=H3;have v3:=k3.2.trans v2
 obtain⟨m4,E4,H4,k4,f4⟩:=am7 A.toPr4 (fs:=[]) H3 (by simp) (by simp) f3 (by omega)
 replace H4:HAt m4 211 200 w5T [Lq] [] []:=H4;have v4:=k4.2.trans v3;have E5:=agq A.toPr4 H4 f4
 have E6:=aa5 A.toPr4 hpr H4 edA a4l a4u (by rw[abz];decide) f4
 rw[abz]at E6
 obtain⟨m5,E7,H5,k5,f5⟩:=ar5 A H4 f4 (by omega)
 have v5:=k5.2.trans v4;have E8:=ar4 A H5 f5;have E2:=E2.aAb axy;have E6:=E6.aAb axx;rw[v2]at E3;rw[v3]at E4;rw[v4]at E5 E6 E7;rw[v5]at E8;rw[←hv]at E1 E2 E3 E4 E5 E6 E7 E8 v2 v3 v4 v5;simp only[Nh,go_sem];refine Dg hP ?_;simp only[go_sem,reduceCtorEq];refine iu E1 ?_;simp only[go_sem,aa,je,ab,ag,reduceCtorEq,PS.gl];refine iu E2 ?_;simp only[go_sem,aa,je,reduceCtorEq,PS.gl]
 refine Ec (HAt.a03 A (by exact H2) wm (by exact v2.symm)) ?_
 simp only[ax3,go_sem,aa,je,ab,ag,reduceCtorEq];refine iu E3 ?_;simp only[go_sem,aa,je,reduceCtorEq,PS.gl]
 refine ame A (by exact H3) (by exact v3.symm) ?_
 simp only[go_sem,aa,Sn,reduceCtorEq]
 refine Ec (HAt.a03 A (by exact H3) pm (by exact v3.symm)) ?_
 simp only[ape,go_sem,aa,Sn,ab,ag,reduceCtorEq];refine iu E4 ?_;simp only[go_sem,aa,Sn,reduceCtorEq,PS.gl];refine iu E5 ?_;simp only[go_sem,aa,Sn,ab,ag,reduceCtorEq,PS.gl];refine iu E6 ?_;simp only[go_sem,aa,Sn,reduceCtorEq,PS.gl];refine iu E7 ?_;simp only[go_sem,aa,Sn,reduceCtorEq,PS.gl];refine iu E8 ?_;simp only[go_sem,aa,Sn,reduceCtorEq,PS.gl]
end
theorem a1r{p q:List (List Sp)→Bool}(h:∀ls,p ls=true→q ls=true){f:Ft}(hf:u9 p f=true):u9 q f=true:=by
 unfold u9 at hf⊢;simp only[cd]at hf⊢;obtain⟨h1,h2,h3,h4⟩:=hf;refine⟨h1,h2,h3,?_⟩;by_cases hp:a0z f.k=true
 ·rw[if_pos hp]at h4⊢;exact h _ h4
 ·rw[if_neg hp]at h4⊢;exact h4
theorem ae8{p q:List (List Sp)→Bool}(h:∀ls,p ls=true→q ls=true){f:Ft}(hf:u9 p f=true)(l:List Pm):ur q f l=ur p f l:=by
 unfold ur;rw[hf,a1r h hf]
theorem ad4{p q:List (List Sp)→Bool}(h:∀ls,p ls=true→q ls=true){t:Tr}(ht:Cr p t=true):Cr q t=true:=by
 unfold Cr at ht⊢;simp only[cd]at ht⊢;obtain⟨h1,h2,h3,h4⟩:=ht;refine⟨h1,h2,?_,h4⟩;rw[ck]at h3⊢;intro i hi;have:=h3 i hi;unfold zw at this⊢;simp only[cd]at this⊢;obtain⟨k1,k2,k3,k4,k5,k6⟩:=this
 exact⟨k1,k2,a1r h k3,k4,k5,by rw[ae8 h k3];exact k6⟩
theorem Xr{p:List (List Sp)→Bool}{t:Tr}(ht:Cr p t=true):t.ps.length≤20∧t.ns.length≤20:=by
 unfold Cr Aa at ht;simp only[cd,decide_eq_true_eq]at ht;exact⟨ht.1.1,ht.2.1⟩
theorem a8w{p:List (List Sp)→Bool}{t:Tr}{e:Edt}(ht:F6 t)(he:O4 e)(hc:(applyN p t e).2=0):F6 (applyN p t e).1:=by
 obtain⟨s1,s2,s3⟩:=a0x t e ht he;unfold applyN at hc⊢;split
 ·next h=>rw[if_pos h]at hc;simp at hc
 ·next h=>
  rw[if_neg h]at hc;split
  ·next h2=>rw[if_pos h2]at hc;simp at hc;exact absurd hc h2
  ·next h2=>
   rw[if_neg h2]at hc;split
   ·next h3=>
    obtain⟨q1,q2⟩:=Xr h3
    refine⟨q1,q2,fun n hn=>s3 n ?_⟩
    exact(a0y Nd.n (qi t e).1.ns).mem_iff.1 hn
   ·next h3=>rw[if_neg h3]at hc;simp at hc
theorem F6.sized{t:Tr}(h:F6 t):Rk t:=⟨by have:=h.2.1;omega,fun n hn=>by obtain⟨q1,q2,q3,q4⟩:=h.2.2 n hn;exact⟨q4,q1,q2,q3⟩⟩
theorem HAt.low{m m':Mem}{h lo:Nat}{t:Tr}{us rs:List Tr}{mk:List (ByteArray×Tr)}(H:HAt m h lo t us rs mk)(hm:∀i,lo≤i∨i=h→m'.bm i=m.bm i∧m'.ver i=m.ver i∧m'.mp i=m.mp i):HAt m' h lo t us rs mk:=by
 obtain⟨uid,rid,mid,cU,cR,l1,l2,l3,n1,n2,n3,n4,n5,n6,hb,oU,oR,hm2⟩:=H
 exact⟨uid,rid,mid,cU,cR,l1,l2,l3,n1,n2,n3,n4,n5,n6,by rw[(hm h (.inr rfl)).1,(hm mid (.inl l3)).2.1];exact hb,oU.mono (hm uid (.inl l1)).1 (hm uid (.inl l1)).2.1,oR.mono (hm rid (.inl l2)).1 (hm rid (.inl l2)).2.1,by rw[(hm mid (.inl l3)).2.2];exact hm2⟩
def t0T:Tr:=⟨[],[]⟩
def HL(m:Mem)(L:List Tr)(c:Nat):Prop:=c<L.length∧HAt m 211 200 (L.getD c t0T) (L.take c) (L.drop (c+1)).reverse []
theorem HL.low{m m':Mem}{L:List Tr}{c:Nat}(H:HL m L c)(hm:∀i,200≤i→m'.bm i=m.bm i∧m'.ver i=m.ver i∧m'.mp i=m.mp i):HL m' L c:=
 ⟨H.1,H.2.low fun i hi=>hm i (by omega)⟩
section
variable{P:Program}(A:Pr5 P)
theorem HL.undo{m:Mem}{L:List Tr}{c b:Nat}(H:HL m L (c+1))(hl:L.length≤60)(j1:qb m b)(hb:200≤b):∃m',nj P A.j2 m [.dv 211 (m.ver 211) 0] m' (.d (.int .i64 0))∧HL m' L c∧Kept m m' 211 200∧qb m' (b+64):=by
 obtain⟨h1,h2⟩:=H
 have e1:L.take (c+1)=L.take c++[L.getD c t0T]:=by
  rw[ey]
  simp[bn,ao (show c<L.length by omega)]
 have e2:(L.drop (c+1)).reverse=(L.drop (c+1+1)).reverse++[L.getD (c+1) t0T]:=by
  rw[gd h1,qm];simp[bn,ao h1]
 rw[e1]at h2
 obtain⟨m',E,H',k,f⟩:=am6 A.toPr4 h2 (by rw[dd];omega) (by rw[Mw,qn];omega) j1 hb
 rw[←e2]at H'
 exact⟨m',E,⟨by omega,H'⟩,k,f⟩
theorem HL.aB7{m:Mem}{L:List Tr}{c b:Nat}(H:HL m L c)(hc:c+1<L.length)(hl:L.length≤60)(j1:qb m b)(hb:200≤b):∃m',nj P A.ir m [.dv 211 (m.ver 211) 0] m' (.d (.int .i64 0))∧HL m' L (c+1)∧Kept m m' 211 200∧qb m' (b+64):=by
 obtain⟨h1,h2⟩:=H
 have e1:L.take (c+1)=L.take c++[L.getD c t0T]:=by
  rw[ey]
  simp[bn,ao (show c<L.length by omega)]
 have e2:(L.drop (c+1)).reverse=(L.drop (c+1+1)).reverse++[L.getD (c+1) t0T]:=by
  rw[gd hc,qm];simp[bn,ao hc]
 rw[e2]at h2
 obtain⟨m',E,H',k,f⟩:=am7 A.toPr4 h2 (by rw[Mw,qn];omega) (by rw[dd];omega) j1 hb
 rw[←e1]at H';exact⟨m',E,⟨hc,H'⟩,k,f⟩
theorem HL.ay1{m:Mem}{L:List Tr}{b:Nat}(H:HL m L 0)(j1:qb m b):nj P A.j2 m [.dv 211 (m.ver 211) 0] m (.d (.int .i64 7)):=by
 obtain⟨h1,h2⟩:=H;rw[F8]at h2;exact ar0 A.toPr4 h2 j1
theorem HL.aye{m:Mem}{L:List Tr}{c b:Nat}(H:HL m L c)(hc:c+1=L.length)(j1:qb m b):nj P A.ir m [.dv 211 (m.ver 211) 0] m (.d (.int .i64 7)):=by
 obtain⟨h1,h2⟩:=H
 rw[Gp (by omega),a65]at h2
 exact agq A.toPr4 h2 j1
theorem HL.of{m:Mem}{u:Tr}{us:List Tr}(H:HAt m 211 200 u us [] []):HL m (us++[u]) us.length:=by
 refine⟨by simp,?_⟩
 rw[aFg,Gp (by simp),a65]
 simpa[bn]using H
end
def aAi(t:Tr)(es:List Edt)(v:Nat)(s':PS):Prop:=
 s'.base=0∧s'.tmp 1= .d (.dt 9 (es.map l9))∧s'.tmp 2= .dv 2 (s'.ver 2) 0∧s'.bm 2=some (.loc [.d (.dt 2 (t.ps.map pn)),.d (.dt 5 (t.ns.map xe))])∧s'.tmp 5= .dv 211 v 0∧v=s'.ver 211
def HI1(t:Tr)(es:List Edt)(v i:Nat)(s':PS):Prop:=
 aAi t es v s'∧∃u us b,s'.tmp 8= .d (.int .i64 (i:Nat))∧s'.tmp 7= .d (.int .i64 (us.length:Nat))∧us.length≤i∧HAt s'.mem 211 200 u us [] []∧qb s'.mem b∧200≤b∧F6 u∧(us++[u])[0]? =some t
def HI2(t:Tr)(es:List Edt)(u:Tr)(v k:Nat)(L:List Tr)(c:Nat)(s':PS):Prop:=
 aAi t es v s'∧s'.tmp 7= .d (.int .i64 (k:Nat))∧s'.tmp 10= .dv 10 (s'.ver 10) 0∧s'.bm 10=some (.loc [.d (.dt 2 (u.ps.map pn)),.d (.dt 5 (u.ns.map xe))])∧HL s'.mem L c∧∃b,qb s'.mem b∧200≤b
section
variable{P:Program}(A:Pr5 P)
theorem a3d(hpr:J5 A.toPr Ew)(t:Tr)(es:List Edt)(ht:Mid t)(he:∀e∈es,O4 e):fp P A.Kt [.agg (sf t),.dt 9 (es.map l9)] (.bool true):=by
 have hw:=aqz A hpr
 have hsh:=a4x A.toPr t ⟨by have:=ht.1;omega,fun n hn=>by obtain⟨q1,q2,q3,q4⟩:=ht.2.2 n hn;exact⟨by omega,by omega⟩⟩
 simp only[sf,ix,jj]at hsh
 refine cy A.mo A.Sh (by simp) ?_
 show jd P (ve A.qz A.ue A.Cz A.yz A.ug A.D4 A.fy A.kl A.za A.j2 A.ir) (kf _ _) _;by_cases c1:W8 t=true;rotate_left
 ·have c1':W8 t=false:=by simpa using c1
  rw[c1']at hsh;simp only[ve,sf,ix,jj,go_sem,aa,ab];refine ee hsh ?_;simp only[go_sem,aa];refine Dg hw ?_;simp only[go_sem,aa]
 rw[c1]at hsh
 have n25:t.ns.length≤25:=by
  unfold W8 at c1;simp only[cd,decide_eq_true_eq]at c1;exact c1.1
 have C3:Rk t:=⟨by omega,fun n hn=>by obtain⟨q1,q2,q3,q4⟩:=ht.2.2 n hn;exact⟨q4,q1,q2,q3⟩⟩
 have hth:=Wa A.toPr t (by have:=ht.1;omega) C3
 have hri:=air A.toPr t C3;simp only[sf,ix,jj]at hth hri;by_cases c2:(es.length:Int)>50
 ·simp only[ve,sf,ix,jj,go_sem,aa,ab]
  refine ee hsh ?_;simp only[go_sem,aa,reduceCtorEq,ae,c2];refine Dg hw ?_;simp only[go_sem,aa]
 by_cases c3:Cr oh t=true;rotate_left
 ·have c3':Cr oh t=false:=by simpa using c3
  rw[c3']at hri;simp only[ve,sf,ix,jj,go_sem,aa,ab];refine ee hsh ?_;simp only[go_sem,aa,ab,reduceCtorEq,ae,c2];refine ee hth ?_;simp only[go_sem,aa];refine ee hri ?_;simp only[go_sem,aa];refine Dg hw ?_;simp only[go_sem,aa]
 rw[c3]at hri
 have hT:=ad4 (fun ls=>adx) c3
 obtain⟨z1,z2⟩:=Xr hT;have hE:F6 t:=⟨z1,z2,ht.2.2⟩
 have hEq:=Pc A.toPr t (by omega) C3
 simp only[ve,sf,ix,jj,go_sem,aa,ab];refine ee hsh ?_;simp only[go_sem,aa,ab,reduceCtorEq,ae,c2];refine ee hth ?_;simp only[go_sem,aa];refine ee hri ?_;simp only[go_sem,aa,ab]
 obtain⟨m0,hm0⟩:∃m0:Mem,m0=⟨jf (fun _=>none) 2 (some (.loc [.d (.dt 2 (t.ps.map pn)),.d (.dt 5 (t.ns.map xe))])),jf (fun _=>0) 2 1,fun _=>none⟩:=⟨_,rfl⟩
 have v02:m0.ver 2=1:=by rw[hm0];rfl
 have b02:m0.bm 2=some (.loc [.d (.dt 2 (t.ps.map pn)),.d (.dt 5 (t.ns.map xe))]):=by rw[hm0];rfl
 obtain⟨m1,E1,H1,k1,f1⟩:=ama A.toPr4 hpr t ht C3 hT m0 200 (fun i hi=>by rw[hm0];simp only[al];rw[if_neg (by omega)];exact⟨rfl,trivial⟩)
 simp only[ab,sf,ix,jj]at E1 H1 f1;rw[hm0]at E1
 refine iu (by exact E1) ?_
 simp only[go_sem,aa,je,reduceCtorEq,PS.gl]
 refine rv (fun s'=>HI1 t es (m1.ver 211) es.length s') ?_ ?_
 ·refine dq es.length (HI1 t es (m1.ver 211)) ?_ ?_
  ·have kb2:m1.bm 2=some (.loc [.d (.dt 2 (t.ps.map pn)),.d (.dt 5 (t.ns.map xe))]):=(k1 2 (by omega)).1.trans b02
   have kv2:m1.ver 2=1:=(k1 2 (by omega)).2.1.trans v02
   refine⟨⟨?_,?_,?_,kb2,?_,?_⟩,t,[],264,?_,?_,ar _,H1,f1,by omega,hE,rfl⟩<;>simp only[go_sem,aa,kv2]<;>rfl
  ·clear E1 H1 hm0 v02 b02 k1
   clear f1;generalize m1.ver 211=v;rintro i s' hi ⟨⟨eb,f1,f2,b2,f5,hv⟩,u,us,b,f8,f7,hl,H,j1,hb,hu,hhd⟩;by_cases iy:(i:Int)<es.length
   ·have cj:i<es.length:=by omega
    have heS:=he _ (bz cj)
    have hg:(es.map l9)[i]? =some (l9 es[i]):=by simp[cj]
    generalize es[i]=e at heS hg;obtain⟨bs,awg⟩:=aif A e heS
    have wi:=(br ((i:Int)+1) (by omega) (by omega)).trans (show _=((i+1:Nat):Int)by omega)
    have wl:=(br ((us.length:Int)+1) (by omega) (by omega)).trans (show _=(((us++[u]).length:Nat):Int)by simp)
    have hsu:=hu.sized;have hmu:=hu.mid
    have ao5:=Wa A.toPr u (by have:=hu.1;omega) hsu
    have aok:=Pc A.toPr u (by have:=hu.1;omega) hsu
    simp only[l9]at hg awg;cases bs
    ·simp only[go_sem,aa,ab,reduceCtorEq,eb,f1,f8,ae,iy,hg,toNat_cast,aj]
     refine ee awg ?_;simp only[go_sem,aa];refine Dg hw ?_;simp only[go_sem,aa]
    ·simp only[go_sem,aa,ab,reduceCtorEq,eb,f1,f8,ae,iy,hg,toNat_cast,aj]
     refine ee awg ?_;simp only[go_sem,aa,f5]
     refine Ec (HAt.a03 A (by exact H) hmu (by exact hv)) ?_
     simp only[sf,ix,jj,go_sem,aa,ab,f1,f5,f8,hg,toNat_cast,aj,aqh];obtain⟨m2,hm2⟩:∃m2:Mem,m2=⟨jf s'.bm 9 (some (.loc [.d (.dt 2 (u.ps.map pn)),.d (.dt 5 (u.ns.map xe))])),jf s'.ver 9 (s'.ver 9+1),s'.mp⟩:=⟨_,rfl⟩
     have q1:∀j,j≠9→m2.bm j=s'.bm j∧m2.ver j=s'.ver j∧m2.mp j=s'.mp j:=fun j hj=>by
      rw[hm2];simp only[al];rw[if_neg hj,if_neg hj];exact⟨rfl,rfl,trivial⟩
     have b9:m2.bm 9=some (.loc [.d (.dt 2 (u.ps.map pn)),.d (.dt 5 (u.ns.map xe))]):=by rw[hm2];rfl
     have v9:m2.ver 9=s'.ver 9+1:=by rw[hm2];rfl
     have H2:HAt m2 211 200 u us [] []:=H.low fun j hj=>q1 j (by omega)
     have X1:qb m2 b:=fun j hj=>by
      obtain⟨z1,z2,z3⟩:=q1 j (by omega)
      rw[z1,z3];exact j1 j hj
     have hv2:m2.ver 211=v:=(q1 211 (by omega)).2.1.trans hv.symm
     by_cases hc:(applyN Ew u e).2=0
     ·obtain⟨m3,E3,H3,k3,f3⟩:=amd A.toPr4 hpr H2 e hu heS hc (by omega) X1 hb
      rw[hv2,hm2]at E3;simp only[l9]at E3
      refine iu (by exact E3) ?_
      simp only[go_sem,aa,Sn,reduceCtorEq,PS.gl,f8,f7,wi,wl]
      obtain⟨p1,p2,p3⟩:=k3.1 2 (by omega) (by omega)
      obtain⟨o1,o2,o3⟩:=q1 2 (by omega)
      refine⟨cj,⟨rfl,?_,?_,p1.trans (o1.trans b2),?_,hv2.symm.trans k3.2.symm⟩,(applyN Ew u e).1,us++[u],b+128,?_,?_,by simp;omega,H3,f3,by omega,a8w hu heS hc,?_⟩
      ·simp only[go_sem,aa,f1]
      ·simp only[go_sem,aa,f2,p2,o2]
      ·simp only[go_sem,aa,f5]
      ·simp only[go_sem,aa]
      ·simp only[go_sem,aa]
      ·rw[jr (by simp)];exact hhd
     ·have E3:=aa5 A.toPr4 hpr H2 e hu heS hc X1
      rw[hv2,hm2]at E3;simp only[l9]at E3
      refine iu (by exact E3) ?_
      have hcb:((applyN Ew u e).2==0)=false:=by simpa using hc
      simp only[go_sem,aa,reduceCtorEq,PS.gl,f5,hcb];rw[hm2]at H2
      refine Ec (HAt.a03 A (by exact H2) hmu (by exact hv)) ?_
      simp only[sf,ix,jj]at ao5 aok;simp only[sf,ix,jj,go_sem,aa,ab];refine ee ao5 ?_;simp only[go_sem,aa];refine gf aok ?_;simp only[go_sem,aa,reduceCtorEq,f8,wi]
      refine⟨cj,⟨rfl,?_,?_,b2,?_,hv⟩,u,us,b,?_,?_,by omega,H2,?_,hb,hu,hhd⟩
      ·simp only[go_sem,aa,f1]
      ·simp only[go_sem,aa,f2]
      ·simp only[go_sem,aa,f5]
      ·simp only[go_sem,aa]
      ·simp only[go_sem,aa,f7]
      ·rw[hm2]at X1;exact X1
   ·have hle:i=es.length:=by omega
    subst hle;simp only[go_sem,aa,reduceCtorEq,eb,f1,f8,ae,iy];refine⟨⟨rfl,?_,?_,b2,?_,hv⟩,u,us,b,?_,?_,hl,H,j1,hb,hu,hhd⟩<;>simp only[go_sem,aa,f1,f2,f5,f8,f7]
 ·clear E1 H1 hm0 v02 b02 k1
  clear f1;generalize m1.ver 211=v;rintro s' ⟨⟨eb,f1,f2,b2,f5,hv⟩,u,us,b,f8,f7,hl,H,j1,hb,hu,hhd⟩;have hsu:=hu.sized;have hmu:=hu.mid
  have ao5:=Wa A.toPr u (by have:=hu.1;omega) hsu
  have aok:=Pc A.toPr u (by have:=hu.1;omega) hsu
  simp only[sf,ix,jj]at ao5 aok hEq;have HH:=HL.of H;simp only[go_sem,eb,f5]
  refine Ec (HAt.a03 A (by exact H) hmu (by exact hv)) ?_
  simp only[sf,ix,jj,go_sem,aa,ab]
  have hLl:(us++[u]).length=us.length+1:=by simp
  have hLu:(us++[u]).getD us.length t0T=u:=by simp[bn]
  have hL0:(us++[u]).getD 0 t0T=t:=by unfold bn;rw[hhd];rfl
  have hk:us.length≤50:=by omega
  generalize us.length=k at*
  generalize us++[u]=L at*
  refine rv (fun s'=>HI2 t es u v k L 0 s') ?_ ?_
  ·refine dq k (fun j s'=>HI2 t es u v k L (k-j) s'∧s'.tmp 11= .d (.int .i64 (j:Nat))) ?_ ?_
   ·have low:∀x i,i≠10→(jf s'.bm 10 x) i=s'.bm i:=fun x i hi=>by simp only[al];rw[if_neg hi]
    have aBq:∀x i,i≠10→(jf s'.ver 10 x) i=s'.ver i:=fun x i hi=>by simp only[al];rw[if_neg hi]
    refine⟨⟨⟨rfl,?_,?_,?_,?_,?_⟩,?_,?_,?_,HH.low fun i hi=>⟨?_,?_,rfl⟩,b,fun i hi=>⟨?_,(j1 i hi).2⟩,hb⟩,?_⟩
    ·simp only[go_sem,aa,f1]
    ·simp only[go_sem,aa,f2]
    ·simp only[go_sem,aa,b2]
    ·simp only[go_sem,aa,f5]
    ·simp only[go_sem,aa];exact hv
    ·simp only[go_sem,aa,f7]
    ·simp only[go_sem,aa]
    ·simp only[go_sem]
    ·simp only[PS.mem,aqh];exact low _ _ (by omega)
    ·exact aBq _ _ (by omega)
    ·simp only[PS.mem,aqh];rw[low _ _ (by omega)];exact(j1 i hi).1
    ·simp only[go_sem,aa]<;>rfl
   ·clear eb f1 f2 b2 f5 f8 f7 hv H j1 HH
    rintro j s' hj ⟨⟨⟨eb,f1,f2,b2,f5,hv⟩,f7,f10,b10,HH,b,j1,hb⟩,f11⟩;by_cases iy:(j:Int)<k
    ·have wj:=(br ((j:Int)+1) (by omega) (by omega)).trans (show _=((j+1:Nat):Int)by omega)
     rw[show k-j=(k-(j+1))+1 by omega]at HH
     obtain⟨m3,E3,H3,k3,f3⟩:=HL.undo A HH (by omega) j1 hb
     rw[show s'.mem.ver 211=v from hv.symm]at E3;simp only[go_sem,aa,reduceCtorEq,eb,f5,f7,f11,iy]
     refine iu (by exact E3) ?_
     simp only[go_sem,aa,je,reduceCtorEq,PS.gl,f11,wj]
     obtain⟨p1,p2,p3⟩:=k3.1 2 (by omega) (by omega)
     obtain⟨o1,o2,o3⟩:=k3.1 10 (by omega) (by omega)
     refine⟨by omega,⟨⟨rfl,?_,?_,p1.trans b2,?_,hv.trans k3.2.symm⟩,?_,?_,o1.trans b10,H3,b+64,f3,by omega⟩⟩
     ·simp only[go_sem,aa,f1]
     ·simp only[go_sem,aa,f2];rw[p2];rfl
     ·simp only[go_sem,aa,f5]
     ·simp only[go_sem,aa,f7]
     ·simp only[go_sem,aa,f10];rw[o2];rfl
    ·have hjk:j=k:=by omega
     subst hjk;rw[Ms]at HH;simp only[go_sem,aa,reduceCtorEq,eb,f7,f11,iy];refine⟨⟨rfl,?_,?_,b2,?_,hv⟩,?_,?_,b10,HH,b,j1,hb⟩<;>simp only[go_sem,aa,f1,f2,f5,f7,f10]
  ·clear eb f1 f2 b2 f5 f8 f7 hv H j1 HH hb
   rintro s' ⟨⟨eb,f1,f2,b2,f5,hv⟩,f7,f10,b10,HH,b,j1,hb⟩;have hmt:=hE.mid;have H0:=HH.2;rw[hL0]at H0;have E0:=HL.ay1 A HH j1;rw[show s'.mem.ver 211=v from hv.symm]at E0;simp only[go_sem,eb,f5]
   refine Ec (HAt.a03 A (by exact H0) hmt (by exact hv)) ?_
   simp only[sf,ix,jj,go_sem,aa,ab,f2,b2];refine ee hth ?_;simp only[go_sem,aa];refine gf hEq ?_;simp only[go_sem,aa,f5]
   refine iu (by exact E0) ?_
   simp only[go_sem,aa,je,reduceCtorEq,PS.gl,PS.mem]
   refine rv (fun s'=>HI2 t es u v k L k s') ?_ ?_
   ·refine dq k (fun j s'=>HI2 t es u v k L j s'∧s'.tmp 12= .d (.int .i64 (j:Nat))) ?_ ?_
    ·refine⟨⟨⟨rfl,?_,?_,b2,?_,hv⟩,?_,?_,b10,HH,b,j1,hb⟩,?_⟩
     ·simp only[go_sem,aa,f1]
     ·simp only[go_sem,aa,f2]
     ·simp only[go_sem,aa,f5]
     ·simp only[go_sem,aa,f7]
     ·simp only[go_sem,aa,f10]
     ·simp only[go_sem,aa]<;>rfl
    ·clear eb f1 f2 b2 f5 f7 f10 b10 hv j1 HH hb H0 E0
     rintro j s' hj ⟨⟨⟨eb,f1,f2,b2,f5,hv⟩,f7,f10,b10,HH,b,j1,hb⟩,f12⟩;by_cases iy:(j:Int)<k
     ·have wj:=(br ((j:Int)+1) (by omega) (by omega)).trans (show _=((j+1:Nat):Int)by omega)
      obtain⟨m3,E3,H3,k3,f3⟩:=HL.aB7 A HH (by omega) (by omega) j1 hb
      rw[show s'.mem.ver 211=v from hv.symm]at E3;simp only[go_sem,aa,reduceCtorEq,eb,f5,f7,f12,iy]
      refine iu (by exact E3) ?_
      simp only[go_sem,aa,je,reduceCtorEq,PS.gl,f12,wj]
      obtain⟨p1,p2,p3⟩:=k3.1 2 (by omega) (by omega)
      obtain⟨o1,o2,o3⟩:=k3.1 10 (by omega) (by omega)
      refine⟨by omega,⟨⟨rfl,?_,?_,p1.trans b2,?_,hv.trans k3.2.symm⟩,?_,?_,o1.trans b10,H3,b+64,f3,by omega⟩⟩
      ·simp only[go_sem,aa,f1]
      ·simp only[go_sem,aa,f2];rw[p2];rfl
      ·simp only[go_sem,aa,f5]
      ·simp only[go_sem,aa,f7]
      ·simp only[go_sem,aa,f10];rw[o2];rfl
     ·have hjk:j=k:=by omega
      subst hjk;simp only[go_sem,aa,reduceCtorEq,eb,f7,f12,iy];refine⟨⟨rfl,?_,?_,b2,?_,hv⟩,?_,?_,b10,HH,b,j1,hb⟩<;>simp only[go_sem,aa,f1,f2,f5,f7,f10]
   ·clear eb f1 f2 b2 f5 f7 f10 b10 hv j1 HH hb H0 E0
    rintro s' ⟨⟨eb,f1,f2,b2,f5,hv⟩,f7,f10,b10,HH,b,j1,hb⟩;have H0:=HH.2;rw[hLu]at H0
    have E0:=HL.aye A HH (by omega) j1
    rw[show s'.mem.ver 211=v from hv.symm]at E0;simp only[go_sem,eb,f5]
    refine Ec (HAt.a03 A (by exact H0) hmu (by exact hv)) ?_
    simp only[sf,ix,jj,go_sem,aa,ab,f10,b10];refine ee ao5 ?_;simp only[go_sem,aa];refine gf aok ?_;simp only[go_sem,aa,f5]
    refine iu (by exact E0) ?_
    simp only[go_sem,aa,Sn,reduceCtorEq,PS.gl,PS.mem];refine Dg hw ?_;simp only[go_sem,aa]
end
def GW(w:World):fc:=⟨fun b o=>w.cell? ⟨b,o,none⟩,fun b=>match w.heap[b]? with
 |some (.map ents _)=>some (ents.toList.map fun e=>(e.key,e.val))
 |_=>none⟩
theorem aAj(w:World):GOk (GW w) w:=by
 refine⟨fun b o v h=>h,fun b es h=>?_⟩
 simp only[GW]at h;split at h
 ·rename_i ents clock hh
  injection h with h
  exact⟨ents,clock,hh,h⟩
 ·cases h
structure Mu{H:Type}(μ:DataW H→Nat):Prop where
 len:∀elems spare,elems.length≤μ (.slice elems spare)
 el:∀elems spare d,d∈elems→μ d≤μ (.slice elems spare)
 part:∀parts d,d∈parts→μ d≤μ (.agg parts)
def M6(G:fc)(ds:List D)(cs:List Value):Prop:=ds.length=cs.length∧∀(i:Nat) (x:D) (v:Value),ds[i]? =some x→cs[i]? =some v→fh G x v
theorem M6.append{G:fc}{a b:List D}{c d:List Value}(h:M6 G a c)(k:M6 G b d):M6 G (a++b) (c++d):=by
 refine⟨by simp[h.1,k.1],fun i x v hx hv=>?_⟩
 by_cases hi:i<a.length
 ·rw[jr hi]at hx
  rw[jr (by rw[←h.1];exact hi)]at hv
  exact h.2 i x v hx hv
 ·rw[jy (by omega)]at hx
  rw[jy (by rw[←h.1];omega),←h.1]at hv
  exact k.2 _ x v hx hv
theorem M6.agg{G:fc}{ds:List D}{cs:Array Value}(h:M6 G ds cs.toList):fh G (.agg ds) (.agg cs):=
 .agg (by have:=h.1;simp at this;omega) fun i x v hx hv=>h.2 i x v hx (by simpa using hv)
theorem a56{α:Type}{Q:Nat→α→Prop}:∀n:Nat,(∀i,i<n→∃a,Q i a)→∃l:List α,l.length=n∧∀i a,l[i]? =some a→Q i a
 |0,_=>⟨[],rfl,fun i a h=>by simp at h⟩
 |n+1,h=>by
  obtain⟨l,h1,h2⟩:=a56 n (fun i hi=>h i (by omega))
  obtain⟨a,ha⟩:=h n (by omega)
  refine⟨l++[a],by simp[h1],fun i b hb=>?_⟩
  by_cases hi:i<l.length
  ·rw[jr hi]at hb
   exact h2 i b hb
  ·rw[jy (by omega)]at hb
   have:i-l.length=0:=by
    have:=(aq.1 hb).1;simp at this;omega
   rw[this]at hb;simp at hb;subst hb
   rw[show i=n by omega]
   exact ha
section
variable{H:Type}(enc:TypeId×Value→H)(P:Program)(w:World)(μ:DataW H→Nat)
def Rd{α:Type}(t:TypeId)(S:α→List D)(B:α→Nat→Prop):Prop:=
 ∀(fuel:Nat) (cs:List Value) (x:DataW H×List MemPlace),DataW.trod enc P w 0 (fun _=>true) true fuel t cs=some x→∃a,M6 (GW w) (S a) cs∧∀m,μ x.1≤m→B a m
def RdF{α:Type}(fs:List (TypeId×Nat))(o W:Nat)(S:α→List D)(B:α→Nat→Prop):Prop:=
 ∀(fuel:Nat) (cs:List Value) (xs:List (DataW H×List MemPlace)),xs.length=fs.length→(∀(i:Nat) (f:TypeId×Nat),fs[i]? =some f→DataW.trod enc P w 0 (fun _=>true) true fuel f.1 ((cs.drop f.2).take (P.cellsOf f.1))=xs[i]?)→
  ∃a,M6 (GW w) (S a) ((cs.drop o).take W)∧∀m,(∀y∈xs,μ y.1≤m)→B a m
variable{enc P w μ}
theorem Rd.int{t:TypeId}{k:IntKind}(ht:P.underlying t=some (.int k)):Rd enc P w μ t (fun n:Int=>[.int k n]) (fun _ _=>True):=by
 intro fuel cs x h;obtain⟨n,rfl,_,_⟩:=DataW.trod_int ht h
 refine⟨n,⟨rfl,fun i x v hx hv=>?_⟩,fun _ _=>trivial⟩
 cases i with
 |zero=>simp at hx hv;subst hx hv;exact .int
 |succ i=>simp at hx
theorem Rd.str{t:TypeId}(ht:P.underlying t=some .string):Rd enc P w μ t (fun n:ByteArray=>[.str n]) (fun _ _=>True):=by
 intro fuel cs x h;obtain⟨n,rfl,_,_⟩:=DataW.trod_string ht h
 refine⟨n,⟨rfl,fun i x v hx hv=>?_⟩,fun _ _=>trivial⟩
 cases i with
 |zero=>simp at hx hv;subst hx hv;exact .str
 |succ i=>simp at hx
theorem Rd.conv{α β:Type}{t:TypeId}{S:α→List D}{B:α→Nat→Prop}{S':β→List D}{B':β→Nat→Prop}(h:Rd enc P w μ t S B)(g:α→β)(hS:∀a,S' (g a)=S a)(hB:∀a m,B a m→B' (g a) m):Rd enc P w μ t S' B':=by
 intro fuel cs x hx;obtain⟨a,h1,h2⟩:=h fuel cs x hx
 exact⟨g a,by rw[hS];exact h1,fun m hm=>hB a m (h2 m hm)⟩
theorem RdF.nil{o:Nat}:RdF enc P w μ [] o 0 (fun _:Unit=>[]) (fun _ _=>True):=by
 intro fuel cs xs hl h
 exact⟨(),⟨by simp,fun i x v hx=>by simp at hx⟩,fun _ _=>trivial⟩
theorem RdF.cons{α β:Type}{t:TypeId}{fs:List (TypeId×Nat)}{o k W:Nat}{S1:α→List D}{B1:α→Nat→Prop}{S2:β→List D}{B2:β→Nat→Prop}(hk:P.cellsOf t=k)(h1:Rd enc P w μ t S1 B1)(h2:RdF enc P w μ fs (o+k) W S2 B2):
  RdF enc P w μ ((t,o)::fs) o (k+W) (fun p:α×β=>S1 p.1++S2 p.2) (fun p m=>B1 p.1 m∧B2 p.2 m):=by
 intro fuel cs xs hl h
 cases xs with
 |nil=>simp at hl
 |cons x xs=>
  have e0:=h 0 (t,o) rfl;simp only[hk]at e0;obtain⟨a,a1,a2⟩:=h1 _ _ _ e0
  obtain⟨b,b1,b2⟩:=h2 fuel cs xs (by simpa using hl) fun i g hg=>by simpa using h (i+1) g (by simpa using hg)
  refine⟨(a,b),?_,fun m hm=>⟨a2 m (hm x (by simp)),b2 m fun y hy=>hm y (by simp[hy])⟩⟩
  have:(cs.drop o).take (k+W)=(cs.drop o).take k++(cs.drop (o+k)).take W:=by
   rw[List.take_add,ahw]
  rw[this];exact a1.append b1
theorem Rd.struct{α:Type}{t:TypeId}{fs:Array Field}{l:List (TypeId×Nat)}{W:Nat}{S:α→List D}{B:α→Nat→Prop}(hμ:Mu μ)(ht:P.underlying t=some (.struct fs))(hfs:fs.toList.map (fun f=>(f.type,f.offset))=l)(hc:P.cellsOf t=W)(h:RdF enc P w μ l 0 W S B):Rd enc P w μ t S B:=by
 intro fuel cs x hx;obtain⟨xs,n,rfl,rfl,hl,hn,hf⟩:=DataW.trod_struct ht hx
 obtain⟨a,h1,h2⟩:=h n cs xs (by rw[←hfs];simpa using hn) fun i f hi=>by
  rw[←hfs,bp,ak]at hi;obtain⟨g,hg,rfl⟩:=hi
  exact hf i g (by simpa using hg)
 refine⟨a,?_,fun m hm=>h2 m fun y hy=>gn (hμ.part _ _ (jc.2 ⟨y,hy,rfl⟩)) hm⟩
 rw[a9a,Ab (by omega)]at h1
 exact h1
theorem Rd.array{α:Type}{t e:TypeId}{n W:Nat}{l:List (TypeId×Nat)}{S:α→List D}{B:α→Nat→Prop}(hμ:Mu μ)(ht:P.underlying t=some (.array n e))(hl:(cq n).map (fun i=>(e,i*P.cellsOf e))=l)(hc:P.cellsOf t=W)(h:RdF enc P w μ l 0 W S B):Rd enc P w μ t S B:=by
 intro fuel cs x hx;obtain⟨xs,m,rfl,rfl,h1,hn,hf⟩:=DataW.trod_array ht hx
 obtain⟨a,h3,h2⟩:=h m cs xs (by rw[←hl];simpa using hn) fun i f hi=>by
  rw[←hl,bp,ak]at hi;obtain⟨g,hg,rfl⟩:=hi;have hi2:=(aq.1 hg).1;rw[aAx]at hi2;rw[Jx hi2]at hg
  injection hg with hg
  subst hg;exact hf i hi2
 refine⟨a,?_,fun m hm=>h2 m fun y hy=>gn (hμ.part _ _ (jc.2 ⟨y,hy,rfl⟩)) hm⟩
 rw[a9a,Ab (by omega)]at h3
 exact h3
theorem au3{b o i j:Nat}:((⟨b,o,none⟩:Addr).add i).add j=⟨b,o+i+j,none⟩:=by
 unfold Addr.add;by_cases hi:i=0<;>by_cases hj:j=0<;>simp[hi,hj]
theorem Rd.slice{α:Type}{t e:TypeId}{sz:Nat}{S:α→List D}{B:α→Nat→Prop}(hμ:Mu μ)(ht:P.underlying t=some (.slice e))(hc:P.cellsOf e=sz)(hz:0<sz)(hS:∀a,(S a).length=sz)(he:Rd enc P w μ e S B):
  Rd enc P w μ t (fun l:List α=>[.dt sz (l.map S)]) (fun l m=>l.length≤m∧∀a∈l,B a m):=by
 intro fuel cs x hx;rcases DataW.trod_slice ht hx with ⟨rfl,rfl⟩|⟨a,len,cap,elems,rest,n,rfl,rfl,rfl,hb,hl,hm,hlen,hel,_,_⟩
 ·refine⟨[],⟨rfl,fun i x v hx hv=>?_⟩,fun m _=>⟨by simp,by simp⟩⟩
  cases i with
  |zero=>simp at hx hv;subst hx hv;exact .Tb
  |succ i=>simp at hx
 ·rw[hc]at hel
  obtain⟨l,l1,l2⟩:=a56 (Q:=fun i (b:α)=>∃cs',w.cells? 0 (a.add (i*sz)) sz=some cs'∧M6 (GW w) (S b) cs'∧∀m,(∀d∈elems.map (·.1),μ d≤m)→B b m) len fun i hi=>by
   have h1:=hel i hi
   rw[ao (by omega)]at h1
   obtain⟨cs',c1,c2⟩:=acy.1 h1;obtain⟨b,b1,b2⟩:=he _ _ _ c2
   exact⟨b,cs',c1,b1,fun m hm=>b2 m (hm _ (jc.2 ⟨_,bz (by omega),rfl⟩))⟩
  refine⟨l,⟨rfl,fun i x v hx hv=>?_⟩,fun m hm=>⟨?_,fun b hb=>?_⟩⟩
  ·cases i with
   |succ i=>simp at hx
   |zero=>
    simp at hx hv;subst hx hv;by_cases h0:len=0
    ·have:l=[]:=jb (by omega)
     subst this h0;exact .Uk
    ·obtain⟨cs',c1,c2,_⟩:=l2 0 (l[0]'(by omega)) (ao (by omega))
     obtain⟨_,d1,d2⟩:=World.cells?_some c1
     have hsp:a.spot=none:=by
      have:=d2 0 hz
      rw[ao (by omega)]at this
      have e0:(a.add (0*sz)).add 0=a:=by simp[Addr.add]
      rw[e0]at this;unfold aG5 at this;split at this
      ·split at this
       ·cases this
       ·rename_i hs;simpa using hs
      ·cases this
     obtain⟨b,o,sp⟩:=a;simp only at hsp;subst hsp
     have cell:∀i j,i<len→j<sz→∃cs',M6 (GW w) (S (l.getD i (l[0]'(by omega)))) cs'∧cs'.length=sz∧(GW w).cv b (o+i*sz+j)=cs'[j]? :=by
      intro i j hi hj
      obtain⟨cs',c1,c2,_⟩:=l2 i (l.getD i (l[0]'(by omega))) (by simp[bn,show i<l.length by omega])
      obtain⟨_,d1,d2⟩:=World.cells?_some c1;refine⟨cs',c2,d1,?_⟩;have:=d2 j hj;rw[au3]at this;exact this
     have:=fh.dt (G:=GW w) (sz:=sz) (l:=l.map S) (b:=b) (o:=o) (c:=cap) (by simp;omega) (fun i e he=>by
      simp only[bp,ak]at he;obtain⟨q,_,rfl⟩:=he
      exact hS q) (fun i j hi hj=>by
      obtain⟨cs',_,k1,k2⟩:=cell i j (by simp at hi;omega) hj
      rw[k2,ao (by omega)]
      rfl) (fun i e j x v he hx hv=>by
      simp only[bp,ak]at he;obtain⟨q,hq,rfl⟩:=he;have hi:i<l.length:=(aq.1 hq).1
      have hj:j<sz:=by
       have:=(aq.1 hx).1;rw[hS]at this;exact this
      obtain⟨cs',k0,k1,k2⟩:=cell i j (by omega) hj
      have hgq:l.getD i (l[0]'(by omega))=q:=by simp[bn,hq]
      rw[hgq]at k0;rw[k2]at hv
      exact k0.2 j x v hx hv)
     rw[ae,l1]at this;exact this
  ·have:=hμ.len (elems.map (·.1)) (rest.map (·.1))
   simp only[ae]at this;simp only at hm;omega
  ·obtain⟨i,hi⟩:=aEu hb
   obtain⟨_,_,_,k⟩:=l2 i b hi
   exact k m fun d hd=>gn (hμ.el _ _ d hd) hm
end
end Go.PI
namespace Go.PI
open Go Go.ChangeShapes Go.WideShapes Go.RowKit Go.WideElems
section
variable{H:Type}{enc:TypeId×Value→H}{P:Program}
theorem Ss(hl:laidOutB P=true){W W':World}(hb:Below W.heap.size W W'):
  ∀{ts:List TypeId} {vs:List Value} {ds:List (DataW H)} {ps:List MemPlace},(∀t∈ts,P.readableRec t=true∧t<P.types.size)→DataW.TrodAll enc P W 0 (fun _=>true) true ts vs ds ps→(∀p∈ps,p.block<W.heap.size)→DataW.TrodAll enc P W' 0 (fun b=>decide (b<W.heap.size)) true ts vs ds ps
 |[],[],[],_,_,h,_=>h
 |[],[],_::_,_,_,h,_=>h.elim
 |[],_::_,_,_,_,h,_=>h.elim
 |_::_,[],_,_,_,h,_=>h.elim
 |_::_,_::_,[],_,_,h,_=>h.elim
 |t::ts,v::vs,d::ds,ps,ht,h,hp=>by
  obtain⟨p,q,⟨n,h1⟩,h2,rfl⟩:=h
  obtain⟨r1,r2⟩:=ht t (by simp)
  refine⟨p,q,⟨n,?_⟩,Ss hl hb (fun u hu=>ht u (by simp[hu])) h2 fun x hx=>hp x (by simp[hx]),rfl⟩
  exact DataW.trod_stays (kids_book hl r1) (book_sized r1) (fun h=>by cases h) ⟨r2,book_self t⟩ h1 (fun x hx=>hb.same (hp x (by simp[hx]))) (fun x hx=>by simpa using hp x (by simp[hx]))
theorem ajs{f:Nat}{fn:Func}{s:ChangeSpec}{W:World}{args:Array Value}{ds gs:List (DataW H)}{before:List MemPlace}{tb:TypeId}{xs:List D}
  (hl:laidOutB P=true)(hts:∀t∈fn.params.toList,P.readableRec t=true∧t<P.types.size)(hr:fn.resultTypes= #[tb])(hb:P.underlying tb=some .bool)(auh:s.vars=[])
  (hs1:(s.fn H (ds++gs)).results=[.lit (.bool true)])(hs2:(s.fn H (ds++gs)).args=ds)(hs3:(s.fn H (ds++gs)).vars=[])
  (hW:DataW.Whole enc P fn.params.toList s.vars false W args.toList ds gs before)(hp:fp P f xs (.bool true))(hx:args.size=xs.length)(hd:∀(i:Nat) (x:D) (v:Value),xs[i]? =some x→args[i]? =some v→fh (GW W) x v):
  Calls P f args W fun e W'=>∃v,e= .returned v∧s.post enc P fn false true false false W args v W':=by
 refine(hp.2 (GW W) W args (aAj W) hx hd).mono ?_;rintro e W' ⟨v,G',rfl,_,_,_,hB,hv⟩;cases hv;have hW':=hW;obtain⟨p,q,hA,hV,rfl,_,_⟩:=hW';have iy:=hW.lt;rw[auh]at hV;obtain⟨rfl,rfl⟩:=trodVars_none hV
 refine⟨_,rfl,ds,[],p++[],[],p,[],hW,?_,?_,?_,hB.toBelow.frame _,fun h=>by cases h⟩
 ·rw[hr,hs1]
  exact trodAll_mk1 (shut_bool hb true)
 ·rw[hs2]
  exact Ss hl hB.toBelow hts hA fun x hx=>iy x (by simpa using hx)
 ·rw[hs3,auh]
  rfl
end
end Go.PI
namespace Go.Proofs.YtcpkpdmejlfemaaGreatDoor
open Go Go.PI
def ftB(f:Ft)(m:Nat):Prop:=f.vs.length≤m∧f.ls.length≤m∧∀q∈f.ls,q.length≤m
def ndB(n:Nd)(m:Nat):Prop:=ftB n.f m∧n.ins.length≤m
def trB(t:Tr)(m:Nat):Prop:=t.ps.length≤m∧t.ns.length≤m∧∀n∈t.ns,ndB n m
section
variable{H:Type}{enc:TypeId×Value→H}{w:World}{μ:DataW H→Nat}
theorem rd2:Rd enc Tryz.prog w μ 2 (fun n:Int=>[.int .i64 n]) (fun _ _=>True):=
 Rd.int Tryz.underlying2
theorem rd3:Rd enc Tryz.prog w μ 3 (fun n:Int=>[.int .i64 n]) (fun _ _=>True):=
 Rd.int Tryz.underlying3
theorem aBg:Rd enc Tryz.prog w μ 40 (fun n:Int=>[.int .i64 n]) (fun _ _=>True):=
 Rd.int Tryz.underlying40
theorem rd9:Rd enc Tryz.prog w μ 9 (fun n:ByteArray=>[.str n]) (fun _ _=>True):=
 Rd.str Tryz.underlying9
theorem aB9(hμ:Mu μ):Rd enc Tryz.prog w μ 76 pn (fun _ _=>True):=
 Rd.conv (Rd.struct hμ Tryz.underlying76 (l:=[(9,0),(2,1)]) (by kernel_rfl) (by kernel_rfl) (RdF.cons (k:=1) (by kernel_rfl) (rd9) (RdF.cons (k:=1) (by kernel_rfl) (rd2) RdF.nil))) (fun p=>⟨p.1,p.2.1⟩) (fun _=>rfl) (fun _ _ _=>trivial)
theorem aB8(hμ:Mu μ):Rd enc Tryz.prog w μ 97 Cn (fun _ _=>True):=
 Rd.conv (Rd.struct hμ Tryz.underlying97 (l:=[(9,0),(2,1),(2,2)]) (by kernel_rfl) (by kernel_rfl) (RdF.cons (k:=1) (by kernel_rfl) (rd9) (RdF.cons (k:=1) (by kernel_rfl) (rd2) (RdF.cons (k:=1) (by kernel_rfl) (rd2) RdF.nil)))) (fun p=>⟨p.1,p.2.1,p.2.2.1⟩) (fun _=>rfl) (fun _ _ _=>trivial)
theorem ayg(hμ:Mu μ):Rd enc Tryz.prog w μ 149 zm (fun _ _=>True):=
 Rd.conv (Rd.array hμ Tryz.underlying149 (l:=[(2,0),(2,1)]) (by kernel_rfl) (by kernel_rfl) (RdF.cons (k:=1) (by kernel_rfl) (rd2) (RdF.cons (k:=1) (by kernel_rfl) (rd2) RdF.nil))) (fun p=>(p.1,p.2.1)) (fun _=>rfl) (fun _ _ _=>trivial)
theorem ayh(hμ:Mu μ):Rd enc Tryz.prog w μ 125 (fun l:List Sp=>[se l]) (fun l m=>l.length≤m):=
 Rd.conv (Rd.slice hμ Tryz.underlying125 (sz:=2) (by kernel_rfl) (by decide) (fun _=>rfl) (ayg hμ)) (fun l=>l) (fun _=>rfl) (fun _ _ h=>h.1)
theorem aBe(hμ:Mu μ):Rd enc Tryz.prog w μ 42 (fun l:List (List Sp)=>[jv l]) (fun l m=>l.length≤m∧∀q∈l,q.length≤m):=
 Rd.conv (Rd.slice hμ Tryz.underlying42 (sz:=1) (by kernel_rfl) (by decide) (fun _=>rfl) (ayh hμ)) (fun l=>l) (fun _=>rfl) (fun _ _ h=>h)
theorem aBd(hμ:Mu μ):Rd enc Tryz.prog w μ 44 (fun l:List (List Sp)=>[jv l]) (fun l m=>l.length≤m∧∀q∈l,q.length≤m):=
 Rd.conv (Rd.struct hμ Tryz.underlying44 (l:=[(42,0)]) (by kernel_rfl) (by kernel_rfl) (RdF.cons (k:=1) (by kernel_rfl) (aBe hμ) RdF.nil)) (fun p=>p.1) (fun _=>rfl) (fun _ _ h=>h.1)
theorem aBf(hμ:Mu μ):Rd enc Tryz.prog w μ 41 (fun l:List Vl=>[ua l]) (fun l m=>l.length≤m):=
 Rd.conv (Rd.slice hμ Tryz.underlying41 (sz:=3) (by kernel_rfl) (by decide) (fun _=>rfl) (aB8 hμ)) (fun l=>l) (fun _=>rfl) (fun _ _ h=>h.1)
theorem aBk(hμ:Mu μ):Rd enc Tryz.prog w μ 22 (fun l:List Pm=>[ix l]) (fun l m=>l.length≤m):=
 Rd.conv (Rd.slice hμ Tryz.underlying22 (sz:=2) (by kernel_rfl) (by decide) (fun _=>rfl) (aB9 hμ)) (fun l=>l) (fun _=>rfl) (fun _ _ h=>h.1)
theorem aBb(hμ:Mu μ):Rd enc Tryz.prog w μ 47 (fun l:List ByteArray=>[ma l]) (fun l m=>l.length≤m):=
 Rd.conv (Rd.slice hμ Tryz.underlying47 (sz:=1) (by kernel_rfl) (by decide) (fun _=>rfl) (rd9)) (fun l=>l) (fun _=>rfl) (fun _ _ h=>h.1)
theorem aBc(hμ:Mu μ):Rd enc Tryz.prog w μ 46 cFt ftB:=
 Rd.conv (Rd.struct hμ Tryz.underlying46 (l:=[(40,0),(41,1),(44,2)]) (by kernel_rfl) (by kernel_rfl) (RdF.cons (k:=1) (by kernel_rfl) (aBg) (RdF.cons (k:=1) (by kernel_rfl) (aBf hμ) (RdF.cons (k:=1) (by kernel_rfl) (aBd hμ) RdF.nil)))) (fun p=>⟨p.1,p.2.1,p.2.2.1⟩) (fun _=>rfl) (fun _ _ h=>⟨h.2.1,h.2.2.1⟩)
theorem ayf(hμ:Mu μ):Rd enc Tryz.prog w μ 49 xe ndB:=
 Rd.conv (Rd.struct hμ Tryz.underlying49 (l:=[(9,0),(46,1),(47,4)]) (by kernel_rfl) (by kernel_rfl) (RdF.cons (k:=1) (by kernel_rfl) (rd9) (RdF.cons (k:=3) (by kernel_rfl) (aBc hμ) (RdF.cons (k:=1) (by kernel_rfl) (aBb hμ) RdF.nil)))) (fun p=>⟨p.1,p.2.1,p.2.2.1⟩) (fun _=>rfl) (fun _ _ h=>⟨h.2.1,h.2.2.1⟩)
theorem aBj(hμ:Mu μ):Rd enc Tryz.prog w μ 23 (fun l:List Nd=>[jj l]) (fun l m=>l.length≤m∧∀n∈l,ndB n m):=
 Rd.conv (Rd.slice hμ Tryz.underlying23 (sz:=5) (by kernel_rfl) (by decide) (fun _=>rfl) (ayf hμ)) (fun l=>l) (fun _=>rfl) (fun _ _ h=>h)
theorem aBi(hμ:Mu μ):Rd enc Tryz.prog w μ 25 sf trB:=
 Rd.conv (Rd.struct hμ Tryz.underlying25 (l:=[(22,0),(23,1)]) (by kernel_rfl) (by kernel_rfl) (RdF.cons (k:=1) (by kernel_rfl) (aBk hμ) (RdF.cons (k:=1) (by kernel_rfl) (aBj hμ) RdF.nil))) (fun p=>⟨p.1,p.2.1⟩) (fun _=>rfl) (fun _ _ h=>⟨h.1,h.2.1.1,h.2.1.2⟩)
theorem aBa(hμ:Mu μ):Rd enc Tryz.prog w μ 51 l9 (fun e m=>ndB e.nd m):=
 Rd.conv (Rd.struct hμ Tryz.underlying51 (l:=[(3,0),(9,1),(9,2),(2,3),(49,4)]) (by kernel_rfl) (by kernel_rfl) (RdF.cons (k:=1) (by kernel_rfl) (rd3) (RdF.cons (k:=1) (by kernel_rfl) (rd9) (RdF.cons (k:=1) (by kernel_rfl) (rd9) (RdF.cons (k:=1) (by kernel_rfl) (rd2) (RdF.cons (k:=5) (by kernel_rfl) (ayf hμ) RdF.nil)))))) (fun p=>⟨p.1,p.2.1,p.2.2.1,p.2.2.2.1,p.2.2.2.2.1⟩) (fun _=>rfl) (fun _ _ h=>h.2.2.2.2.1)
theorem aBh(hμ:Mu μ):Rd enc Tryz.prog w μ 26 (fun l:List Edt=>[.dt 9 (l.map l9)]) (fun l m=>∀e∈l,ndB e.nd m):=
 Rd.conv (Rd.slice hμ Tryz.underlying26 (sz:=9) (by kernel_rfl) (by decide) (fun _=>rfl) (aBa hμ)) (fun l=>l) (fun _=>rfl) (fun _ _ h=>h.2)
end
end Go.Proofs.YtcpkpdmejlfemaaGreatDoor
namespace Go.Proofs
open Go.Shelf
def Tryz.awc:aG3:=⟨fun|6=>307|15=>310|14=>380|28=>389|29=>390|20=>447|21=>448|22=>449|23=>450|24=>451|25=>452|26=>453|27=>454|46=>503|47=>456|48=>457|49=>504|50=>505|57=>530|n=>n,fun|22=>42|24=>125|25=>434|3=>3|39=>316|0=>0|53=>538|55=>263|4=>4|46=>532|45=>531|50=>443|5=>5|9=>9|66=>609|70=>613|76=>649|77=>77|n=>n,fun|n=>n⟩
theorem Tryz.l6:Go.Proofs.SlLaysF.n6 Tryz.prog Tryz.awc:={
 mixed:=by kernel_rfl
 f6:=⟨Tryz.f307.name,by decide,Tryz.func307.trans (congrArg some (by kernel_rfl))⟩
 f14:=⟨Tryz.f380.name,by decide,Tryz.func380.trans (congrArg some (by kernel_rfl))⟩
 f15:=Tryz.func310.trans (congrArg some (by kernel_rfl))
 f20:=⟨Tryz.f447.name,by decide,Tryz.func447.trans (congrArg some (by kernel_rfl))⟩
 f21:=⟨Tryz.f448.name,by decide,Tryz.func448.trans (congrArg some (by kernel_rfl))⟩
 f22:=⟨Tryz.f449.name,by decide,Tryz.func449.trans (congrArg some (by kernel_rfl))⟩
 f23:=⟨Tryz.f450.name,by decide,Tryz.func450.trans (congrArg some (by kernel_rfl))⟩
 f24:=⟨Tryz.f451.name,by decide,Tryz.func451.trans (congrArg some (by kernel_rfl))⟩
 f25:=⟨Tryz.f452.name,by decide,Tryz.func452.trans (congrArg some (by kernel_rfl))⟩
 f26:=⟨Tryz.f453.name,by decide,Tryz.func453.trans (congrArg some (by kernel_rfl))⟩
 f27:=⟨Tryz.f454.name,by decide,Tryz.func454.trans (congrArg some (by kernel_rfl))⟩
 f28:=Tryz.func389.trans (congrArg some (by kernel_rfl))
 f29:=Tryz.func390.trans (congrArg some (by kernel_rfl))
 f46:=⟨Tryz.f503.name,by decide,Tryz.func503.trans (congrArg some (by kernel_rfl))⟩
 f47:=Tryz.func456.trans (congrArg some (by kernel_rfl))
 f48:=Tryz.func457.trans (congrArg some (by kernel_rfl))
 f49:=⟨Tryz.f504.name,by decide,Tryz.func504.trans (congrArg some (by kernel_rfl))⟩
 f50:=⟨Tryz.f505.name,by decide,Tryz.func505.trans (congrArg some (by kernel_rfl))⟩
 f57:=⟨Tryz.f530.name,by decide,Tryz.func530.trans (congrArg some (by kernel_rfl))⟩
 t0:=Tryz.underlying0
 a0:=Tryz.isAgg0
 z0:=Tryz.sizeOf0
 v0:=Tryz.zeroValue0
 t3:=Tryz.underlying3
 a3:=Tryz.isAgg3
 z3:=Tryz.sizeOf3
 v3:=Tryz.zeroValue3
 t4:=Tryz.underlying4
 a4:=Tryz.isAgg4
 z4:=Tryz.sizeOf4
 v4:=Tryz.zeroValue4
 t5:=Tryz.underlying5
 a5:=Tryz.isAgg5
 z5:=Tryz.sizeOf5
 v5:=Tryz.zeroValue5
 t9:=Tryz.underlying9
 a9:=Tryz.isAgg9
 z9:=Tryz.sizeOf9
 v9:=Tryz.zeroValue9
 t22:=Tryz.underlying42
 a22:=Tryz.isAgg42
 z22:=Tryz.sizeOf42
 v22:=Tryz.zeroValue42
 a24:=Tryz.isAgg125
 z24:=Tryz.sizeOf125
 t25:=Tryz.underlying434
 a25:=Tryz.isAgg434
 z25:=Tryz.sizeOf434
 v25:=Tryz.zeroValue434
 t39:=Tryz.underlying316
 a39:=Tryz.isAgg316
 z39:=Tryz.sizeOf316
 v39:=Tryz.zeroValue316
 t45:=Tryz.underlying531
 a45:=Tryz.isAgg531
 z45:=Tryz.sizeOf531
 v45:=Tryz.zeroValue531
 t46:=Tryz.underlying532
 a46:=Tryz.isAgg532
 z46:=Tryz.sizeOf532
 v46:=Tryz.zeroValue532
 t50:=Tryz.underlying443
 a50:=Tryz.isAgg443
 z50:=Tryz.sizeOf443
 v50:=Tryz.zeroValue443
 t53:=Tryz.underlying538
 a53:=Tryz.isAgg538
 z53:=Tryz.sizeOf538
 v53:=Tryz.zeroValue538
 t55:=Tryz.underlying263
 a55:=Tryz.isAgg263
 z55:=Tryz.sizeOf263
 v55:=Tryz.zeroValue263
 t66:=Tryz.underlying609
 a66:=Tryz.isAgg609
 z66:=Tryz.sizeOf609
 v66:=Tryz.zeroValue609
 t70:=Tryz.underlying613
 a70:=Tryz.isAgg613
 z70:=Tryz.sizeOf613
 v70:=Tryz.zeroValue613
 t76:=Tryz.underlying649
 a76:=Tryz.isAgg649
 z76:=Tryz.sizeOf649
 v76:=Tryz.zeroValue649
 t77:=Tryz.underlying77
 a77:=Tryz.isAgg77
 z77:=Tryz.sizeOf77
 v77:=Tryz.zeroValue77}
end Go.Proofs
