/- A part of the proof for HistoryParams: F73 to SLayP. Printed from longer texts. -/
import Derived.Test.YtjhmidapljifbaaGreatDoorE
import Derived.Deep.Slices
import Derived.ChangeShapes
import Derived.OpenShut
import Derived.ChangeSame
import Derived.ChangeStays
import Derived.ChangeBook
import Derived.RowKit
import Derived.Lib.LaidTab
import Derived.Test.YtjhmidapljifbaaGreatDoorRows
import Derived.KernelRfl
import Derived.Shelf.SlLaysF
import Derived.Shelf.Strings.Builder1
import Derived.Shelf.Strings.BuilderF
import Derived.Shelf.Strings.BuilderK
import Derived.Shelf.LaysM
import Derived.Shelf.Strconv.Itoa4
set_option linter.all false
set_option maxHeartbeats 64000000
open Array renaming getElem?_eq_some_iff→ig
open Bool renaming and_eq_true→cj,false_eq_true→fk,false_or→L8,not_eq_true'→pz,true_or→Ho
open Classical renaming byContradiction→aak
open Go.DataW renaming Whole→aKu
open Go.IntKind renaming i64→ab
open Go.Lib renaming TabIs→auv
open Go.Proofs.SlLaysF renaming n6→a71
open Go.Shelf renaming Ren→V5
open Go.Value renaming int→aL5
open Go.World renaming cell?→aKc
open Int renaming natCast_nonneg→aq,reduceAdd→aF1,reduceBEq→L7,reduceBNe→jk,reduceLE→fp,reduceLT→dc,reduceToNat→dv,toNat_of_nonneg→aJf
open List renaming all_eq_true→cz,any_eq_true→A9,append_assoc→oq,append_nil→y0,append_of_mem→a7b,cons_append→xz,drop_drop→am3,drop_eq_getElem_cons→jq,drop_zero→aI9,eq_nil_of_length_eq_zero→ix,eraseIdx_eq_take_drop_succ→xy,filter_append→a7a,flatMap_append→a1j,flatMap_cons→ad6,foldl_append→mc,foldl_cons→qe,foldl_nil→av5,getD→cd,getElem?_append_left→l8,getElem?_append_right→mb,getElem?_cons_succ→gl,getElem?_cons_zero→dm,getElem?_eq_getElem→ax,getElem?_eq_some_iff→aw,getElem?_map→cw,getElem?_of_mem→aJ3,getElem?_range→M5,getElem_append_left→aF6,getElem_cons_zero→aI7,getElem_mem→cy,getElem_of_mem→jd,getElem_take→a2u,length_append→db,length_cons→ca,length_drop→uv,length_filter_le→zg,length_map→ag,length_nil→ed,length_pos_iff→a1i,length_range→aF5,length_set→av4,length_take→dw,map_append→fu,map_congr_left→Cy,map_cons→gf,map_drop→aus,map_eq_nil_iff→jc,map_map→aF4,map_nil→ni,map_take→Gx,mem_append→jm,mem_append_right→V3,mem_cons→dq,mem_cons_of_mem→aad,mem_filter→C3,mem_flatMap→Ff,mem_iff_getElem→i6,mem_map→iw,mem_of_mem_drop→av2,mem_of_mem_take→Ix,mem_range→ep,mem_singleton→X7,nil_append→N1,nodup_append→W1,nodup_cons→aF0,nodup_iff_pairwise_ne→D1,not_lt→aKq,not_mem_nil→kh,pairwise_append→aac,pairwise_cons→Ek,pairwise_iff_getElem→Bt,range→dn,reduceReplicate→dh,reverse_cons→uy,reverse_nil→azq,reverse_reverse→ug,take_add_one→fm,take_append_drop→Gv,take_append_of_le_length→ayw,take_length→dt,take_of_length_le→tz,take_succ_eq_append_getElem→V1
open Nat renaming add_assoc→qj,le_refl→ay,le_trans→ie,lt_or_ge→V0,min_eq_left→akd,not_lt_zero→aEz,reduceAdd→ae,reduceEqDiff→aa,reduceLeDiff→ah,reduceMul→ey,reducePow→azp,sub_self→Uz,zero_add→fj,zero_le→a3g
open Option renaming bind_eq_some_iff→agv,bind_some→Of,getD_some→j6,isSome→ez,map_eq_some_iff→ao,map_none→av1,map_some→ir,ne_none_iff_exists'→G8
open Option.some renaming injEq→aj
open Prod.mk renaming injEq→br
namespace Go.PI
theorem a6s.M7{P:Program}{f:Nat}{args:List D}{r:D}(h:a6s P f args fun x=>Wk x r):iq P f args r:=
 ⟨h.1,fun G w vs hG hl hr=>(h.2 G w vs hG hl hr).mono fun _ _ ⟨v,G',x,k1,k2,k3,k4,k5,k6,k7⟩=>⟨v,G',k1,k3,k4,k5,k6,k2 G' v k7⟩⟩
def ajq(P:Program)(v:V)(args:List V)(d:Option Nat)(s:PS)(K:PS→Prop):Prop:=
 match v with
 | .d (.nu g iy)=>ag5 P g (args++iy.map .d) d s K
 |_=>False
theorem ajp{P:Program}{s:PS}{K:PS→Prop}{d:Option Nat}{g:Nat}{iy:List D}{args:List V}:ajq P (.d (.nu g iy)) args d s K=ag5 P g (args++iy.map .d) d s K:=rfl
theorem arv{P:Program}{s:PS}{K:PS→Prop}{d:Option Nat}{r:List RI}{af:List Nat}{f:me}{args:List me}:l5 P (⟨d,.N0 f args,none,af⟩::r) s K=ajq P (f.ev s) (args.map (·.ev s)) d s (Ab P r K):=by
 show(match f.ev s with| .d (.nu g iy)=>∃m' r',qz P g s.mem ((args.map fun x:me=>x.ev s)++iy.map V.d) m' r'∧Ab P r K ((s.j0 m').put d r')|_=>False)=_
 unfold ajq;split<;>rfl
attribute [go_sem] arv ajp
def X6(e:Edt):Prop:=a6v e.nd
def K2(t:Tr):Prop:=t.ps.length≤20∧t.ns.length≤20∧∀n∈t.ns,a6v n
theorem K2.tc{t:Tr}(h:K2 t):Mid t:=⟨by have:=h.1;omega,by have:=h.2.1;omega,h.2.2⟩
def ayv(t:Tr)(e:Edt)(s':PS):Prop:=
 s'.base=0∧s'.tmp 3= .ic 3 (s'.av 3) 0∧s'.da 3=some (.loc ((Cx e).map .d))∧s'.tmp 4= .ic 4 (s'.av 4) 0∧s'.da 4=some (.loc [.d .cq,.d .cq])∧s'.tmp 6= .ic 6 (s'.av 6) 0∧
 ∃cs,s'.da 6=some (.loc cs)∧Ra s'.mem 1000 t cs∧w8 s'.mem (1160+64*t.ns.length)
section
variable{P:Program}(A:Pr4 P)
theorem aEr{pr:List (List Sp)→Bool}(hpr:K1 A.toPr pr)(t:Tr)(e:Edt)(hk0:0≤e.k)(hk7:e.k<7)(ht:K2 t)(he:X6 e)(hlp:(so t e).1.ps.length≤21)(hln:(so t e).1.ns.length≤21)(B6:M3 (Gj (so t e).1))
  (aDq:∀s',ayv t e s'→∃ids m',qz P (a9r A e.k) (s'.uu ids).mem [.ic 6 (s'.av 6) 0,.d (.agg (Cx e))] m' (.d (.int ab (so t e).2))∧(s'.uu ids).da 3=some (.loc ((Cx e).map .d))∧(s'.uu ids).da 6≠none∧
   m'.da 4=some (.loc [.d .cq,.d .cq])∧m'.av 4=s'.av 4∧m'.av 6=s'.av 6∧
   ((so t e).2=0→∀s2:PS,s2.mem=m'→∃ids b zs,zs.map WN.n=(so t e).1.ns∧Sb (s2.uu ids).mem 6 7 (so t e).1.ps zs∧(s2.uu ids).da 4=some (.loc [.d .cq,.d .cq])∧w8 (s2.uu ids).mem b)):
  iq P A.qd [.agg (r8 t),.agg (Cx e)] (.Aa [.agg (r8 (applyN pr t e).1),.int ab (applyN pr t e).2]):=by
 refine a6s.M7 (arf A.mo A.a2k (by simp) ?_);show ko P (Mo A.zz A.la A.ra A.jl) (ajc _ _) _
 have h0:¬(e.k<0):=by omega
 have h7:¬(e.k≥7):=by omega
 simp only[Mo,r8,Cx,jn,l7,go_sem,aa,ae,ah,reduceCtorEq,h0];refine Ao (adu A) ?_;simp only[Wl,go_sem,aa,ae,reduceCtorEq,h7];refine kg (amt A t ht.tc _ 1000 (fun i hi=>?_)) ?_
 ·simp only[PS.mem,ak]
  (repeat' rw[al (by omega)])
  exact⟨rfl,trivial⟩
 rintro m1 r1 ⟨hx,cs,rfl,hT⟩;have L2:=hx.low 2 (by omega);have L3:=hx.low 3 (by omega);have L4:=hx.low 4 (by omega);have L6:=hx.low 6 (by omega);simp only[PS.mem,ak,aa,reduceIte]at L2 L3 L4 L6;refine Xs (ayv t e) ?_ ?_
 ·simp only[al2,jv.og,Et,lk.app,PS.ta,PS.put,PS.j0,gf,ni,j6,fj];refine aen (cs:=cs) (id:=6) (av:=m1.av 6+1) (old:=[.d .cq,.d .cq]) ?_ ?_ ?_ rfl hT.len ?_ ?_
  ·simp only[ak,aa,ee,dj];exact a9m
  ·simp only[ak,dj]
  ·simp only[PS.cs,ak,dj]
  ·refine Ra.awo (m:=⟨lb m1.da 6 (some (.loc [.d .cq,.d .cq])),lb m1.av 6 (m1.av 6+1),m1.mp⟩) (hT.mono (ay _) fun i h1 h2=>?_) rfl;simp only[ak];rw[al (by omega),al (by omega)];exact⟨rfl,rfl⟩
  rw[Te];refine⟨rfl,?_,?_,?_,?_,?_,cs,?_,?_,fun i hi=>⟨?_,?_⟩⟩
  ·simp only[ak,aa,ee,dj,L3.2.1]
  ·simp only[ak,aa,ee,L3.1,Cx,gf,ni]
  ·simp only[ak,aa,ee,dj,L4.2.1]
  ·simp only[ak,aa,ee,L4.1]
  ·simp only[ak,aa,ee,dj]
  ·simp only[ak,dj]
  ·refine hT.mono (ay _) fun i h1 h2=>?_;simp only[PS.mem,ak];rw[al (by omega),al (by omega),al (by omega)];exact⟨rfl,rfl⟩
  ·simp only[PS.mem,ak];rw[al (by omega),al (by omega)];refine hx.high i (by omega) ?_;rintro(h1|h1|⟨k,hk,h1|h1⟩)<;>omega
  exact hx.mps i (by omega)
 intro s1 h1;obtain⟨ids,m',hE,b3,b6,k1,k2,k3,k4⟩:=aDq s1 h1;obtain⟨eb,f3,_,f4,b4,f6,_⟩:=h1;simp only[go_sem];refine T7 ids ?_
 have g0:(s1.uu ids).base=0:=by rw[Ty];exact eb
 have g3:=R0 (ids:=ids) f3;have g4:=R0 (ids:=ids) f4;have g6:=R0 (ids:=ids) f6;have gv:(s1.uu ids).av=s1.av:=Tx
 generalize s1.uu ids=s2 at*
 rw[←gv]at hE k2 k3
 have aby:((Wl A).drop e.k.toNat).take 1=[.nu (a9r A e.k) []]:=by
  have h8:=axd A (k:=e.k.toNat) (by omega);rw[show((e.k.toNat:Nat):Int)=e.k by omega]at h8
  have h9:e.k.toNat<(Wl A).length:=by show e.k.toNat<7;omega
  rw[jq h9];rw[ax h9]at h8
  injection h8 with h8
  rw[h8];rfl
 have hkl:(Wl A).length=7:=rfl
 have hkn:e.k.toNat+1≤7:=by omega
 rw[←gv]at g3 g4 g6;simp only[go_sem];refine Ao (adu A) ?_;simp only[Cx,gf,ni]at b3;simp only[go_sem,aa,ae,ah,g0,g3,g6,b3,hk0,hk7,aby,hkl,hkn,Nat.mul_one,mkd];refine jr hE ?_;by_cases hc:(so t e).2=0
 ·have hap:applyN pr t e=if yf pr (Gj (so t e).1)=true then(Gj (so t e).1,0)else(⟨[],[]⟩,230):=by
   unfold applyN;rw[al (by omega),al (by omega)]
  have step:∀S:PS,S.mem=m'→S.base=0→S.tmp 4= .ic 4 (S.av 4) 0→S.tmp 6= .ic 6 (S.av 6) 0→ko P .freeze (Vm P (apf A.ra) (Vm P (ape A.jl) (ajc [.cell 4 2 true,.tmp 5] (.Aa [.agg (r8 (applyN pr t e).1),.int ab (applyN pr t e).2])))) S:=by
   intro S hm e0 e4 e6;obtain⟨aD8,b2,zs,z1,hTA,hb4,a5b⟩:=k4 hc S hm;refine T7 aD8 ?_;rw[Lj];have v4:(S.uu aD8).av=S.av:=Tx;have h:=ayq A hpr (u:=(so t e).1) (by rw[Ty];exact e0) (by rw[v4];exact R0 e4) hb4 (by rw[v4];exact R0 e6) hTA z1 a5b hlp (by rw[←ag (f:=WN.n),z1];exact hln) B6;rw[hap];cases hT:yf pr (Gj (so t e).1)
   ·rw[hT]at h;exact h
   rw[hT]at h;exact h
  rw[hc];simp only[go_sem,aa,jk,reduceCtorEq,PS.j0];refine step _ rfl rfl ?_ ?_
  ·simp only[ak,aa,ee,g4];rw[←k2]
  simp only[ak,aa,ee,g6];rw[←k3]
 have hap:applyN pr t e=(⟨[],[]⟩,(so t e).2):=by
  unfold applyN;rw[al (by omega),bm hc]
 have hcb:((so t e).2 !=0)=true:=by simpa using hc
 rw[hap];simp only[go_sem,aa,ae,reduceCtorEq,PS.j0,g4,hcb,k1,k2];refine⟨_,rfl,N6 (M6 Wk.cq Wk.cq)⟩
end
def HK(P:Program)(f:Nat)(t:Tr)(e:Edt)(u:Tr)(code:Int)(s':PS):Prop:=
 ∃ids m',qz P f (s'.uu ids).mem [.ic 6 (s'.av 6) 0,.d (.agg (Cx e))] m' (.d (.int ab code))∧(s'.uu ids).da 3=some (.loc ((Cx e).map .d))∧(s'.uu ids).da 6≠none∧
  m'.da 4=some (.loc [.d .cq,.d .cq])∧m'.av 4=s'.av 4∧m'.av 6=s'.av 6∧
  (code=0→∀s2:PS,s2.mem=m'→∃ids b zs,zs.map WN.n=u.ns∧Sb (s2.uu ids).mem 6 7 u.ps zs∧(s2.uu ids).da 4=some (.loc [.d .cq,.d .cq])∧w8 (s2.uu ids).mem b)
theorem alc{P:Program}{f:Nat}{t u:Tr}{e:Edt}{code:Int}{s':PS}(h1:ayv t e s')(hK:∀zs:List WN,zs.map WN.n=t.ns→∃zs',KOk P f e t.ps u.ps zs zs' code∧zs'.map WN.n=u.ns):HK P f t e u code s':=by
 obtain⟨eb,f3,b3,f4,b4,f6,cs,b6,hT,mh⟩:=h1;obtain⟨zs,z1,hTA,hds,a5b⟩:=afs hT b6 (by omega) (by omega) mh;obtain⟨zs',hk,z2⟩:=hK zs z1;have hv:(s'.uu (Er (1000+32) t.ns.length)).mem.av=s'.av:=Tx;obtain⟨m',hE,aGt,a5a,hv6,hmp,aGo⟩:=hk _ 6 7 _ hTA (by omega) (by omega) a5b;rw[hv]at hE hv6
 have hb6:(s'.uu (Er (1000+32) t.ns.length)).da 6≠none:=by
  obtain⟨_,_,cP,cN,_,_,_,hb,_⟩:=hTA;intro h;have:(s'.uu (Er (1000+32) t.ns.length)).da 6=some (.loc [cP,cN]):=hb;rw[h]at this;cases this
 have l4:=a5a 4 (by omega) (by omega);refine⟨_,m',hE,hds 3 (by omega) _ b3,hb6,?_,?_,hv6,fun _ s2 hs2=>⟨[],1160+64*t.ns.length+64,zs',z2,?_,?_,?_⟩⟩
 ·rw[l4.1];exact hds 4 (by omega) [.cq,.cq] b4
 ·rw[l4.2,hv]
 ·show Sb s2.mem 6 7 u.ps zs';rw[hs2];exact aGt
 ·show s2.mem.da 4=_;rw[hs2,l4.1];exact hds 4 (by omega) [.cq,.cq] b4
 show w8 s2.mem _;rw[hs2];exact aGo
theorem aj9(zs:List WN)(k:Nat):(zs.eraseIdx k).map WN.n=(zs.map WN.n).eraseIdx k:=by
 rw[xy,xy,fu,Gx,aus]
section
variable{P:Program}(A:Pr4 P)
theorem axc(t:Tr)(e:Edt)(h04:e.k=0∨e.k=4)(ht:K2 t)(he:X6 e)(s':PS)(h1:ayv t e s'):HK P (a9r A e.k) t e (so t e).1 (so t e).2 s':=by
 obtain⟨t1,t2,t3⟩:=ht
 have zl:∀zs:List WN,zs.map WN.n=t.ns→zs.length=t.ns.length:=fun zs h=>by rw[←h,ag]
 have tt:∀zs:List WN,zs.map WN.n=t.ns→(⟨t.ps,zs.map WN.n⟩:Tr)=t:=fun zs h=>by rw[h]
 rcases h04 with h|h
 ·have hf:a9r A e.k=A.ql:=by rw[h];rfl
  rw[hf];unfold so;rw[bm h];rcases abf t e.n with hi|⟨k,hk,hi⟩
  ·rw[hi,bm (by omega)];exact alc h1 fun zs hz=>⟨zs,axi A e t.ps zs (by omega) (by rw[tt zs hz];exact hi),hz⟩
  rw[hi,al (by omega),bp];exact alc h1 fun zs hz=>⟨zs,axh A e t.ps zs (by omega) hk (by rw[tt zs hz];exact hi),hz⟩
 have hf:a9r A e.k=A.qk:=by rw[h];rfl
 rw[hf];unfold so;rw[al (by omega),al (by omega),al (by omega),al (by omega),bm h];rcases abe t e.n with hi|⟨k,hk,hi⟩
 ·rw[hi,bm (by omega)];exact alc h1 fun zs hz=>⟨zs,axg A e t.ps zs (by rw[zl zs hz];omega) (by rw[tt zs hz];exact hi),hz⟩
 rw[hi,al (by omega),bp];exact alc h1 fun zs hz=>⟨_,axf A e t.ps zs (by rw[zl zs hz];omega) (by rw[zl zs hz];exact hk) (by rw[tt zs hz];exact hi),by rw[aj9,hz]⟩
theorem a6v.set{l:List Nd}{k:Nat}{n:Nd}(h:∀x∈l,a6v x)(hn:a6v n):∀x∈l.set k n,a6v x:=by
 intro x hx;rcases List.mem_or_eq_of_mem_set hx with h2|rfl
 ·exact h x h2
 exact hn
theorem aij(t:Tr)(e:Edt)(h04:e.k=0∨e.k=4)(ht:K2 t):(so t e).1.ps.length≤21∧(so t e).1.ns.length≤21∧∀n∈(so t e).1.ns,a6v n:=by
 obtain⟨t1,t2,t3⟩:=ht;have tr:t.ps.length≤21∧t.ns.length≤21∧∀n∈t.ns,a6v n:=⟨by omega,by omega,t3⟩;unfold so;rcases h04 with h|h
 ·rw[bm h];split
  ·exact tr
  exact⟨by simp only[a1r,av4];omega,tr.2⟩
 rw[al (by omega),al (by omega),al (by omega),al (by omega),bm h];split
 ·exact tr
 exact⟨tr.1,ie (List.length_eraseIdx_le _ _) (by omega),fun n hn=>t3 n (List.mem_of_mem_eraseIdx hn)⟩
theorem amj{u:Tr}(h1:u.ns.length≤21)(h2:∀n∈u.ns,a6v n):M3 (Gj u):=by
 refine⟨?_,fun n hn=>?_⟩
 ·show(jf Nd.n u.ns).length≤1000;rw[ym];omega
 obtain⟨q1,q2,q3,q4⟩:=h2 n ((Wm Nd.n u.ns).mem_iff.1 hn);exact⟨q4,q1,q2,q3⟩
theorem ab0{pr:List (List Sp)→Bool}(hpr:K1 A.toPr pr)(t:Tr)(e:Edt)(h04:e.k=0∨e.k=4)(ht:K2 t)(he:X6 e):iq P A.qd [.agg (r8 t),.agg (Cx e)] (.Aa [.agg (r8 (applyN pr t e).1),.int ab (applyN pr t e).2]):=by
 obtain⟨s1,s2,s3⟩:=aij t e h04 ht;exact aEr A hpr t e (by omega) (by omega) ht he s1 s2 (amj s2 s3) fun s' h1=>axc A t e h04 ht he s' h1
end
def cMk(x:ByteArray×Tr):D×C:=(.str x.1,.d (.agg (r8 x.2)))
def HAt(m:Mem)(h lo:Nat)(t:Tr)(us rs:List Tr)(mk:List (ByteArray×Tr)):Prop:=
 ∃uid rid tc cU cR,lo≤uid∧lo≤rid∧lo≤tc∧uid≠rid∧uid≠tc∧rid≠tc∧uid≠h∧rid≠h∧tc≠h∧m.da h=some (.loc [.d (jn t.ps),.d (l7 t.ns),cU,cR,.kj tc (m.av tc)])∧Own m uid 2 (us.map r8) cU∧Own m rid 2 (rs.map r8) cR∧m.mp tc=some (mk.map cMk)
theorem HAt.mono{m m':Mem}{h lo b:Nat}{t:Tr}{us rs:List Tr}{mk:List (ByteArray×Tr)}(H:HAt m h lo t us rs mk)(mh:w8 m b)(hm:∀i,i<b→m'.da i=m.da i∧m'.av i=m.av i∧m'.mp i=m.mp i):HAt m' h lo t us rs mk:=by
 obtain⟨uid,rid,tc,cU,cR,l1,l2,l3,n1,n2,n3,n4,n5,n6,hb,oU,oR,hm2⟩:=H;have hh:=mh.lt hb
 have ait:tc<b:=by
  rcases V0 tc b with h|h
  ·exact h
  rw[(mh tc h).2]at hm2;cases hm2
 refine⟨uid,rid,tc,cU,cR,l1,l2,l3,n1,n2,n3,n4,n5,n6,by rw[(hm h hh).1,(hm tc ait).2.1];exact hb,?_,?_,by rw[(hm tc ait).2.2];exact hm2⟩
 ·rcases oU with h|⟨h1,h2⟩
  ·exact .inl h
  have:=mh.lt h2;exact .inr ⟨by rw[(hm uid this).2.1];exact h1,by rw[(hm uid this).1];exact h2⟩
 rcases oR with h|⟨h1,h2⟩
 ·exact .inl h
 have:=mh.lt h2;exact .inr ⟨by rw[(hm rid this).2.1];exact h1,by rw[(hm rid this).1];exact h2⟩
theorem as7(s:PS)(mk:List (ByteArray×Tr))(n:Nat):N9 ((mk.map cMk).map fun e=>(deep s n e.2).map fun x=>(e.1,x))=some (mk.map fun x=>(.str x.1,.agg (r8 x.2))):=by
 rw[aF4];refine Xz _ _ mk fun x _=>?_;show(deep s n (.d (.agg (r8 x.2)))).map _=_;rw[ajn];rfl
theorem HAt.data{s:PS}{h lo:Nat}{t:Tr}{us rs:List Tr}{mk:List (ByteArray×Tr)}(H:HAt s.mem h lo t us rs mk):
  ∃x y,snap s (.ic h (s.av h) 0)=some (.te [jn t.ps,l7 t.ns,x,y,.map (mk.map fun x=>(.str x.1,.agg (r8 x.2)))] 0)∧Wk x (.ft 2 (us.map r8))∧Wk y (.ft 2 (rs.map r8)):=by
 obtain⟨uid,rid,tc,cU,cR,l1,l2,l3,n1,n2,n3,n4,n5,n6,hb,oU,oR,hm2⟩:=H;obtain⟨x,x1,x2,x3,x4,x5⟩:=oU.data;obtain⟨y,y1,y2,y3,y4,y5⟩:=oR.data;refine⟨x,y,?_,x1,y1⟩;have va:s.da h=some (.loc [.d (jn t.ps),.d (l7 t.ns),cU,cR,.kj tc (s.av tc)]):=hb
 have hc:s.cs h (s.av h)=some [.d (jn t.ps),.d (l7 t.ns),cU,cR,.kj tc (s.av tc)]:=by unfold PS.cs;rw[bm rfl,va]
 have hm3:s.ents tc (s.av tc)=some (mk.map cMk):=by unfold PS.ents;rw[bm rfl];exact hm2
 have e5:rb s (.kj tc (s.av tc))=some (.map (mk.map fun x=>(.str x.1,.agg (r8 x.2)))):=by
  show deep s 6 (.kj tc (s.av tc))=_;simp only[deep,hm3,as7,ir]
 have one:∀(c:C) (x:D) (r:List C) (xs:List D),rb s c=some x→nj s r=some xs→nj s (c::r)=some (x::xs):=by
  intro c x r xs h1 h2
  show(match rb s c,nj s r with|some x,some l=>some (x::l)|_,_=>none)=_
  rw[h1,h2]
 have e6:=one _ _ _ _ (rfl:rb s (.d (jn t.ps))=some (jn t.ps)) (one _ _ _ _ (rfl:rb s (.d (l7 t.ns))=some (l7 t.ns)) (one _ _ _ _ x4 (one _ _ _ _ y4 (one _ _ _ _ e5 (rfl:nj s []=some [])))))
 show(match s.cs h (s.av h)with|some cs=>(nj s cs).map fun ds=>D.te ds 0|none=>none)=_
 rw[hc];show(nj s _).map _=_;rw[e6];rfl
section
variable{P:Program}(A:Pr4 P)
theorem aA8(t:Tr)(h:Mid t)(x y z:D):iq P A.lp [.te [jn t.ps,l7 t.ns,x,y,z] 0] (.agg (r8 t)):=by
 refine du A.mo A.Jq (by simp) ?_;show ko P (xc A.la) (lg _ _) _;have hc:=a3x A.toPr t h;simp only[r8,jn,l7]at hc;simp only[xc,r8,jn,l7,go_sem,aa,ae,ah,reduceCtorEq];refine ff hc ?_;simp only[go_sem,aa,ae]
theorem aw9(p n z:D){us rs:List Tr}{x y:D}(hx:Wk x (.ft 2 (us.map r8)))(hy:Wk y (.ft 2 (rs.map r8))):iq P A.ou [.te [p,n,x,y,z] 0] (.Aa [.int ab us.length,.int ab rs.length]):=by
 have main:iq P A.ou [.te [p,n,.ft 2 (us.map r8),.ft 2 (rs.map r8),z] 0] (.Aa [.int ab us.length,.int ab rs.length]):=by
  refine du A.mo A.Qx (by simp) ?_;show ko P Df (lg _ _) _;simp only[Df,go_sem,aa,ae,ah,reduceCtorEq,ag]
 refine main.args rfl fun i a c ha hc=>?_
 match i with
 |0=>
  simp at ha hc;subst ha hc;refine Wk.te rfl fun j a c ha hc=>?_
  match j with
  |0=>simp at ha hc;subst ha hc;exact Wk.refl _
  |1=>simp at ha hc;subst ha hc;exact Wk.refl _
  |2=>simp at ha hc;subst ha hc;exact hx
  |3=>simp at ha hc;subst ha hc;exact hy
  |4=>simp at ha hc;subst ha hc;exact Wk.refl _
  |j+5=>simp at ha
 |i+1=>simp at ha
theorem aql{pr:List (List Sp)→Bool}(hpr:K1 A.toPr pr)(t:Tr)(h:Mid t)(hs:M3 t)(hT:yf pr t=true)(m:Mem)(b:Nat)(mh:w8 m b):
  ∃m',qz P A.Cv m [.d (.agg (r8 t))] m' (.Aa [.ptr (b+11) (m'.av (b+11)) 0,.d (.int ab 0)])∧HAt m' (b+11) b t [] [] []∧(∀i,i<b→m'.da i=m.da i∧m'.av i=m.av i∧m'.mp i=m.mp i)∧w8 m' (b+64):=by
 have hck:=Tb A.toPr2 hpr t hs;rw[bm hT]at hck;have hc:=a3x A.toPr t h;simp only[r8,jn,l7]at hck hc;obtain⟨m',hm'⟩:∃m':Mem,m'=⟨lb m.da (b+11) (some (.loc [.d (jn t.ps),.d (l7 t.ns),.d .cq,.d .cq,.kj (b+9) (m.av (b+9)+1)])),lb (lb m.av (b+9) (m.av (b+9)+1)) (b+11) (m.av (b+11)+1),lb m.mp (b+9) (some [])⟩:=⟨_,rfl⟩
 have v9:m'.av (b+9)=m.av (b+9)+1:=by rw[hm'];simp[ak]
 have v11:m'.av (b+11)=m.av (b+11)+1:=by rw[hm'];simp[ak]
 refine⟨m',mq A.mo A.a8h (by simp) b (fun c=>?_) (fun i=>?_) (fun i x hx=>?_) (fun i es hi=>?_) ?_,⟨b+12,b+13,b+9,.d .cq,.d .cq,by omega,by omega,by omega,by omega,by omega,by omega,by omega,by omega,by omega,?_,.inl ⟨rfl,rfl⟩,.inl ⟨rfl,rfl⟩,?_⟩,fun i hi=>⟨?_,?_,?_⟩,fun i hi=>⟨?_,?_⟩⟩
 ·show ko P (Pt A.jl A.la) (Bq m [.tmp 2,.tmp 3] _ _) _;simp only[Pt,enter,r8,jn,l7,go_sem,aa,ae];refine ff hck ?_;simp only[go_sem,aa,jk,ae,reduceCtorEq];refine ff hc ?_;simp only[go_sem,aa,ae,ah,PS.ents,PS.mem,sv,Ac,J2,V.toC,v11];subst hm';intro i;simp only[ak];by_cases h11:i=b+11
  ·subst h11;simp only[dj];exact⟨.inr ⟨rfl,by simp⟩,.inl (by rw[al (by omega)];exact(mh _ (by omega)).2)⟩
  simp only[al h11];by_cases h9:i=b+9
  ·subst h9;simp only[dj];exact⟨.inl (mh _ (by omega)).1,.inr ⟨trivial,by simp⟩⟩
  simp only[al h9];by_cases h1:i=b+1
  ·subst h1;exact⟨.inl (mh _ (by omega)).1,.inl (mh _ (by omega)).2⟩
  simp only[al h1];exact⟨.inr ⟨trivial,trivial⟩,.inr ⟨trivial,trivial⟩⟩
 ·rw[hm'];simp only[ak]
  (repeat' split)<;>first|omega|(subst_vars;omega)
 ·rw[hm']at hx;simp only[ak]at hx;split at hx
  ·injection hx with hx
   subst hx;refine .inr fun c hc=>?_;simp only[dq,kh,or_false]at hc;rcases hc with rfl|rfl|rfl|rfl|rfl
   ·trivial
   ·trivial
   ·trivial
   ·trivial
   show m.av (b+9)+1≤m'.av (b+9);rw[v9];exact ay _
  exact .inl hx
 ·rw[hm']at hi;simp only[ak]at hi;split at hi
  ·injection hi with hi
   subst hi;exact .inr fun e he=>absurd he (by simp)
  exact .inl hi
 ·intro c hc;simp only[dq,kh,or_false]at hc;rcases hc with rfl|rfl
  ·exact ay _
  trivial
 ·rw[v9,hm'];simp only[ak,dj]
 ·rw[hm'];simp only[ak,dj,ni]
 ·rw[hm'];simp only[ak];rw[al (by omega)]
 ·rw[hm'];simp only[ak];rw[al (by omega),al (by omega)]
 ·rw[hm'];simp only[ak];rw[al (by omega)]
 ·rw[hm'];simp only[ak];rw[al (by omega)];exact(mh i (by omega)).1
 rw[hm'];simp only[ak];rw[al (by omega)];exact(mh i (by omega)).2
end
def Kept(m m':Mem)(h lo:Nat):Prop:=(∀j,j<lo→j≠h→m'.da j=m.da j∧m'.av j=m.av j∧m'.mp j=m.mp j)∧m'.av h=m.av h
def Wf2(m m':Mem)(h b:Nat):Prop:=(∀i,m.av i≤m'.av i)∧(∀i x,m'.da i=some x→m.da i=some x∨M4 m' x)∧m'.mp=m.mp∧∀j,j<b→j≠h→(∃sz dd,m.da j=some (.arr sz dd))∨(m'.da j=m.da j∧m'.av j=m.av j)
theorem HAt.We{m:Mem}{b tc:Nat}{es:List (D×C)}(mh:w8 m b)(h:m.mp tc=some es):tc<b:=by
 rcases V0 tc b with h2|h2
 ·exact h2
 rw[(mh tc h2).2]at h;cases h
def Ll(m:Mem)(h uid w tc:Nat)(u:Tr)(us:List Tr):Mem:=(m.put uid w (.arr 2 (us.map r8))).put h (m.av h) (.loc [.d (jn u.ps),.d (l7 u.ns),.ref uid w us.length,.d .cq,.kj tc (m.av tc)])
theorem akl{m:Mem}{h lo uid w tc b:Nat}{u:Tr}{us:List Tr}{mk:List (ByteArray×Tr)}(hu:lo≤uid)(hub:uid<b+60)(hw:m.av uid≤w)(hm:lo≤tc)(h1:uid≠tc)(h2:uid≠h)(h3:tc≠h)(hmp:m.mp tc=some (mk.map cMk))(mh:w8 m b)(hlo:lo≤b)(hhb:h<b):
  HAt (Ll m h uid w tc u us) h lo u us [] mk∧Kept m (Ll m h uid w tc u us) h lo∧w8 (Ll m h uid w tc u us) (b+64)∧(∀i,m.av i≤(Ll m h uid w tc u us).av i)∧
  (∀i x,(Ll m h uid w tc u us).da i=some x→m.da i=some x∨M4 (Ll m h uid w tc u us) x):=by
 have hmb:=HAt.We mh hmp
 have vm:(Ll m h uid w tc u us).av tc=m.av tc:=by
  simp only[Ll,Mem.put,ak];rw[al h3,al (fun q=>h1 q.symm)]
 have vu:(Ll m h uid w tc u us).av uid=w:=by
  simp only[Ll,Mem.put,ak];rw[al h2,bm trivial]
 refine⟨⟨uid,b+61,tc,.ref uid w us.length,.d .cq,hu,by omega,hm,by omega,h1,by omega,h2,by omega,h3,?_,.inr ⟨by rw[vu,ag],?_⟩,.inl ⟨rfl,rfl⟩,hmp⟩,⟨fun j hj hne=>⟨?_,?_,rfl⟩,?_⟩,fun i hi=>⟨?_,(mh i (by omega)).2⟩,fun i=>?_,fun i x hx=>?_⟩
 ·rw[vm];simp only[Ll,Mem.put,ck]
 ·simp only[Ll,Mem.put,ak];rw[al h2,bm trivial]
 ·simp only[Ll,Mem.put,ak];rw[al hne,al (by omega)]
 ·simp only[Ll,Mem.put,ak];rw[al hne,al (by omega)]
 ·simp only[Ll,Mem.put,ck]
 ·simp only[Ll,Mem.put,ak];rw[al (by omega),al (by omega)];exact(mh i (by omega)).1
 ·simp only[Ll,Mem.put,ak]
  (repeat' split)<;>first|omega|(subst_vars;omega)
 simp only[Ll,Mem.put,ak]at hx;split at hx
 ·injection hx with hx
  subst hx;refine .inr fun c hc=>?_;simp only[dq,kh,or_false]at hc;rcases hc with rfl|rfl|rfl|rfl|rfl
  ·trivial
  ·trivial
  ·show w≤(Ll m h uid w tc u us).av uid;rw[vu];exact ay _
  ·trivial
  show m.av tc≤(Ll m h uid w tc u us).av tc;rw[vm];exact ay _
 split at hx
 ·injection hx with hx;subst hx;exact .inr trivial
 exact .inl hx
section
variable{P:Program}(A:Pr4 P)
theorem aCn{m:Mem}{h lo b:Nat}{t u:Tr}{us rs:List Tr}{mk:List (ByteArray×Tr)}(H:HAt m h lo t us rs mk)(hn:us.length<50)(mh:w8 m b)(hlo:lo≤b):
  ∃m',qz P A.rh m [.ic h (m.av h) 0,.d (.agg (r8 u))] m' (.Aa [])∧HAt m' h lo u (us++[t]) [] mk∧Kept m m' h lo∧w8 m' (b+64)∧Wf2 m m' h b:=by
 obtain⟨uid,rid,tc,cU,cR,l1,l2,l3,n1,n2,n3,n4,n5,n6,hb,oU,oR,hm2⟩:=H;have hh:=mh.lt hb;have ait:=HAt.We mh hm2
 have hh3:h≠b+3:=by omega
 have aGl:h≠b+14:=by omega
 have h3h:b+3≠h:=by omega
 have aE2:b+14≠h:=by omega
 simp only[jn,l7]at hb;rcases oU with ⟨e1,rfl⟩|⟨rfl,hub⟩
 ·have e0:us=[]:=jc.1 e1;subst e0;obtain⟨k1,k2,k3,k4,k5⟩:=akl (m:=m) (h:=h) (lo:=lo) (uid:=b+14) (w:=m.av (b+14)+1) (tc:=tc) (b:=b) (u:=u) (us:=[t]) (mk:=mk) (by omega) (by omega) (by omega) l3 (by omega) (by omega) n6 hm2 mh hlo hh;refine⟨_,mq A.mo A.Kg (by simp) b (fun c=>?_) k4 k5 (fun i es hi=> .inl hi) (by simp[Gu]),k1,k2,k3,k4,k5,rfl,fun j hj hne=> .inr ?_⟩;rotate_left
  ·simp only[Ll,Mem.put,ak];rw[al hne,al (by omega),al hne,al (by omega)];exact⟨rfl,rfl⟩
  show ko P (yh A.p9) (Bq m [] _ _) _
  have w23:(1:Nat)*48≤2^47:=by omega
  simp only[yh,enter,r8,jn,l7,go_sem,aa,dc,ey,ae,ah,reduceCtorEq,dh,ez,PS.mem,gq,hb,hh3,h3h,aGl,aE2,Lo,qm,w23,azp,sv,J2];refine Aj (b:=b) (fun i hi=>?_) (fun i hi=>?_)
  ·simp only[Ll,Mem.put,ak,jn,l7,gf,ni,r8,ca,ed]
   refine⟨?_,?_,trivial⟩<;>(repeat' split)<;>first|rfl|omega|(subst_vars;first|rfl|omega|simp)
  simp only[Ll,Mem.put,ak,jn,l7,gf,ni,r8];rw[al (show¬i=h by omega)];by_cases h14:i=b+14
  ·subst h14;simp only[dj,al aE2];exact⟨.inr ⟨trivial,by simp⟩,(mh _ (by omega)).2⟩
  rw[al h14];exact⟨.inl (mh i hi).1,(mh i hi).2⟩
 have hlt:=mh.lt hub
 have hu3:uid≠b+3:=by omega
 have h3u:b+3≠uid:=by omega
 have e9:(us++[t]).length=us.length+1:=by simp
 obtain⟨k1,k2,k3,k4,k5⟩:=akl (m:=m) (h:=h) (lo:=lo) (uid:=uid) (w:=m.av uid) (tc:=tc) (b:=b) (u:=u) (us:=us++[t]) (mk:=mk) l1 (by omega) (by omega) l3 n2 n4 n6 hm2 mh hlo hh;refine⟨_,mq A.mo A.Kg (by simp) b (fun c=>?_) k4 k5 (fun i es hi=> .inl hi) (by simp[Gu]),k1,k2,k3,k4,k5,rfl,fun j hj hne=>?_⟩;rotate_left
 ·by_cases hju:j=uid
  ·subst hju;exact .inl ⟨_,_,hub⟩
  refine .inr ?_;simp only[Ll,Mem.put,ak];rw[al hne,al hju,al hne,al hju];exact⟨rfl,rfl⟩
 show ko P (yh A.p9) (Bq m [] _ _) _
 have w23:(us.length+1)*48≤2^47:=by omega
 have w50:¬(((us.length+1:Nat):Int)>50):=by omega
 simp only[yh,enter,r8,jn,l7,go_sem,aa,ae,ah,reduceCtorEq,dh,ez,PS.mem,gq,ag,hb,hub,hh3,h3h,hu3,h3u,n4,n4.symm,Lo,qm,w23,w50,db,ca,sv,J2];refine Aj (b:=b) (fun i hi=>?_) (fun i hi=>?_)
 ·simp only[Ll,Mem.put,ak,jn,l7,fu,gf,ni,e9]
  refine⟨?_,?_,trivial⟩<;>(repeat' split)<;>first|rfl|omega|(subst_vars;first|rfl|omega|simp)
 simp only[Ll,Mem.put,ak];rw[al (show¬i=h by omega),al (by omega)];exact⟨.inl (mh i hi).1,(mh i hi).2⟩
end
def Db(m:Mem)(h fid gid w tc:Nat)(p:Tr)(fs gs:List Tr)(undo:Bool):Mem:=
 ((m.put gid w (.arr 2 (gs.map r8))).put fid (m.av fid+1) (.arr 2 (fs.map r8))).put h (m.av h)
  (.loc (if undo=true then[.d (jn p.ps),.d (l7 p.ns),.ref fid (m.av fid+1) fs.length,.ref gid w gs.length,.kj tc (m.av tc)]else[.d (jn p.ps),.d (l7 p.ns),.ref gid w gs.length,.ref fid (m.av fid+1) fs.length,.kj tc (m.av tc)]))
theorem Xe{m:Mem}{h lo fid gid w tc b:Nat}{p:Tr}{fs gs:List Tr}{mk:List (ByteArray×Tr)}{undo:Bool}(hf:lo≤fid)(hfb:fid<b)(hg:lo≤gid)(hgb:gid<b+60)(hw:m.av gid≤w)(hm:lo≤tc)(h1:fid≠gid)(h2:fid≠tc)(h3:gid≠tc)(h4:fid≠h)(h5:gid≠h)(h6:tc≠h)
  (hmp:m.mp tc=some (mk.map cMk))(mh:w8 m b)(hlo:lo≤b)(hhb:h<b):
  (if undo=true then HAt (Db m h fid gid w tc p fs gs undo) h lo p fs gs mk else HAt (Db m h fid gid w tc p fs gs undo) h lo p gs fs mk)∧Kept m (Db m h fid gid w tc p fs gs undo) h lo∧w8 (Db m h fid gid w tc p fs gs undo) (b+64)∧(∀i,m.av i≤(Db m h fid gid w tc p fs gs undo).av i)∧
  (∀i x,(Db m h fid gid w tc p fs gs undo).da i=some x→m.da i=some x∨M4 (Db m h fid gid w tc p fs gs undo) x):=by
 have hmb:=HAt.We mh hmp;obtain⟨M,hM⟩:∃M,M=Db m h fid gid w tc p fs gs undo:=⟨_,rfl⟩
 have bl:∀i,i≠h→i≠fid→i≠gid→M.da i=m.da i∧M.av i=m.av i:=fun i q1 q2 q3=>by
  rw[hM];simp only[Db,Mem.put,ak];rw[al q1,al q2,al q3,al q1,al q2,al q3];exact⟨rfl,rfl⟩
 have vm:M.av tc=m.av tc:=(bl tc h6 (fun q=>h2 q.symm) (fun q=>h3 q.symm)).2
 have vf:M.av fid=m.av fid+1:=by
  rw[hM];simp only[Db,Mem.put,ak];rw[al h4,bm trivial]
 have vg:M.av gid=w:=by
  rw[hM];simp only[Db,Mem.put,ak];rw[al h5,al (fun q=>h1 q.symm),bm trivial]
 have bf:M.da fid=some (.arr 2 (fs.map r8)):=by
  rw[hM];simp only[Db,Mem.put,ak];rw[al h4,bm trivial]
 have bg:M.da gid=some (.arr 2 (gs.map r8)):=by
  rw[hM];simp only[Db,Mem.put,ak];rw[al h5,al (fun q=>h1 q.symm),bm trivial]
 have vh:M.av h=m.av h:=by rw[hM];simp only[Db,Mem.put,ck]
 have mp':M.mp=m.mp:=by rw[hM];rfl
 have hof:Own M fid 2 (fs.map r8) (.ref fid (m.av fid+1) fs.length):= .inr ⟨by rw[vf,ag],bf⟩;have hog:Own M gid 2 (gs.map r8) (.ref gid w gs.length):= .inr ⟨by rw[vg,ag],bg⟩
 have hbh:M.da h=some (.loc (if undo=true then[.d (jn p.ps),.d (l7 p.ns),.ref fid (m.av fid+1) fs.length,.ref gid w gs.length,.kj tc (m.av tc)]else[.d (jn p.ps),.d (l7 p.ns),.ref gid w gs.length,.ref fid (m.av fid+1) fs.length,.kj tc (m.av tc)])):=by
  rw[hM];simp only[Db,Mem.put,ck]
 have aG0:∀i,m.av i≤M.av i:=fun i=>by
  by_cases q1:i=h
  ·subst q1;rw[vh];exact ay _
  by_cases q2:i=fid
  ·subst q2;rw[vf];omega
  by_cases q3:i=gid
  ·subst q3;rw[vg];exact hw
  rw[(bl i q1 q2 q3).2];exact ay _
 rw[←hM];refine⟨?_,⟨fun j hj hne=>⟨(bl j hne (by omega) (by omega)).1,(bl j hne (by omega) (by omega)).2,by rw[mp']⟩,vh⟩,fun i hi=>⟨?_,by rw[mp'];exact(mh i (by omega)).2⟩,aG0,fun i x hx=>?_⟩
 ·cases undo
  ·exact⟨gid,fid,tc,_,_,hg,hf,hm,fun q=>h1 q.symm,h3,h2,h5,h4,h6,by rw[vm];exact hbh,hog,hof,by rw[mp'];exact hmp⟩
  exact⟨fid,gid,tc,_,_,hf,hg,hm,h1,h2,h3,h4,h5,h6,by rw[vm];exact hbh,hof,hog,by rw[mp'];exact hmp⟩
 ·rw[(bl i (by omega) (by omega) (by omega)).1];exact(mh i (by omega)).1
 by_cases q1:i=h
 ·subst q1;rw[hbh]at hx
  injection hx with hx
  subst hx
  have cf:Nj M (.ref fid (m.av fid+1) fs.length):=by show m.av fid+1≤M.av fid;rw[vf];exact ay _
  have cg:Nj M (.ref gid w gs.length):=by show w≤M.av gid;rw[vg];exact ay _
  have cm:Nj M (.kj tc (m.av tc)):=by show m.av tc≤M.av tc;rw[vm];exact ay _
  refine .inr fun c hc=>?_;cases undo
  ·simp only[fk,ee,dq,kh,or_false]at hc;rcases hc with rfl|rfl|rfl|rfl|rfl
   ·trivial
   ·trivial
   ·exact cg
   ·exact cf
   exact cm
  simp only[dj,dq,kh,or_false]at hc;rcases hc with rfl|rfl|rfl|rfl|rfl
  ·trivial
  ·trivial
  ·exact cf
  ·exact cg
  exact cm
 by_cases q2:i=fid
 ·subst q2;rw[bf]at hx;injection hx with hx;subst hx;exact .inr trivial
 by_cases q3:i=gid
 ·subst q3;rw[bg]at hx;injection hx with hx;subst hx;exact .inr trivial
 rw[(bl i q1 q2 q3).1]at hx;exact .inl hx
theorem alk{l:List Tr}{p:Tr}:((l++[p]).map r8)[l.length]? =some [.ft 2 (p.ps.map tx),.ft 5 (p.ns.map wz)]:=by
 simp[r8,jn,l7]
section
variable{P:Program}(A:Pr4 P)
theorem avo{m:Mem}{h lo b:Nat}{t p:Tr}{fs gs:List Tr}{mk:List (ByteArray×Tr)}(H:HAt m h lo t (fs++[p]) gs mk)(hl:fs.length≤1000)(hl2:gs.length≤1000)(mh:w8 m b)(hlo:lo≤b):
  ∃m',qz P A.ke m [.ic h (m.av h) 0,.ic h (m.av h) 2,.ic h (m.av h) 3] m' (.d (.int ab 0))∧HAt m' h lo p fs (gs++[t]) mk∧Kept m m' h lo∧w8 m' (b+64)∧Wf2 m m' h b:=by
 obtain⟨uid,rid,tc,cU,cR,l1,l2,l3,n1,n2,n3,n4,n5,n6,hb,oU,oR,hm2⟩:=H;have hh:=mh.lt hb;have ait:=HAt.We mh hm2;simp only[jn,l7]at hb
 have hne:(fs++[p]).map r8≠[]:=by simp
 obtain⟨rfl,hub⟩:=oU.ref hne;have hF:=mh.lt hub
 have e8:((fs++[p]).map r8).length=fs.length+1:=by simp
 have e7:(fs++[p]).length=fs.length+1:=by simp
 have hg:=alk (l:=fs) (p:=p)
 have htk:((fs++[p]).map r8).take fs.length=fs.map r8:=by rw[←Gx,List.take_left]
 rw[e8]at hb;have wj:=cu (((fs.length+1:Nat):Int)-1) (by omega) (by omega)
 have wj2:((fs.length+1:Nat):Int)-1=(fs.length:Int):=by omega
 rw[wj2]at wj
 have hz:(((fs.length+1:Nat):Int)==0)=false:=by rw[beq_eq_false_iff_ne];omega
 have hlI:(fs.length:Int)<((fs.length+1:Nat):Int):=by omega
 have hle:fs.length≤fs.length+1:=by omega
 have asp:(fs.length:Int)≤((fs.length+1:Nat):Int):=by omega
 generalize hL:(fs++[p]).map r8=L at*
 rcases oR with ⟨e1,rfl⟩|⟨rfl,hrb⟩
 ·have e0:gs=[]:=jc.1 e1;subst e0
  have aBj:uid≠b+23:=by omega
  have aBo:b+23≠uid:=by omega
  have aBf:h≠b+23:=by omega
  have aBn:b+23≠h:=by omega
  obtain⟨k1,k2,k3,k4,k5⟩:=Xe (m:=m) (h:=h) (lo:=lo) (fid:=uid) (gid:=b+23) (w:=m.av (b+23)+1) (tc:=tc) (b:=b) (p:=p) (fs:=fs) (gs:=[t]) (mk:=mk) (undo:=true) l1 (by omega) (by omega) (by omega) (by omega) l3 (by omega) n2 (by omega) n4 (by omega) n6 hm2 mh hlo hh;refine⟨_,mq A.mo A.xh (by simp) b (fun c=>?_) k4 k5 (fun i es hi=> .inl hi) trivial,k1,k2,k3,k4,k5,rfl,fun j hj hne=>?_⟩;rotate_left
  ·by_cases hju:j=uid
   ·subst hju;exact .inl ⟨_,_,hub⟩
   refine .inr ?_;simp only[Db,Mem.put,ak];rw[al hne,al hju,al (by omega),al hne,al hju,al (by omega)];exact⟨rfl,rfl⟩
  show ko P ku (Bq m [.tmp 6] _ _) _
  have w23:(1:Nat)*48≤2^47:=by omega
  simp only[ku,enter,go_sem,aa,ey,ae,ah,reduceCtorEq,dh,ez,PS.mem,gq,hb,hub,aBj,aBf,n4,Lo,qm,w23,azp,sv,Ac,e8,wj,wj2,hz,hlI,asp,hg,bp,aq,xn,htk];refine Aj (b:=b) (fun i hi=>?_) (fun i hi=>?_)
  ·simp only[Db,Mem.put,ak,jn,l7,gf,ni,r8,ca,ed,dj]
   refine⟨?_,?_,trivial⟩<;>(repeat' split)<;>first|rfl|omega|(subst_vars;first|rfl|omega|simp)
  simp only[Db,Mem.put,ak];rw[al (show¬i=h by omega),al (show¬i=uid by omega)];by_cases h14:i=b+23
  ·subst h14;simp only[dj,al aBn,al aBo];exact⟨.inr ⟨rfl,by simp⟩,(mh _ (by omega)).2⟩
  rw[al h14];exact⟨.inl (mh i hi).1,(mh i hi).2⟩
 have hG:=mh.lt hrb
 have e9:(gs++[t]).length=gs.length+1:=by simp
 obtain⟨k1,k2,k3,k4,k5⟩:=Xe (m:=m) (h:=h) (lo:=lo) (fid:=uid) (gid:=rid) (w:=m.av rid) (tc:=tc) (b:=b) (p:=p) (fs:=fs) (gs:=gs++[t]) (mk:=mk) (undo:=true) l1 (by omega) l2 (by omega) (by omega) l3 n1 n2 n3 n4 n5 n6 hm2 mh hlo hh;refine⟨_,mq A.mo A.xh (by simp) b (fun c=>?_) k4 k5 (fun i es hi=> .inl hi) trivial,k1,k2,k3,k4,k5,rfl,fun j hj hne=>?_⟩;rotate_left
 ·by_cases hju:j=uid
  ·subst hju;exact .inl ⟨_,_,hub⟩
  by_cases hjg:j=rid
  ·subst hjg;exact .inl ⟨_,_,hrb⟩
  refine .inr ?_;simp only[Db,Mem.put,ak];rw[al hne,al hju,al hjg,al hne,al hju,al hjg];exact⟨rfl,rfl⟩
 show ko P ku (Bq m [.tmp 6] _ _) _
 have w23:(gs.length+1)*48≤2^47:=by omega
 simp only[ku,enter,go_sem,aa,ae,ah,reduceCtorEq,dh,ez,PS.mem,gq,ag,hb,hub,hrb,n1,n4,n5.symm,Lo,qm,w23,sv,Ac,e8,wj,wj2,hz,hlI,asp,hg,bp,aq,xn,htk,db,ca];refine Aj (b:=b) (fun i hi=>?_) (fun i hi=>?_)
 ·simp only[Db,Mem.put,ak,jn,l7,fu,gf,ni,r8,e9,dj]
  refine⟨?_,?_,trivial⟩<;>(repeat' split)<;>first|rfl|omega|(subst_vars;first|rfl|omega|simp)
 simp only[Db,Mem.put,ak];rw[al (show¬i=h by omega),al (show¬i=uid by omega),al (show¬i=rid by omega)];exact⟨.inl (mh i hi).1,(mh i hi).2⟩
theorem aq5{m:Mem}{h lo b:Nat}{t:Tr}{us:List Tr}{mk:List (ByteArray×Tr)}(H:HAt m h lo t us [] mk)(mh:w8 m b):
  qz P A.ke m [.ic h (m.av h) 0,.ic h (m.av h) 3,.ic h (m.av h) 2] m (.d (.int ab 7)):=by
 obtain⟨uid,rid,tc,cU,cR,l1,l2,l3,n1,n2,n3,n4,n5,n6,hb,oU,oR,hm2⟩:=H;simp only[jn,l7]at hb;refine mq A.mo A.xh (by simp) b (fun c=>?_) (fun i=>ay _) (fun i x hx=> .inl hx) (fun i es hi=> .inl hi) trivial;show ko P ku (Bq m [.tmp 6] _ _) _;rcases oR with ⟨_,rfl⟩|⟨rfl,hub⟩
 ·simp only[ku,enter,go_sem,aa,ae,ah,reduceCtorEq,ez,PS.mem,gq,hb,sv,Ac];exact fun i=>⟨.inr ⟨rfl,rfl⟩,.inr ⟨rfl,rfl⟩⟩
 simp only[ni]at hub;simp only[ku,enter,go_sem,aa,ae,ah,reduceCtorEq,ez,PS.mem,gq,hb,hub,sv,Ac];exact fun i=>⟨.inr ⟨rfl,rfl⟩,.inr ⟨rfl,rfl⟩⟩
theorem avp{m:Mem}{h lo b:Nat}{t p:Tr}{fs gs:List Tr}{mk:List (ByteArray×Tr)}(H:HAt m h lo t gs (fs++[p]) mk)(hl:fs.length≤1000)(hl2:gs.length≤1000)(mh:w8 m b)(hlo:lo≤b):
  ∃m',qz P A.ke m [.ic h (m.av h) 0,.ic h (m.av h) 3,.ic h (m.av h) 2] m' (.d (.int ab 0))∧HAt m' h lo p (gs++[t]) fs mk∧Kept m m' h lo∧w8 m' (b+64)∧Wf2 m m' h b:=by
 obtain⟨uid,rid,tc,cU,cR,l1,l2,l3,n1,n2,n3,n4,n5,n6,hb,oU,oR,hm2⟩:=H;have hh:=mh.lt hb;have ait:=HAt.We mh hm2;simp only[jn,l7]at hb
 have hne:(fs++[p]).map r8≠[]:=by simp
 obtain⟨rfl,hub⟩:=oR.ref hne;have hF:=mh.lt hub
 have e8:((fs++[p]).map r8).length=fs.length+1:=by simp
 have e7:(fs++[p]).length=fs.length+1:=by simp
 have hg:=alk (l:=fs) (p:=p)
 have htk:((fs++[p]).map r8).take fs.length=fs.map r8:=by rw[←Gx,List.take_left]
 rw[e8]at hb;have wj:=cu (((fs.length+1:Nat):Int)-1) (by omega) (by omega)
 have wj2:((fs.length+1:Nat):Int)-1=(fs.length:Int):=by omega
 rw[wj2]at wj
 have hz:(((fs.length+1:Nat):Int)==0)=false:=by rw[beq_eq_false_iff_ne];omega
 have hlI:(fs.length:Int)<((fs.length+1:Nat):Int):=by omega
 have hle:fs.length≤fs.length+1:=by omega
 have asp:(fs.length:Int)≤((fs.length+1:Nat):Int):=by omega
 generalize hL:(fs++[p]).map r8=L at*
 rcases oU with ⟨e1,rfl⟩|⟨rfl,hrb⟩
 ·have e0:gs=[]:=jc.1 e1;subst e0
  have aBj:rid≠b+23:=by omega
  have aBo:b+23≠rid:=by omega
  have aBf:h≠b+23:=by omega
  have aBn:b+23≠h:=by omega
  obtain⟨k1,k2,k3,k4,k5⟩:=Xe (m:=m) (h:=h) (lo:=lo) (fid:=rid) (gid:=b+23) (w:=m.av (b+23)+1) (tc:=tc) (b:=b) (p:=p) (fs:=fs) (gs:=[t]) (mk:=mk) (undo:=false) l2 (by omega) (by omega) (by omega) (by omega) l3 (by omega) n3 (by omega) n5 (by omega) n6 hm2 mh hlo hh;refine⟨_,mq A.mo A.xh (by simp) b (fun c=>?_) k4 k5 (fun i es hi=> .inl hi) trivial,k1,k2,k3,k4,k5,rfl,fun j hj hne=>?_⟩;rotate_left
  ·by_cases hju:j=rid
   ·subst hju;exact .inl ⟨_,_,hub⟩
   refine .inr ?_;simp only[Db,Mem.put,ak];rw[al hne,al hju,al (by omega),al hne,al hju,al (by omega)];exact⟨rfl,rfl⟩
  show ko P ku (Bq m [.tmp 6] _ _) _
  have w23:(1:Nat)*48≤2^47:=by omega
  simp only[ku,enter,go_sem,aa,ey,ae,ah,reduceCtorEq,dh,ez,PS.mem,gq,hb,hub,aBj,aBf,n5,Lo,qm,w23,azp,sv,Ac,e8,wj,wj2,hz,hlI,asp,hg,bp,aq,xn,htk];refine Aj (b:=b) (fun i hi=>?_) (fun i hi=>?_)
  ·simp only[Db,Mem.put,ak,jn,l7,gf,ni,r8,ca,ed,fk,ee]
   refine⟨?_,?_,trivial⟩<;>(repeat' split)<;>first|rfl|omega|(subst_vars;first|rfl|omega|simp)
  simp only[Db,Mem.put,ak];rw[al (show¬i=h by omega),al (show¬i=rid by omega)];by_cases h14:i=b+23
  ·subst h14;simp only[dj,al aBn,al aBo];exact⟨.inr ⟨rfl,by simp⟩,(mh _ (by omega)).2⟩
  rw[al h14];exact⟨.inl (mh i hi).1,(mh i hi).2⟩
 have hG:=mh.lt hrb
 have e9:(gs++[t]).length=gs.length+1:=by simp
 obtain⟨k1,k2,k3,k4,k5⟩:=Xe (m:=m) (h:=h) (lo:=lo) (fid:=rid) (gid:=uid) (w:=m.av uid) (tc:=tc) (b:=b) (p:=p) (fs:=fs) (gs:=gs++[t]) (mk:=mk) (undo:=false) l2 (by omega) l1 (by omega) (by omega) l3 n1.symm n3 n2 n5 n4 n6 hm2 mh hlo hh;refine⟨_,mq A.mo A.xh (by simp) b (fun c=>?_) k4 k5 (fun i es hi=> .inl hi) trivial,k1,k2,k3,k4,k5,rfl,fun j hj hne=>?_⟩;rotate_left
 ·by_cases hju:j=rid
  ·subst hju;exact .inl ⟨_,_,hub⟩
  by_cases hjg:j=uid
  ·subst hjg;exact .inl ⟨_,_,hrb⟩
  refine .inr ?_;simp only[Db,Mem.put,ak];rw[al hne,al hju,al hjg,al hne,al hju,al hjg];exact⟨rfl,rfl⟩
 show ko P ku (Bq m [.tmp 6] _ _) _
 have w23:(gs.length+1)*48≤2^47:=by omega
 simp only[ku,enter,go_sem,aa,ae,ah,reduceCtorEq,dh,ez,PS.mem,gq,ag,hb,hub,hrb,n1.symm,n4.symm,n5,Lo,qm,w23,sv,Ac,e8,wj,wj2,hz,hlI,asp,hg,bp,aq,xn,htk,db,ca];refine Aj (b:=b) (fun i hi=>?_) (fun i hi=>?_)
 ·simp only[Db,Mem.put,ak,jn,l7,fu,gf,ni,r8,e9,fk,ee]
  refine⟨?_,?_,trivial⟩<;>(repeat' split)<;>first|rfl|omega|(subst_vars;first|rfl|omega|simp)
 simp only[Db,Mem.put,ak];rw[al (show¬i=h by omega),al (show¬i=rid by omega),al (show¬i=uid by omega)];exact⟨.inl (mh i hi).1,(mh i hi).2⟩
end
theorem Wf2.refl(m:Mem)(h b:Nat):Wf2 m m h b:=⟨fun _=>ay _,fun _ _ hx=> .inl hx,rfl,fun _ _ _=> .inr ⟨rfl,rfl⟩⟩
section
variable{P:Program}(A:Pr4 P)
theorem aA7{m:Mem}{h lo b:Nat}{t p:Tr}{fs gs:List Tr}{mk:List (ByteArray×Tr)}(H:HAt m h lo t (fs++[p]) gs mk)(hl:fs.length≤1000)(hl2:gs.length≤1000)(mh:w8 m b)(hlo:lo≤b):
  ∃m',qz P A.qy m [.ic h (m.av h) 0] m' (.d (.int ab 0))∧HAt m' h lo p fs (gs++[t]) mk∧Kept m m' h lo∧w8 m' (b+64):=by
 obtain⟨m',hE,h2,h3,h4,w1,w2,w3,_⟩:=avo A H hl hl2 mh hlo;obtain⟨uid,rid,tc,cU,cR,l1,l2,l3,n1,n2,n3,n4,n5,n6,hb,oU,oR,hm2⟩:=H;refine⟨m',mq A.mo A.Rw (by simp) b (fun c=>?_) w1 w2 (fun i es hi=> .inl (by rw[←w3];exact hi)) trivial,h2,h3,h4⟩;show ko P (Ec A.ke) (Bq m [.tmp 2] _ _) _;simp only[Ec,enter,go_sem,aa,reduceCtorEq,ez,hb];refine jr hE ?_;simp only[go_sem,aa,PS.j0,PS.mem,sv,Ac];exact fun i=>⟨.inr ⟨rfl,rfl⟩,.inr ⟨rfl,rfl⟩⟩
theorem aw3{m:Mem}{h lo b:Nat}{t:Tr}{us:List Tr}{mk:List (ByteArray×Tr)}(H:HAt m h lo t us [] mk)(mh:w8 m b):qz P A.o6 m [.ic h (m.av h) 0] m (.d (.int ab 7)):=by
 have hE:=aq5 A H mh;obtain⟨uid,rid,tc,cU,cR,l1,l2,l3,n1,n2,n3,n4,n5,n6,hb,oU,oR,hm2⟩:=H;refine mq A.mo A.Jr (by simp) b (fun c=>?_) (fun i=>ay _) (fun i x hx=> .inl hx) (fun i es hi=> .inl hi) trivial;show ko P (xd A.ke) (Bq m [.tmp 2] _ _) _;simp only[xd,enter,go_sem,aa,reduceCtorEq,ez,hb];refine jr hE ?_;simp only[go_sem,aa,PS.j0,PS.mem,sv,Ac];exact fun i=>⟨.inr ⟨rfl,rfl⟩,.inr ⟨rfl,rfl⟩⟩
theorem aA9{m:Mem}{h lo b:Nat}{t p:Tr}{fs gs:List Tr}{mk:List (ByteArray×Tr)}(H:HAt m h lo t gs (fs++[p]) mk)(hl:fs.length≤1000)(hl2:gs.length≤1000)(mh:w8 m b)(hlo:lo≤b):
  ∃m',qz P A.o6 m [.ic h (m.av h) 0] m' (.d (.int ab 0))∧HAt m' h lo p (gs++[t]) fs mk∧Kept m m' h lo∧w8 m' (b+64):=by
 obtain⟨m',hE,h2,h3,h4,w1,w2,w3,_⟩:=avp A H hl hl2 mh hlo;obtain⟨uid,rid,tc,cU,cR,l1,l2,l3,n1,n2,n3,n4,n5,n6,hb,oU,oR,hm2⟩:=H;refine⟨m',mq A.mo A.Jr (by simp) b (fun c=>?_) w1 w2 (fun i es hi=> .inl (by rw[←w3];exact hi)) trivial,h2,h3,h4⟩;show ko P (xd A.ke) (Bq m [.tmp 2] _ _) _;simp only[xd,enter,go_sem,aa,reduceCtorEq,ez,hb];refine jr hE ?_;simp only[go_sem,aa,PS.j0,PS.mem,sv,Ac];exact fun i=>⟨.inr ⟨rfl,rfl⟩,.inr ⟨rfl,rfl⟩⟩
theorem ae4{pr:List (List Sp)→Bool}(hpr:K1 A.toPr pr){m:Mem}{h lo b:Nat}{t:Tr}{us rs:List Tr}{mk:List (ByteArray×Tr)}(H:HAt m h lo t us rs mk)(e:Edt)(h04:e.k=0∨e.k=4)(ht:K2 t)(he:X6 e)(hc:(applyN pr t e).2≠0)(mh:w8 m b):
  qz P A.pk m [.ic h (m.av h) 0,.d (.agg (Cx e))] m (.d (.int ab (applyN pr t e).2)):=by
 obtain⟨uid,rid,tc,cU,cR,l1,l2,l3,n1,n2,n3,n4,n5,n6,hb,oU,oR,hm2⟩:=H;have hh:=mh.lt hb;have hap:=ab0 A hpr t e h04 ht he
 have hcb:((applyN pr t e).2==0)=false:=by simpa using hc
 generalize applyN pr t e=r at*
 simp only[r8,Cx,jn,l7]at hap;simp only[jn,l7]at hb
 have hh3:h≠b+3:=by omega
 have h3h:b+3≠h:=by omega
 have hh5:h≠b+5:=by omega
 have h5h:b+5≠h:=by omega
 refine mq A.mo A.Lx (by simp) b (fun c=>?_) (fun i=>ay _) (fun i x hx=> .inl hx) (fun i es hi=> .inl hi) trivial;show ko P (zb A.qd A.rh) (Bq m [.tmp 4] _ _) _;simp only[zb,enter,Cx,go_sem,aa,ae,ah,reduceCtorEq,ez,hb,hh3,hh5];refine il hap ?_;simp only[go_sem,aa,ae,reduceCtorEq,PS.mem,qj,hcb,sv,Ac];refine Aj (b:=b) (fun i hi=>?_) (fun i hi=>⟨.inl (mh i hi).1,(mh i hi).2⟩);simp only[ak];rw[al (show¬i=b+3 by omega),al (show¬i=b+5 by omega),al (show¬i=b+3 by omega)]
 repeat rw[al (show¬i=b+5 by omega)]
 exact⟨rfl,rfl,rfl⟩
theorem M4.same{m m':Mem}(hv:m'.av=m.av):∀x:B,M4 m x→M4 m' x:=by
 have e:∀c:C,Nj m c→Nj m' c:=fun c hc=>by
  cases c<;>first|trivial|(simp only[Nj,hv]at hc⊢;exact hc)
 intro x hx
 cases x<;>first|trivial|(intro c hc;exact e c (hx c hc))|(intro l hl c hc;exact e c (hx l hl c hc))
theorem avh{α:Type}(f:Nat→α)(i:Nat)(x y:α):lb (lb f i x) i y=lb f i y:=by
 funext j;simp only[ak];split<;>rfl
def azj(m:Mem)(b:Nat):Mem:=⟨fun i=>if b≤i∧i<b+64 then none else m.da i,m.av,m.mp⟩
theorem atm{m:Mem}{h lo b:Nat}{t:Tr}{us rs:List Tr}{mk:List (ByteArray×Tr)}(H:HAt m h lo t us rs mk)(hh:h<b)(hna:∀j,b≤j→j<b+64→∀sz dd,m.da j≠some (.arr sz dd)):HAt (azj m b) h lo t us rs mk:=by
 obtain⟨uid,rid,tc,cU,cR,l1,l2,l3,n1,n2,n3,n4,n5,n6,hb,oU,oR,hm2⟩:=H;refine⟨uid,rid,tc,cU,cR,l1,l2,l3,n1,n2,n3,n4,n5,n6,?_,?_,?_,hm2⟩
 ·show(if b≤h∧h<b+64 then none else m.da h)=_;rw[al (by omega)];exact hb
 ·rcases oU with h1|⟨h1,h2⟩
  ·exact .inl h1
  refine .inr ⟨h1,?_⟩;show(if b≤uid∧uid<b+64 then none else m.da uid)=_;rw[al (fun q=>hna uid q.1 q.2 _ _ h2)];exact h2
 rcases oR with h1|⟨h1,h2⟩
 ·exact .inl h1
 refine .inr ⟨h1,?_⟩;show(if b≤rid∧rid<b+64 then none else m.da rid)=_;rw[al (fun q=>hna rid q.1 q.2 _ _ h2)];exact h2
def doM(m:Mem)(b:Nat)(e:Edt)(u:Tr):Mem:=⟨lb (lb m.da (b+3) (some (.loc [.d (.int ab e.k),.d (.str e.n),.d (.str e.t),.d (.int ab e.v),.d (.str e.nd.n),.d (.int ab e.nd.f.k),.d (x6 e.nd.f.vs),.d (lj e.nd.f.ls),.d (nr e.nd.ins)]))) (b+5) (some (.loc [.d (jn u.ps),.d (l7 u.ns)])),
 lb (lb m.av (b+3) (m.av (b+3)+1)) (b+5) (m.av (b+5)+2),lb m.mp (b+5) none⟩
theorem aqp{pr:List (List Sp)→Bool}(hpr:K1 A.toPr pr){m:Mem}{h lo b:Nat}{t:Tr}{us rs:List Tr}{mk:List (ByteArray×Tr)}(H:HAt m h lo t us rs mk)(e:Edt)(h04:e.k=0∨e.k=4)(ht:K2 t)(he:X6 e)(hc:(applyN pr t e).2=0)(hn:us.length<50)(mh:w8 m b)(hlo:lo≤b):
  ∃m',qz P A.pk m [.ic h (m.av h) 0,.d (.agg (Cx e))] m' (.d (.int ab 0))∧HAt m' h lo (applyN pr t e).1 (us++[t]) [] mk∧Kept m m' h lo∧w8 m' (b+128):=by
 have hap:=ab0 A hpr t e h04 ht he
 have hcb:((applyN pr t e).2==0)=true:=by simpa using hc
 generalize applyN pr t e=r at*
 rw[hc]at hap hcb
 have hb5:∀i,i<b→(doM m b e r.1).da i=m.da i∧(doM m b e r.1).av i=m.av i∧(doM m b e r.1).mp i=m.mp i:=fun i hi=>by
  simp only[doM,ak];rw[al (show¬i=b+5 by omega),al (show¬i=b+3 by omega),al (show¬i=b+5 by omega),al (show¬i=b+3 by omega),al (show¬i=b+5 by omega)];exact⟨rfl,rfl,rfl⟩
 have H2:=H.mono (b:=b) (m':=doM m b e r.1) mh hb5
 have a5b:w8 (doM m b e r.1) (b+64):=fun i hi=>by
  simp only[doM,ak];rw[al (show¬i=b+5 by omega),al (show¬i=b+3 by omega),al (show¬i=b+5 by omega)];exact mh i (by omega)
 obtain⟨m',hE,k1,k2,k3,w1,w2,w3,w4⟩:=aCn A (u:=r.1) H2 hn a5b (by omega);obtain⟨uid,rid,tc,cU,cR,l1,l2,l3,n1,n2,n3,n4,n5,n6,hb,oU,oR,hm2⟩:=H;have hh:=mh.lt hb
 have hna:∀j,b≤j→j<b+64→∀sz dd,m'.da j≠some (.arr sz dd):=fun j h1 h2 sz dd hq=>by
  have d3:∀sz dd,(doM m b e r.1).da j≠some (.arr sz dd):=fun sz dd hq=>by
   simp only[doM,ak]at hq;split at hq
   ·cases hq
   split at hq
   ·cases hq
   rw[(mh j h1).1]at hq;cases hq
  rcases w4 j h2 (by omega)with ⟨sz2,aIm,h4⟩|⟨h4,_⟩
  ·exact d3 _ _ h4
  rw[h4]at hq;exact d3 _ _ hq
 have vle:∀i,m.av i≤(doM m b e r.1).av i:=fun i=>by
  simp only[doM,ak]
  (repeat' split)<;>first|omega|(subst_vars;omega)
 have hmp:m'.mp=m.mp:=by
  rw[w3]
  funext i
  simp only[doM,ak];split
  ·subst_vars;exact(mh _ (by omega)).2.symm
  rfl
 refine⟨azj m' b,mq A.mo A.Lx (by simp) b (fun c=>?_) (fun i=>ie (vle i) (w1 i)) (fun i x hx=>?_) (fun i es hi=> .inl (by rw[←hmp];exact hi)) trivial,atm k1 hh hna,⟨fun j hj hne=>?_,?_⟩,fun i hi=>?_⟩
 ·simp only[r8,Cx,jn,l7]at hap;simp only[jn,l7]at hb
  have hh3:h≠b+3:=by omega
  have h3h:b+3≠h:=by omega
  have hh5:h≠b+5:=by omega
  have h5h:b+5≠h:=by omega
  have vh:(doM m b e r.1).av h=m.av h:=(hb5 h hh).2.1;rw[vh]at hE;show ko P (zb A.qd A.rh) (Bq m [.tmp 4] _ _) _;simp only[zb,enter,Cx,go_sem,aa,ae,ah,reduceCtorEq,ez,hb,hh3,hh5];refine il hap ?_;simp only[go_sem,aa,ae,reduceCtorEq,qj,gq,avh];refine jr hE ?_;simp only[go_sem,aa,PS.j0,PS.mem,sv,Ac];refine Aj (b:=b) (fun i hi=>?_) (fun i hi=>?_)
  ·refine⟨?_,rfl,rfl⟩;show(if b≤i∧i<b+64 then none else m'.da i)=_;rw[al (by omega)]
  refine⟨?_,?_⟩
  ·show(if b≤i∧i<b+64 then none else m'.da i)=none∨((if b≤i∧i<b+64 then none else m'.da i)=m'.da i∧_);split
   ·exact .inl rfl
   exact .inr ⟨rfl,rfl⟩
  show m'.mp i=none;rw[hmp];exact(mh i hi).2
 ·change(if b≤i∧i<b+64 then none else m'.da i)=some x at hx;split at hx
  ·cases hx
  next hni=>
  rcases w2 i x hx with h1|h1
  ·by_cases hib:i<b
   ·rw[(hb5 i hib).1]at h1;exact .inl h1
   rw[(a5b i (by omega)).1]at h1;cases h1
  exact .inr (M4.same rfl x h1)
 ·obtain⟨q1,q2,q3⟩:=k2.1 j hj hne;obtain⟨p1,p2,p3⟩:=hb5 j (by omega);refine⟨?_,q2.trans p2,q3.trans p3⟩;show(if b≤j∧j<b+64 then none else m'.da j)=_;rw[al (by omega)];exact q1.trans p1
 ·exact k2.2.trans (hb5 h hh).2.1
 refine⟨?_,(k3 i (by omega)).2⟩;show(if b≤i∧i<b+64 then none else m'.da i)=none;rw[al (by omega)];exact(k3 i (by omega)).1
end
theorem qz.aEo{P:Program}{f:Nat}{m m':Mem}{v0:V}{x y:D}{r:V}(h:qz P f m [v0,.d y] m' r)(hw:Wk x y):qz P f m [v0,.d x] m' r:=
 ⟨h.1,fun s B0 w0 nt G0 G E a w vs hm hF hl hrel=>h.2 s B0 w0 nt G0 G E a w vs hm hF hl fun i z v hz hv=>by
  match i with
  |0=>exact hrel 0 z v hz hv
  |1=>
   simp at hz;subst hz;exact hw G v (hrel 1 (.d x) v rfl hv)
  |i+2=>simp at hz⟩
def WkL(xs ys:List D):Prop:=xs.length=ys.length∧∀(i:Nat) (x y:D),xs[i]? =some x→ys[i]? =some y→Wk x y
theorem WkL.nil:WkL [] []:=⟨rfl,fun i x y h=>by simp at h⟩
theorem WkL.cons{x y:D}{xs ys:List D}(h:Wk x y)(t:WkL xs ys):WkL (x::xs) (y::ys):=by
 refine⟨by simp[t.1],fun i a b ha hb=>?_⟩
 cases i with
 |zero=>simp at ha hb;subst ha hb;exact h
 |succ i=>exact t.2 i a b (by simpa using ha) (by simpa using hb)
theorem WkL.agg{xs ys:List D}(h:WkL xs ys):Wk (.agg xs) (.agg ys):=Wk.agg h.1 h.2
def WkR(xs ys:List (List D)):Prop:=xs.length=ys.length∧∀(i:Nat) (x y:List D),xs[i]? =some x→ys[i]? =some y→WkL x y
theorem WkR.nil:WkR [] []:=⟨rfl,fun i x y h=>by simp at h⟩
theorem WkR.cons{x y:List D}{xs ys:List (List D)}(h:WkL x y)(t:WkR xs ys):WkR (x::xs) (y::ys):=by
 refine⟨by simp[t.1],fun i a b ha hb=>?_⟩
 cases i with
 |zero=>simp at ha hb;subst ha hb;exact h
 |succ i=>exact t.2 i a b (by simpa using ha) (by simpa using hb)
theorem WkR.ft{sz:Nat}{xs ys:List (List D)}(h:WkR xs ys):Wk (.ft sz xs) (.ft sz ys):=Wk.ft h.1 h.2
def bE:ByteArray:=⟨#[]⟩
def bW:ByteArray:=⟨#[119]⟩
def bA:ByteArray:=⟨#[97]⟩
def bB:ByteArray:=⟨#[98]⟩
def bC:ByteArray:=⟨#[99]⟩
def bM:ByteArray:=⟨#[109]⟩
def Px:List Nd:=[⟨bA,⟨0,[⟨bE,0,0⟩,⟨bE,0,0⟩,⟨bE,0,0⟩,⟨bW,1,0⟩,⟨bE,0,1⟩,⟨bE,0,1⟩],[]⟩,[]⟩,⟨bB,⟨0,[⟨bE,0,0⟩,⟨bE,0,0⟩,⟨bE,0,0⟩,⟨bE,0,1⟩,⟨bE,0,1⟩,⟨bE,0,2⟩],[]⟩,[]⟩,⟨bC,⟨4,[],[]⟩,[bB,bA]⟩]
def O0:Tr:=⟨[⟨bW,2⟩],Px⟩
section
variable{P:Program}(A:Pr5 P)
theorem aAa:iq P A.Eg [] (.agg (r8 O0)):=by
 have main:iq P A.Eg [] (.agg [.ft 2 [[.str bW,.int ab 2]],.ft 5 [[.str bA,.int ab 0,.ft 3 ([⟨bE,0,0⟩,⟨bE,0,0⟩,⟨bE,0,0⟩,⟨bW,1,0⟩,⟨bE,0,1⟩,⟨bE,0,1⟩].map cVl),.cq,.cq],[.str bB,.int ab 0,.ft 3 ([⟨bE,0,0⟩,⟨bE,0,0⟩,⟨bE,0,0⟩,⟨bE,0,1⟩,⟨bE,0,1⟩,⟨bE,0,2⟩].map cVl),.cq,.cq],[.str bC,.int ab 4,.cq,.cq,.ft 1 [[.str bB],[.str bA]]]]]):=by
  refine du A.mo A.ac4 (by simp) ?_;show ko P Rm (lg _ _) _;simp only[Rm,go_sem,aa,ae,ah,reduceCtorEq,dh,gq,bE,bW,bA,bB,bC,cVl]
 refine main.M7 (WkL.agg (.cons (Wk.refl _) (.cons (WkR.ft (.cons ?_ (.cons ?_ (.cons ?_ .nil)))) .nil)))
 ·exact .cons (Wk.refl _) (.cons (Wk.refl _) (.cons (Wk.refl _) (.cons Wk.cq (.cons Wk.cq .nil))))
 ·exact .cons (Wk.refl _) (.cons (Wk.refl _) (.cons (Wk.refl _) (.cons Wk.cq (.cons Wk.cq .nil))))
 exact .cons (Wk.refl _) (.cons (Wk.refl _) (.cons Wk.cq (.cons Wk.cq (.cons (Wk.refl _) .nil))))
end
def aq3(m:Mem)(tc:Nat)(es:List (D×C)):Mem:=⟨m.da,m.av,lb m.mp tc (some es)⟩
theorem aFw:Ep (.one .str) (.str bM) (.str bM)=some true:=by decide+kernel
section
variable{P:Program}(A:Pr5 P)
theorem aks:iq P A.ju [.str bM] (.bool true):=by
 have h:=Xo A.toPr bM
 rwa[show xf bM=true by decide+kernel]at h
theorem aw5{m:Mem}{h lo b:Nat}{t u:Tr}{us rs:List Tr}(H:HAt m h lo t us rs [(bM,u)])(mh:w8 m b):
  qz P A.pj m [.ic h (m.av h) 0,.d (.str bM)] m (.d (.int ab 7)):=by
 obtain⟨uid,rid,tc,cU,cR,l1,l2,l3,n1,n2,n3,n4,n5,n6,hb,oU,oR,hm2⟩:=H;have hh:=mh.lt hb;have ait:=HAt.We mh hm2;simp only[jn,l7]at hb
 have hh5:h≠b+5:=by omega
 have h5h:b+5≠h:=by omega
 have hm5:tc≠b+5:=by omega
 have h5m:b+5≠tc:=by omega
 have hn:=aks A;simp only[gf,ni,cMk,r8,jn,l7]at hm2
 have hk0:Hc (.one .str) (.str bM) [(D.str bM,C.d (.agg [.ft 2 (u.ps.map tx),.ft 5 (u.ns.map wz)]))]=some (some (C.d (.agg [.ft 2 (u.ps.map tx),.ft 5 (u.ns.map wz)]))):=by simp[Hc,aFw]
 refine mq A.mo A.Js (by simp) b (fun c=>?_) (fun i=>ay _) (fun i x hx=> .inl hx) (fun i es hi=> .inl hi) trivial;show ko P (xe A.ju) (Bq m [.tmp 4] _ _) _;simp only[xe,enter,go_sem,aa,ae,reduceCtorEq,PS.ents,ez,Cj,hb,hm2,hk0];refine ff hn ?_;simp only[go_sem,aa,PS.mem,sv,Ac];refine Aj (b:=b) (fun i hi=>⟨?_,?_,rfl⟩) (fun i hi=>⟨.inl (mh i hi).1,(mh i hi).2⟩)
 ·simp only[ak];rw[al (show¬i=b+5 by omega),al (show¬i=b+5 by omega)]
 simp only[ak];rw[al (show¬i=b+5 by omega)]
theorem aw6{m:Mem}{h lo b:Nat}{t:Tr}{us rs:List Tr}(H:HAt m h lo t us rs [])(mh:w8 m b)(hlo:lo≤b):
  ∃m',qz P A.pj m [.ic h (m.av h) 0,.d (.str bM)] m' (.d (.int ab 0))∧HAt m' h lo t us rs [(bM,t)]∧Kept m m' h lo∧w8 m' b:=by
 obtain⟨uid,rid,tc,cU,cR,l1,l2,l3,n1,n2,n3,n4,n5,n6,hb,oU,oR,hm2⟩:=H;have hh:=mh.lt hb;have ait:=HAt.We mh hm2;have hb0:=hb;simp only[jn,l7]at hb
 have hh5:h≠b+5:=by omega
 have h5h:b+5≠h:=by omega
 have hm5:tc≠b+5:=by omega
 have h5m:b+5≠tc:=by omega
 have hn:=aks A;simp only[ni]at hm2;have hk0:Hc (.one .str) (.str bM) ([]:List (D×C))=some none:=rfl;have hp0:∀v:C,Mt (.one .str) (.str bM) v []=some [(.str bM,v)]:=fun v=>rfl;refine⟨aq3 m tc [cMk (bM,t)],mq A.mo A.Js (by simp) b (fun c=>?_) (fun i=>ay _) (fun i x hx=> .inl hx) (fun i es hi=>?_) trivial,⟨uid,rid,tc,cU,cR,l1,l2,l3,n1,n2,n3,n4,n5,n6,hb0,oU,oR,?_⟩,⟨fun j hj hne=>⟨rfl,rfl,?_⟩,rfl⟩,fun i hi=>⟨(mh i hi).1,?_⟩⟩
 ·show ko P (xe A.ju) (Bq m [.tmp 4] _ _) _;simp only[xe,enter,go_sem,aa,ae,reduceCtorEq,PS.ents,ez,Cj,hb,hm2,hk0];refine ff hn ?_;simp only[go_sem,aa,fp,ae,ah,reduceCtorEq,PS.ents,ez,PS.mem,hb,hm2,hh5,hm5,hp0,sv,Ac];refine Aj (b:=b) (fun i hi=>⟨?_,?_,rfl⟩) (fun i hi=>⟨.inl (mh i hi).1,?_⟩)
  ·simp only[ak];rw[al (show¬i=b+5 by omega),al (show¬i=b+5 by omega)];rfl
  ·simp only[ak];rw[al (show¬i=b+5 by omega)];rfl
  show lb m.mp tc _ i=_;simp only[ak];rw[al (by omega)];exact(mh i hi).2
 ·change lb m.mp tc _ i=some es at hi;simp only[ak]at hi;split at hi
  ·injection hi with hi
   subst hi;refine .inr fun e he=>?_;simp only[dq,kh,or_false]at he;subst he;trivial
  exact .inl hi
 ·show lb m.mp tc _ tc=_;simp only[ak,dj,gf,ni]
 ·show lb m.mp tc _ j=_;simp only[ak];rw[al (by omega)]
 show lb m.mp tc _ i=_;simp only[ak];rw[al (by omega)];exact(mh i hi).2
end
open Classical in
theorem Ut{S:Nat→Prop}(f:Nat→Nat):∀(H:Nat) (S:Nat→Prop),(∀i,S i→f i<H)→(∀i j,S i→S j→i≠j→f i≠f j)→∃b,∀i,S i→i<b
 |0,S,h1,_=>⟨0,fun i hi=>absurd (h1 i hi) (aEz _)⟩
 |H+1,S,h1,h2=>by
  by_cases hx:∃i,S i∧f i=H
  ·obtain⟨i0,h3,h4⟩:=hx
   obtain⟨b,hb⟩:=Ut (S:=S) f H (fun i=>S i∧i≠i0) (fun i hi=>by
    have:=h1 i hi.1;have:=h2 i i0 hi.1 h3 hi.2
    omega) (fun i j hi hj Io=>h2 i j hi.1 hj.1 Io)
   refine⟨max b (i0+1),fun i hi=>?_⟩;by_cases e:i=i0
   ·omega
   have:=hb i ⟨hi,e⟩;omega
  exact Ut (S:=S) f H S (fun i hi=>by
   have:=h1 i hi;have:f i≠H:=fun e=>hx ⟨i,hi,e⟩
   omega) h2
section
variable{P:Program}
theorem aok{B0 nt:Nat}{w0 w:World}{G0 G:fy}{s:PS}{E:Env}{a:Act}(h:j9 B0 w0 nt G0 s G E a w):∃b,w8 s.mem b:=by
 obtain⟨b1,h1⟩:=Ut (S:=fun i=>s.da i≠none) E.b w.heap.size (fun i=>s.da i≠none) (fun i hi=>by
  obtain⟨b,hb⟩:=G8.1 hi;obtain⟨_,_,cells,et,hc,_⟩:=h.da i b hb
  exact(ig.1 hc).1) (fun i j hi hj Io=>by
  obtain⟨b,hb⟩:=G8.1 hi;obtain⟨b',va⟩:=G8.1 hj
  exact h.inj i j b b' hb va Io)
 obtain⟨b2,h2⟩:=Ut (S:=fun i=>s.mp i≠none) E.m w.heap.size (fun i=>s.mp i≠none) (fun i hi=>by
  obtain⟨b,hb⟩:=G8.1 hi;obtain⟨_,_,ents,clock,hc,_⟩:=h.mp i b hb
  exact(ig.1 hc).1) (fun i j hi hj Io=>by
  obtain⟨b,hb⟩:=G8.1 hi;obtain⟨b',va⟩:=G8.1 hj
  exact h.Qq i j b b' hb va Io)
 refine⟨max b1 b2,fun i hi=>⟨?_,?_⟩⟩
 ·show s.da i=none;apply aak;intro hx;have:=h1 i hx;omega
 show s.mp i=none;apply aak;intro hx;have:=h2 i hx;omega
theorem qz.any{f:Nat}{m m':Mem}{args:List V}{r:V}(hc:yj P f=true)(h:∀b,w8 m b→qz P f m args m' r):qz P f m args m' r:=by
 refine⟨hc,fun s B0 w0 nt G0 G E a w vs hm hF hl hrel=>?_⟩;obtain⟨b,hb⟩:=aok hF;rw[hm]at hb;exact(h b hb).2 s B0 w0 nt G0 G E a w vs hm hF hl hrel
variable(A:Pr5 P)
theorem aw2{m:Mem}{h b:Nat}{t:Tr}{cU cR cM:C}(hm:Mid t)(hb:m.da h=some (.loc [.d (jn t.ps),.d (l7 t.ns),cU,cR,cM]))(mh:w8 m b):qz P A.lp m [.ic h (m.av h) 0] m (.d (.agg (r8 t))):=by
 have hh:=mh.lt hb
 have hh2:h≠b+2:=by omega
 have h2h:b+2≠h:=by omega
 have hc:=a3x A.toPr4.toPr t hm;simp only[r8,jn,l7]at hc hb;refine mq A.mo A.Jq (by simp) b (fun c=>?_) (fun i=>ay _) (fun i x hx=> .inl hx) (fun i es hi=> .inl hi) trivial;show ko P (xc A.la) (Bq m [.cell 2 2 true] _ _) _;simp only[xc,enter,r8,jn,l7,go_sem,aa,ae,ah,reduceCtorEq,ez,hb,hh2];refine ff hc ?_;simp only[go_sem,aa,ae,PS.mem,sv,Ac];refine Aj (b:=b) (fun i hi=>⟨?_,?_,rfl⟩) (fun i hi=>⟨.inl (mh i hi).1,(mh i hi).2⟩)
 ·simp only[ak];rw[al (show¬i=b+2 by omega),al (show¬i=b+2 by omega)]
 simp only[ak];rw[al (show¬i=b+2 by omega)]
theorem aw1{s:PS}{h v:Nat}{t:Tr}{cU cR cM:C}(hm:Mid t)(hv:v=s.av h)(hb:s.da h=some (.loc [.d (jn t.ps),.d (l7 t.ns),cU,cR,cM])):apj P A.lp s [.ic h v 0] (.agg (r8 t)):=by
 intro s2 hs;have h1:Rb s s2 h v:=hs _ List.mem_cons_self;have h2:=h1.1.cs
 have e1:s.cs h v=some [.d (jn t.ps),.d (l7 t.ns),cU,cR,cM]:=by
  unfold PS.cs;rw[bm hv.symm,hb]
 rw[e1]at h2;unfold PS.cs at h2;split at h2
 ·next hv2=>
  have hb2:s2.da h=some (.loc [.d (jn t.ps),.d (l7 t.ns),cU,cR,cM]):=by
   cases hq:s2.da h with
   |none=>rw[hq]at h2;cases h2
   |some x=>
    rw[hq]at h2
    cases x<;>first|(injection h2 with h2;rw[h2])|cases h2
  rw[←hv2];exact qz.any (aA8 A.toPr4 t hm .Wc .Wc .Wc).1 fun b mh=>aw2 A hm (m:=s2.mem) hb2 mh
 cases h2
theorem HAt.a3m{s:PS}{h lo v:Nat}{t:Tr}{us rs:List Tr}{mk:List (ByteArray×Tr)}(H:HAt s.mem h lo t us rs mk)(hm:Mid t)(hv:v=s.av h):apj P A.lp s [.ic h v 0] (.agg (r8 t)):=by
 obtain⟨uid,rid,tc,cU,cR,l1,l2,l3,n1,n2,n3,n4,n5,n6,hb,oU,oR,hm2⟩:=H;exact aw1 A hm hv hb
end
def w5T:Tr:=⟨[⟨bW,5⟩],Px⟩
def ed5:Edt:=⟨0,bW,bE,5,⟨bE,⟨0,[],[]⟩,[]⟩⟩
def edA:Edt:=⟨4,bA,bE,0,⟨bE,⟨0,[],[]⟩,[]⟩⟩
theorem anm:yf mf O0=true:=by decide+kernel
theorem avd:yf mf w5T=true:=by decide+kernel
theorem avf:so O0 ed5=(w5T,0):=by
 have h1:Di O0 bW=0:=by decide+kernel
 unfold so;rw[bm (show ed5.k=0 from rfl),show ed5.n=bW from rfl,h1];rfl
theorem ave:Gj w5T=w5T:=by
 have h1:jf Pm.n w5T.ps=w5T.ps:=rfl
 have h2:strLt bB bA=false:=by decide+kernel
 have h3:strLt bC bB=false:=by decide+kernel
 have h4:strLt bA bB=true:=by decide+kernel
 have h5:strLt bB bC=true:=by decide+kernel
 unfold Gj;rw[h1];simp only[w5T,Px,jf,List.foldl,azq,uy,N1,xz,uk,h2,h3,fk,ee]
theorem adb:applyN mf O0 ed5=(w5T,0):=by
 unfold applyN;rw[al (by decide),avf,ave,al (by simp),bm avd]
def erT:Tr:=⟨[⟨bW,5⟩],[⟨bB,⟨0,[⟨bE,0,0⟩,⟨bE,0,0⟩,⟨bE,0,0⟩,⟨bE,0,1⟩,⟨bE,0,1⟩,⟨bE,0,2⟩],[]⟩,[]⟩,⟨bC,⟨4,[],[]⟩,[bB,bA]⟩]⟩
theorem afy:(applyN mf w5T edA).2=230:=by
 have h1:Ji w5T bA=0:=by decide+kernel
 have h2:so w5T edA=(erT,0):=by
  unfold so;rw[al (by decide),al (by decide),al (by decide),al (by decide),bm (show edA.k=4 from rfl),show edA.n=bA from rfl,h1];rfl
 have h3:Gj erT=erT:=by
  have h1:jf Pm.n erT.ps=erT.ps:=rfl
  have h3:strLt bC bB=false:=by decide+kernel
  have h5:strLt bB bC=true:=by decide+kernel
  unfold Gj;rw[h1];simp only[erT,jf,List.foldl,azq,uy,N1,xz,uk,h3,fk,ee]
 have h4:yf mf erT=false:=by decide+kernel
 unfold applyN;rw[al (by decide),h2,h3,h4];rfl
theorem a8z{n a:ByteArray}{k v:Int}:X6 ⟨k,n,a,v,⟨bE,⟨0,[],[]⟩,[]⟩⟩:=⟨by simp,by simp,by simp,by simp⟩
theorem W8:∀n∈Px,a6v n:=by
 intro n hn;simp only[Px,dq,kh,or_false]at hn;rcases hn with rfl|rfl|rfl<;>exact⟨by simp,by simp,by simp,by simp⟩
theorem a0u:K2 O0:=⟨by simp[O0],by simp[O0,Px],W8⟩
theorem a8o:K2 w5T:=⟨by simp[w5T],by simp[w5T,Px],W8⟩
def dE5:D:= .agg [.int ab 0,.str ⟨#[119]⟩,.str ⟨#[]⟩,.int ab 5,.str ⟨#[]⟩,.int ab 0,.cq,.cq,.cq]
def dEA:D:= .agg [.int ab 4,.str ⟨#[97]⟩,.str ⟨#[]⟩,.int ab 0,.str ⟨#[]⟩,.int ab 0,.cq,.cq,.cq]
theorem aCg:Wk dE5 (.agg (Cx ed5)):=
 WkL.agg (.cons (Wk.refl _) (.cons (Wk.refl _) (.cons (Wk.refl _) (.cons (Wk.refl _) (.cons (Wk.refl _) (.cons (Wk.refl _) (.cons Wk.cq (.cons Wk.cq (.cons Wk.cq .nil)))))))))
theorem aCf:Wk dEA (.agg (Cx edA)):=
 WkL.agg (.cons (Wk.refl _) (.cons (Wk.refl _) (.cons (Wk.refl _) (.cons (Wk.refl _) (.cons (Wk.refl _) (.cons (Wk.refl _) (.cons Wk.cq (.cons Wk.cq (.cons Wk.cq .nil)))))))))
section
theorem aBs:r8 w5T=[.ft 2 [[.str bW,.int ab 5]],l7 Px]:=rfl
theorem atz:r8 O0=[.ft 2 [[.str bW,.int ab 2]],l7 Px]:=rfl
variable{P:Program}(A:Pr5 P)
theorem aqq{s:PS}{h lo v:Nat}{t:Tr}{us rs:List Tr}{mk:List (ByteArray×Tr)}(H:HAt s.mem h lo t us rs mk)(hv:v=s.av h){K:PS→Prop}{d:Option Nat}{r:List RI}(h4:l5 P r (s.put d (.d (.Aa [.int ab us.length,.int ab rs.length]))) K):
  F9 P A.ou [.ic h v 0] [] false d s (Ab P r K):=by
 obtain⟨x,y,h1,h2,h3⟩:=H.data;subst hv;refine qw (ds:=[_]) ?_ (aw9 A.toPr4 (jn t.ps) (l7 t.ns) (.map (mk.map fun x=>(.str x.1,.agg (r8 x.2)))) h2 h3) rfl h4
 show(match snap s (.ic h (s.av h) 0),J0 s []with|some x,some l=>some (x::l)|_,_=>none)=_
 rw[h1];rfl
theorem akv(hpr:K1 A.toPr mf):iq P A.yw [] (.bool true):=by
 refine du A.mo A.a8a (by simp) ?_;show ko P (Pl A.Eg A.Cv A.pk A.lp A.qy A.ou A.o6 A.pj) (lg _ _) _;have hP:=aAa A;have pm:=a0u.tc;have wm:=a8o.tc;have psz:M3 O0:=⟨by simp[O0,Px],fun n hn=>by obtain⟨q1,q2,q3,q4⟩:=W8 n hn;exact⟨q4,q1,q2,q3⟩⟩;obtain⟨m1,E1,H1,k1,f1⟩:=aql A.toPr4 hpr O0 pm psz anm (start []).mem 200 (fun i _=>⟨rfl,rfl⟩);simp only[ae]at E1 H1 f1;obtain⟨v,hv⟩:∃v,v=m1.av 211:=⟨_,rfl⟩;obtain⟨m2,E2,H2,k2,f2⟩:=aqp A.toPr4 hpr H1 ed5 (by decide) a0u a8z (by rw[adb]) (by simp) f1 (by omega);rw[adb]at H2;replace H2:HAt m2 211 200 w5T [O0] [] []:=H2;have v2:=k2.2;obtain⟨m3,E3,H3,k3,f3⟩:=aA7 A.toPr4 (fs:=[]) H2 (by simp) (by simp) f2 (by omega);replace H3:HAt m3 211 200 O0 [] [w5T] []:=H3;have v3:=k3.2.trans v2;obtain⟨m4,E4,H4,k4,f4⟩:=aA9 A.toPr4 (fs:=[]) H3 (by simp) (by simp) f3 (by omega);replace H4:HAt m4 211 200 w5T [O0] [] []:=H4;have v4:=k4.2.trans v3;have E5:=aw3 A.toPr4 H4 f4;have E6:=ae4 A.toPr4 hpr H4 edA (by decide) a8o a8z (by rw[afy];decide) f4;rw[afy]at E6;obtain⟨m5,E7,H5,k5,f5⟩:=aw6 A H4 f4 (by omega);have v5:=k5.2.trans v4;have E8:=aw5 A H5 f5;have E2:=E2.aEo aCg;have E6:=E6.aEo aCf;rw[v2]at E3;rw[v3]at E4;rw[v4]at E5 E6 E7;rw[v5]at E8;rw[←hv]at E1 E2 E3 E4 E5 E6 E7 E8 v2 v3 v4 v5;simp only[Pl,go_sem];refine Ao hP ?_;simp only[go_sem,reduceCtorEq];refine jr E1 ?_;simp only[go_sem,aa,jk,ae,ah,reduceCtorEq,PS.j0];refine jr E2 ?_;simp only[go_sem,aa,jk,reduceCtorEq,PS.j0];refine G3 (HAt.a3m A (by exact H2) wm (by exact v2.symm)) ?_;simp only[aBs,go_sem,aa,jk,ae,ah,reduceCtorEq];refine jr E3 ?_;simp only[go_sem,aa,jk,reduceCtorEq,PS.j0];refine aqq A (by exact H3) (by exact v3.symm) ?_;simp only[go_sem,aa,L7,reduceCtorEq];refine G3 (HAt.a3m A (by exact H3) pm (by exact v3.symm)) ?_;simp only[atz,go_sem,aa,L7,ae,ah,reduceCtorEq];refine jr E4 ?_;simp only[go_sem,aa,L7,reduceCtorEq,PS.j0];refine jr E5 ?_;simp only[go_sem,aa,L7,ae,ah,reduceCtorEq,PS.j0];refine jr E6 ?_;simp only[go_sem,aa,L7,reduceCtorEq,PS.j0];refine jr E7 ?_;simp only[go_sem,aa,L7,reduceCtorEq,PS.j0];refine jr E8 ?_;simp only[go_sem,aa,L7,reduceCtorEq,PS.j0]
end
theorem a5u{p q:List (List Sp)→Bool}(h:∀ls,p ls=true→q ls=true){f:Ft}(hf:tj p f=true):tj q f=true:=by
 unfold tj at hf⊢;simp only[cj]at hf⊢;obtain⟨h1,h2,h3,h4⟩:=hf;refine⟨h1,h2,h3,?_⟩;by_cases hp:a4u f.k=true
 ·rw[bm hp]at h4⊢;exact h _ h4
 rw[al hp]at h4⊢;exact h4
theorem ai6{p q:List (List Sp)→Bool}(h:∀ls,p ls=true→q ls=true){f:Ft}(hf:tj p f=true)(l:List Pm):p8 q f l=p8 p f l:=by
 unfold p8;rw[hf,a5u h hf]
theorem a3n{p q:List (List Sp)→Bool}(h:∀ls,p ls=true→q ls=true){t:Tr}(ht:yf p t=true):yf q t=true:=by
 unfold yf at ht⊢;simp only[cj]at ht⊢;obtain⟨h1,h2,h3,h4⟩:=ht;refine⟨h1,h2,?_,h4⟩;rw[cz]at h3⊢;intro i hi;have:=h3 i hi;unfold zw at this⊢;simp only[cj]at this⊢;obtain⟨k1,k2,k3,k4,k5,k6⟩:=this;exact⟨k1,k2,a5u h k3,k4,k5,by rw[ai6 h k3];exact k6⟩
theorem On{p:List (List Sp)→Bool}{t:Tr}(ht:yf p t=true):t.ps.length≤20∧t.ns.length≤20:=by
 unfold yf yd at ht;simp only[cj,decide_eq_true_eq]at ht;exact⟨ht.1.1,ht.2.1⟩
def Hi(s:ByteArray)(es:List (ByteArray×Int)):Int×List (ByteArray×Int):=match xu s es with
 |some n=>(n,es)
 |none=>(es.length,Oi s es.length es)
def Bj(ns:List Nd)(s:ByteArray):Nd:=ns.getD (Lp ns s).toNat n0
def a0d(ls:List (List Sp)):List (List Sp):=if mf ls=true then v7 (Hh ls)else[]
abbrev Rec:=Int→List Int→List (List Sp)→List Int→ByteArray
abbrev Bk:=List (ByteArray×Int)
def Na(out:Bk)(n:Nd):List Int:=n.ins.map fun s=>(xu s out).getD 0
def Sq(R:Rec)(t:Tr)(out:Bk)(n:Nd):ByteArray:=R n.f.k (p8 mf n.f t.ps).1 (a0d n.f.ls) (Na out n)
def Rk(R:Rec)(t:Tr)(x:Bk×Bk)(s:ByteArray):Bk×Bk:=
 ((Hi (Sq R t x.2 (Bj t.ns s)) x.1).2,Oi s (Hi (Sq R t x.2 (Bj t.ns s)) x.1).1 x.2)
def wg(R:Rec)(t:Tr)(bk:Bk):Bk×Bk:=(nf t.ns).foldl (Rk R t) (bk,[])
def a0y(a b:Bk)(n:Nd):Bool:=match xu n.n a with
 |none=>true
 |some x=>x !=(xu n.n b).getD 0
def Jw(R:Rec)(t u:Tr):List ByteArray:=(u.ns.filter (a0y (wg R t []).2 (wg R u (wg R t []).1).2)).map Nd.n
theorem J1{a b:ByteArray}:kf a b=true↔a=b:=⟨Xl,fun h=>by rw[h];exact Hq b⟩
theorem akn{a b:ByteArray}:kf a b=false↔a≠b:=by rw[←Bool.not_eq_true,J1]
theorem Yb{l:List ByteArray}{s:ByteArray}:hasB l s=true↔s∈l:=by
 unfold hasB;rw[A9];constructor
 ·rintro⟨x,hx,h⟩;rw[←J1.1 h];exact hx
 intro h;exact⟨s,h,Hq s⟩
theorem Rx(n:ByteArray)(v:Int)(es:Bk):xu n (Oi n v es)=some v:=by rw[ac6,bm (Hq n)]
theorem Kw{n m:ByteArray}(h:n≠m)(v:Int)(es:Bk):xu n (Oi m v es)=xu n es:=by rw[ac6,al (by rw[J1];exact h)]
theorem aud(s:ByteArray)(es:Bk):xu s (Hi s es).2=some (Hi s es).1:=by
 unfold Hi
 cases h:xu s es with
 |some n=>exact h
 |none=>exact Rx s _ es
theorem aaa{s r:ByteArray}{es:Bk}{k:Int}(h:xu r es=some k):xu r (Hi s es).2=some k:=by
 unfold Hi
 cases h2:xu s es with
 |some n=>exact h
 |none=>
  have:r≠s:=fun q=>by rw[q,h2]at h;cases h
  rw[Kw this];exact h
theorem auc{s:ByteArray}{es:Bk}{k:Int}(h:xu s es=some k):Hi s es=(k,es):=by unfold Hi;rw[h]
structure a6u(ns:List Nd)(L:List ByteArray):Prop where
 at_:∀i (h:i<L.length),∃n∈ns,n.n=L[i]∧L[i]∉L.take i∧∀s∈n.ins,s∈L.take i
theorem ang{n:Nd}{out:List ByteArray}:Kl n out=true↔∀s∈n.ins,s∈out:=by
 unfold Kl;rw[cz];constructor
 ·intro h s hs;obtain⟨i,hi,rfl⟩:=jd hs;have:=h i (ep.2 hi);rw[Yb]at this;simpa[cd,hi]using this
 intro h i hi;have hi:=ep.1 hi;rw[Yb]
 have:n.ins.getD i ⟨#[]⟩=n.ins[i]:=by simp[cd,hi]
 rw[this];exact h _ (cy hi)
theorem ai3{ns:List Nd}{L:List ByteArray}(h:a6u ns L){n:Nd}(hn:n∈ns)(h1:n.n∉L)(h2:∀s∈n.ins,s∈L):a6u ns (L++[n.n])where
 at_ i hi:=by
  by_cases hlt:i<L.length
  ·obtain⟨m,k1,k2,k3,k4⟩:=h.at_ i hlt;have e1:(L++[n.n])[i]=L[i]:=aF6 hlt;have e2:(L++[n.n]).take i=L.take i:=ayw (by omega);rw[e1,e2];exact⟨m,k1,k2,k3,k4⟩
  have Ds:i=L.length:=by simp at hi;omega
  subst Ds
  have e1:(L++[n.n])[L.length]=n.n:=by simp
  have e2:(L++[n.n]).take L.length=L:=by simp
  rw[e1,e2];exact⟨n,hn,rfl,h1,h2⟩
theorem ai2(ns:List Nd):∀k L,a6u ns L→a6u ns (Lb ns k L):=by
 intro k
 induction k with
 |zero=>intro L h;exact h
 |succ k ih=>
  intro L h;unfold Lb;split
  ·exact h
  rename_i hne;refine ih _ ?_;rcases Fy (a2s ns L) ns.length with ⟨h1,_⟩|⟨j,hj,hp,he,_⟩
  ·exfalso;apply hne;unfold Kc;rw[h1];decide
  have e:Kc ns L=(j:Int):=he;rw[e]
  have e2:ns.getD (j:Int).toNat n0=ns[j]:=by simp[cd,hj]
  have e3:ns.getD j n0=ns[j]:=by simp[cd,hj]
  rw[e2];unfold a2s at hp;rw[e3]at hp;simp only[cj,pz]at hp;refine ai3 h (cy hj) (fun q=>?_) (ang.1 hp.2);rw[Yb.2 q]at hp;cases hp.1
theorem Xy(ns:List Nd):a6u ns (nf ns):=ai2 ns _ _ ⟨fun i h=>by simp at h⟩
theorem a6u.nodup{ns:List Nd}{L:List ByteArray}(h:a6u ns L):L.Nodup:=by
 rw[D1,Bt];intro i j hi hj Io e;obtain⟨_,_,_,k,_⟩:=h.at_ j hj;apply k;rw[←e];exact List.mem_take_iff_getElem.2 ⟨i,by omega,rfl⟩
theorem cover{L:List ByteArray}:∀{M:List ByteArray},L.Nodup→(∀s∈L,s∈M)→M.length≤L.length→∀s∈M,s∈L:=by
 induction L with
 |nil=>
  intro M _ _ hl s hs;have:M=[]:=ix (by simpa using hl);subst this;exact hs
 |cons a r ih=>
  intro M hn hs hl s hsM;rw[aF0]at hn;obtain⟨p,q,rfl⟩:=a7b (hs a (by simp));by_cases e:s=a
  ·subst e;simp
  refine aad _ (ih (M:=p++q) hn.2 (fun x hx=>?_) (by simp at hl⊢;omega) s ?_)
  ·have:=hs x (by simp[hx]);have hxa:x≠a:=fun w=>hn.1 (w▸hx);simp only[jm,dq]at this⊢;rcases this with h|h|h
   ·exact .inl h
   ·exact absurd h hxa
   exact .inr h
  simp only[jm,dq]at hsM⊢;rcases hsM with h|h|h
  ·exact .inl h
  ·exact absurd h e
  exact .inr h
structure A8(t:Tr):Prop where
 node:∀n∈t.ns,Bj t.ns n.n=n
 all:∀n∈t.ns,n.n∈nf t.ns
 ata:∀n∈t.ns,tj mf n.f=true
 pms:yd t.ps=true
 nums:∀n∈t.ns,(p8 mf n.f t.ps).2=0
 nodup:(t.ns.map Nd.n).Nodup
theorem a4k{l:List ByteArray}(h:∀i,i<l.length→ui l i=true):l.Pairwise fun a b=>strLt a b=true:=by
 have adj:∀i (hi:i+1<l.length),strLt (l[i]'(by omega)) l[i+1]=true:=by
  intro i hi;have:=h (i+1) hi;unfold ui at this
  have e1:i<l.length:=by omega
  simpa[hi,e1]using this
 rw[Bt];intro i j hi hj Io;obtain⟨d,rfl⟩:∃d,j=i+1+d:=⟨j-(i+1),by omega⟩;clear Io
 induction d with
 |zero=>exact adj i hj
 |succ d ih=>exact Oq (ih (by omega)) (adj (i+1+d) hj)
theorem a3p{a b:ByteArray}(h:strLt a b=true):a≠b:=fun q=>by
 subst q;have:=T8 h;rw[h]at this;cases this
theorem aet{l:List ByteArray}(h:∀i,i<l.length→ui l i=true):l.Nodup:=by
 rw[D1];exact(a4k h).imp a3p
theorem Th{ns:List Nd}(hd:(ns.map Nd.n).Nodup){n:Nd}(hn:n∈ns):Bj ns n.n=n:=by
 obtain⟨k,hk,rfl⟩:=jd hn
 have e:Lp ns ns[k].n=(k:Int):=by
  refine Iq hk (by simp[cd,hk,Hq]) fun i hi=>?_
  have Ds:i<ns.length:=by omega
  have e1:ns.getD i n0=ns[i]:=by simp[cd,Ds]
  rw[e1,akn];intro q;have:=Bt.1 (D1.1 hd) i k (by simpa using Ds) (by simpa using hk) hi;simp at this;exact this q
 unfold Bj;rw[e];simp[cd,hk]
theorem Qm{t:Tr}(h:yf mf t=true):A8 t:=by
 unfold yf at h;simp only[cj,decide_eq_true_eq,cz,ep,beq_iff_eq]at h;obtain⟨h1,h2,h3,h4⟩:=h;have p:=fun i hi=>abk (h3 i hi);have eo:=a4e (t:=t) (fun i hi=>(p i hi).1) (fun i hi=>(p i hi).2.1);rw[eo]at h4;have hnd:(t.ns.map Nd.n).Nodup:=aet fun i hi=>(p i (by simpa using hi)).2.1
 have hf:∀n∈t.ns,tj mf n.f=true:=by
  intro n hn;obtain⟨i,hi,rfl⟩:=jd hn;have:=(p i hi).2.2;simpa[cd,hi]using this
 have Tl:∀n∈t.ns,(p8 mf n.f t.ps).2=0:=by
  intro n hn;obtain⟨i,hi,rfl⟩:=jd hn;have:=h3 i hi;unfold zw at this;simp only[cj,beq_iff_eq]at this;have:=this.2.2.2.2.2;simpa[cd,hi]using this
 refine⟨fun n hn=>Th hnd hn,fun n hn=>?_,hf,h1,Tl,hnd⟩;have hok:=Xy t.ns
 have aG4:∀s∈nf t.ns,s∈t.ns.map Nd.n:=by
  intro s hs;obtain⟨i,hi,rfl⟩:=jd hs;obtain⟨m,k1,k2,_⟩:=hok.at_ i hi;rw[←k2];exact iw.2 ⟨m,k1,rfl⟩
 have hl:(nf t.ns).length=(t.ns.map Nd.n).length:=by rw[ag];omega
 exact cover hok.nodup aG4 (by omega) _ (iw.2 ⟨n,hn,rfl⟩)
theorem aim{o1 o2:Bk}{n:Nd}(h:∀s∈n.ins,xu s o1=xu s o2):Na o1 n=Na o2 n:=by
 unfold Na
 exact Cy fun s hs=>by rw[h s hs]
theorem ahu{R:Rec}{t:Tr}{o1 o2:Bk}{n:Nd}(h:∀s∈n.ins,xu s o1=xu s o2):Sq R t o1 n=Sq R t o2 n:=by unfold Sq;rw[aim h]
def Dv(R:Rec)(t:Tr)(bk:Bk)(i:Nat):Bk×Bk:=((nf t.ns).take i).foldl (Rk R t) (bk,[])
theorem Rj{R:Rec}{t:Tr}{bk:Bk}{i:Nat}(h:i<(nf t.ns).length):Dv R t bk (i+1)=Rk R t (Dv R t bk i) (nf t.ns)[i]:=by
 unfold Dv;rw[V1 h,mc];rfl
theorem Ul(R:Rec)(t:Tr)(bk:Bk):Dv R t bk (nf t.ns).length=wg R t bk:=by unfold Dv wg;rw[dt]
theorem Hz{t:Tr}(hr:A8 t){i:Nat}(h:i<(nf t.ns).length):∃n∈t.ns,Bj t.ns (nf t.ns)[i]=n∧n.n=(nf t.ns)[i]∧(nf t.ns)[i]∉(nf t.ns).take i∧∀s∈n.ins,s∈(nf t.ns).take i:=by
 obtain⟨n,h1,h2,h3,h4⟩:=(Xy t.ns).at_ i h;exact⟨n,h1,by rw[←h2];exact hr.node n h1,h2,h3,h4⟩
theorem akg{α:Type}{l:List α}{i:Nat}(h:i<l.length){x:α}:x∈l.take (i+1)↔x∈l.take i∨x=l[i]:=by
 rw[V1 h,jm,X7]
structure aHx(R:Rec)(t:Tr)(bk:Bk)(i:Nat):Prop where
 nn:∀s,s∉(nf t.ns).take i→xu s (Dv R t bk i).2=none
 sm:∀s∈(nf t.ns).take i,∃k,xu s (Dv R t bk i).2=some k∧xu (Sq R t (Dv R t bk i).2 (Bj t.ns s)) (Dv R t bk i).1=some k
 kp:∀r k,xu r bk=some k→xu r (Dv R t bk i).1=some k
theorem amg{α:Type}{l:List α}{i j:Nat}(h:i≤j){x:α}(hx:x∈l.take i):x∈l.take j:=by
 have:l.take i=(l.take j).take i:=by rw[List.take_take,akd h]
 rw[this]at hx;exact Ix hx
theorem aCq(R:Rec){t:Tr}(hr:A8 t)(bk:Bk):∀i,i≤(nf t.ns).length→aHx R t bk i:=by
 intro i
 induction i with
 |zero=>intro _;exact⟨fun s _=>rfl,fun s hs=>by simp at hs,fun r k h=>h⟩
 |succ i ih=>
  intro hi
  have hl:i<(nf t.ns).length:=by omega
  have I:=ih (by omega);obtain⟨n,hn,Bc,hnn,aoc,aiw⟩:=Hz hr hl;have re:=Rj (R:=R) (bk:=bk) hl
  generalize hx:Dv R t bk i=x at*
  generalize hs:(nf t.ns)[i]=s at*
  unfold Rk at re;rw[Bc]at re
  have h2:(Dv R t bk (i+1)).2=Oi s (Hi (Sq R t x.2 n) x.1).1 x.2:=by rw[re]
  have h1:(Dv R t bk (i+1)).1=(Hi (Sq R t x.2 n) x.1).2:=by rw[re]
  have I1:=I.nn;have I2:=I.sm;have I3:=I.kp;rw[hx]at I1 I2 I3
  have K7:∀y,y∈(nf t.ns).take (i+1)↔y∈(nf t.ns).take i∨y=s:=fun y=>by rw[akg hl,hs]
  have inp:∀y∈(nf t.ns).take (i+1),∀z∈(Bj t.ns y).ins,z≠s∧z∈(nf t.ns).take i:=by
   intro y hy z hz
   have:z∈(nf t.ns).take i:=by
    rcases(K7 y).1 hy with h|h
    ·obtain⟨j,hj,rfl⟩:=jd h;rw[a2u]at hz
     have hj':j<i:=by rw[dw]at hj;omega
     obtain⟨m,k1,k2,k3,k4,k5⟩:=Hz hr (show j<(nf t.ns).length by omega);rw[k2]at hz;exact amg (by omega) (k5 z hz)
    subst h;rw[Bc]at hz;exact aiw z hz
   exact⟨fun q=>aoc (q▸this),this⟩
  refine⟨fun y hy=>?_,fun y hy=>?_,fun r k h=>?_⟩
  ·rw[h2,Kw (fun q=>hy ((K7 y).2 (.inr q)))];exact I1 y fun q=>hy ((K7 y).2 (.inl q))
  ·have hc:Sq R t (Dv R t bk (i+1)).2 (Bj t.ns y)=Sq R t x.2 (Bj t.ns y):=by
    refine ahu fun z hz=>?_;rw[h2];exact Kw (inp y hy z hz).1 _ _
   rw[hc,h1,h2];rcases(K7 y).1 hy with h|h
   ·obtain⟨k,k1,k2⟩:=I2 y h;exact⟨k,by rw[Kw (fun q:y=s=>aoc (by rw[←q];exact h))];exact k1,aaa k2⟩
   subst h;rw[Bc];exact⟨_,Rx _ _ _,aud _ _⟩
  rw[h1];exact aaa (I3 r k h)
theorem ar5(R:Rec){t:Tr}(hr:A8 t)(bk:Bk):
  (∀n∈t.ns,∃k,xu n.n (wg R t bk).2=some k∧xu (Sq R t (wg R t bk).2 n) (wg R t bk).1=some k)∧(∀s,(∀n∈t.ns,n.n≠s)→xu s (wg R t bk).2=none):=by
 have I:=aCq R hr bk _ (ay _);obtain⟨I1,I2,I3⟩:=I;rw[Ul,dt]at I1 I2;refine⟨fun n hn=>?_,fun s hs=>I1 s fun q=>?_⟩
 ·obtain⟨k,k1,k2⟩:=I2 n.n (hr.all n hn);rw[hr.node n hn]at k2;exact⟨k,k1,k2⟩
 obtain⟨i,hi,rfl⟩:=jd q;obtain⟨n,h1,_,h2,_⟩:=Hz hr hi;exact hs n h1 h2
structure Sim(t u:Tr)(σ:ByteArray→ByteArray):Prop where
 inj:∀n∈t.ns,∀m∈t.ns,σ n.n=σ m.n→n.n=m.n
 nd:∀m∈u.ns,∃n∈t.ns,m.n=σ n.n∧m.ins=n.ins.map σ∧m.f.k=n.f.k∧(p8 mf m.f u.ps).1=(p8 mf n.f t.ps).1∧m.f.ls=n.f.ls
theorem a4y{t:Tr}(hr:A8 t){n:Nd}(hn:n∈t.ns){s:ByteArray}(hs:s∈n.ins):∃m∈t.ns,m.n=s:=by
 obtain⟨i,hi,e⟩:=jd (hr.all n hn);obtain⟨m,k1,k2,k3,k4,k5⟩:=Hz hr hi
 have:m=n:=by rw[←k2,e];exact hr.node n hn
 subst this;obtain⟨j,hj,rfl⟩:=jd (k5 s hs)
 have hj':j<(nf t.ns).length:=by rw[dw]at hj;omega
 obtain⟨q,q1,_,q2,_⟩:=Hz hr hj';exact⟨q,q1,by rw[q2,a2u]⟩
theorem are{l:List Pm}(h:yd l=true):(l.map Pm.n).Pairwise fun a b=>strLt a b=true:=by
 unfold yd at h;simp only[cj,decide_eq_true_eq,cz,ep]at h;refine a4k fun i hi=>?_
 have Ds:i<l.length:=by simpa using hi
 have:=h.2 i Ds;unfold a7l at this;rw[ax Ds]at this;simp only[cj]at this;exact this.2.2
theorem a9e{l:List Pm}(h:yd l=true):(l.map Pm.n).Nodup:=by
 rw[D1];exact(are h).imp a3p
theorem anx(l:List Pm)(p:Pm):Ia (l++[p])=Oi p.n p.v (Ia l):=by unfold Ia;rw[mc];rfl
theorem al6{l:List Pm}{s:ByteArray}(h:∀p∈l,p.n≠s):xu s (Ia l)=none:=by
 cases hg:xu s (Ia l)with
 |none=>rfl
 |some x=>
  obtain⟨a,ha,hs⟩:=Qz hg;obtain⟨p,hp,e⟩:=Y6 l _ ha
  injection e with e1 e2
  exact absurd (by rw[←e1];exact(J1.1 hs).symm) (h p hp)
theorem al5{l:List Pm}(hn:(l.map Pm.n).Nodup){p:Pm}(hp:p∈l):xu p.n (Ia l)=some p.v:=by
 have:∀r:List Pm,(r.reverse.map Pm.n).Nodup→∀p∈r.reverse,xu p.n (Ia r.reverse)=some p.v:=by
  intro r
  induction r with
  |nil=>intro _ p hp;simp at hp
  |cons x r ih=>
   intro hn p hp;rw[uy]at hn hp⊢;rw[anx];rw[fu,W1]at hn;rcases jm.1 hp with h|h
   ·have:p.n≠x.n:=hn.2.2 p.n (iw.2 ⟨p,h,rfl⟩) x.n (by simp);rw[Kw this];exact ih hn.1 p h
   simp only[X7]at h;subst h;exact Rx _ _ _
 have h2:=this l.reverse (by rwa[ug]) p (by rwa[ug])
 rwa[ug]at h2
theorem aj7{p:Nat→Bool}{n:Nat}(h:¬xi p n<0):∃k,k<n∧p k=true∧xi p n=k:=by
 rcases Fy p n with ⟨h1,_⟩|⟨k,h1,h2,h3,_⟩
 ·omega
 exact⟨k,h1,h2,h3⟩
theorem aeh{t:Tr}{s:ByteArray}(h:¬Di t s<0):∃k,∃hk:k<t.ps.length,t.ps[k].n=s∧Di t s=k:=by
 obtain⟨k,hk,h1,h2⟩:=aj7 h
 have e:t.ps.getD k p0=t.ps[k]:=by simp[cd,hk]
 simp only[e]at h1;exact⟨k,hk,J1.1 h1,h2⟩
theorem uniq{l:List Nd}(hn:(l.map Nd.n).Nodup){a b:Nd}(ha:a∈l)(hb:b∈l)(h:a.n=b.n):a=b:=by
 have h1:=Th hn ha;have h2:=Th hn hb;rw[←h1,h,h2]
theorem agm{pr:List (List Sp)→Bool}{t u:Tr}{e:Edt}(h:applyN pr t e=(u,0)):(so t e).2=0∧u=Gj (so t e).1∧yf pr u=true:=by
 unfold applyN at h;split at h
 ·injection h with _ h;cases h
 split at h
 ·rename_i h2
  injection h with _ h
  exact absurd h h2
 rename_i h2;split at h
 ·rename_i h3
  injection h with h _
  subst h;exact⟨Decidable.of_not_not h2,rfl,h3⟩
 injection h with _ h;cases h
theorem abi{t:Tr}(ht:A8 t){n:Nd}(hn:n∈t.ns):(p8 mf n.f t.ps).1=(n.f.vs.map fun v=>(ov v t.ps).1)∧∀v∈n.f.vs,(ov v t.ps).2=true:=by
 have h:=ht.nums n hn;unfold p8 at h⊢;rw[ht.ata n hn,ht.pms]at h⊢;simp only[Bool.true_eq_false,ee]at h⊢;split at h
 ·rename_i h2;rw[bm h2];exact⟨rfl,cz.1 h2⟩
 cases h
section
variable{P:Program}(A:Pr6 P)
theorem amu{m:Mem}{id b:Nat}{es:Bk}(s:ByteArray)(hm:m.mp id=some (es.map cE))(hid:id<b)(mh:w8 m b)(hl:es.length≤2^40):
  qz P A.u9 m [.kj id (m.av id),.d (.str s)] (aq3 m id ((Hi s es).2.map cE)) (.d (.int ab (Hi s es).1)):=by
 refine mq A.mo A.Sv (by simp) b (fun c=>?_) (fun i=>ay _) (fun i x hx=> .inl hx) (fun i es' hi=>?_) trivial
 ·show ko P Bu (Bq m [.tmp 4] _ _) _;have hk:=Y8 s es
  cases hg:xu s es with
  |some n=>
   rw[hg]at hk;simp only[ir]at hk;simp only[Bu,enter,Hi,hg,go_sem,aa,reduceCtorEq,PS.ents,ez,Cj,PS.mem,hm,hk,sv,Ac];refine fun i=>⟨.inr ⟨rfl,rfl⟩,.inr ⟨?_,rfl⟩⟩;show lb m.mp id _ i=m.mp i;simp only[ak];split
   ·rename_i h;rw[h,hm]
   rfl
  |none=>
   rw[hg]at hk;simp only[av1]at hk;have hp:=ahw s es.length es;simp only[Bu,enter,Hi,hg,go_sem,aa,reduceCtorEq,PS.ents,ez,Cj,PS.mem,ag,hm,hk,hp,ag,sv,Ac];exact fun i=>⟨.inr ⟨rfl,rfl⟩,.inr ⟨rfl,rfl⟩⟩
 change lb m.mp id _ i=some es' at hi;simp only[ak]at hi;split at hi
 ·injection hi with hi
  subst hi;refine .inr fun e he=>?_;obtain⟨x,_,rfl⟩:=iw.1 he;trivial
 exact .inl hi
end
end Go.PI
namespace Go.PI
open Go Go.Proofs
section
variable{P:Program}{K:PS→Prop}{s:PS}{r:List RI}{af:List Nat}
theorem Wb{d sz b:Nat}{x y:me}{dd ys:List (List D)}{osz:Option Nat}(hx:se s (s.base+d) sz dd (x.ev s))(hy:qm s (y.ev s)=some (ys,osz))(B6:osz.getD sz=sz)
  (Ae:(ys.all fun e=>e.all D.one)=true)(hb:(dd.length+ys.length)*b≤2^47)(hne:ys≠[])(h:∀s',Grown s s' d (s.base+d) sz (dd++ys)→s'.ctx=s.ctx→s.av (s.base+d)≤s'.av (s.base+d)→l5 P r s' K):
  l5 P (⟨some d,.app sz b x y,none,af⟩::r) s K:=by
 rw[Lo];have hl:0<ys.length:=a1i.2 hne;rcases hx with ⟨rfl,hx⟩|⟨asm,hx,hblk⟩
 ·simp only[jv.og,hx,hy,B6,j6];rw[bm trivial,al (by omega),bm (by simpa using hb),Et];refine h _ ⟨?_,?_,?_,rfl,rfl⟩ rfl (by simp[lk.app,PS.put,PS.ta,ck])
  ·simp[lk.app,PS.put,PS.ta,ck]
  ·simp[lk.app,PS.put,PS.ta]
  intro j hj;simp[lk.app,PS.put,PS.ta,gu _ _ _ _ hj]
 have he:s.dd (s.base+d) (s.av (s.base+d))=some (sz,dd):=by
  unfold PS.dd;rw[bm rfl,hblk]
 simp only[jv.og,hx,hy,B6,he];rw[bm trivial,bm ⟨Ae,trivial,trivial,hb⟩,Et];refine h _ ⟨?_,?_,?_,rfl,rfl⟩ rfl (ay _)
 ·simp[lk.app,PS.put,PS.ta]
 ·simp[lk.app,PS.put,PS.ta]
 intro j hj;simp[lk.app,PS.put,PS.ta]
end
def HT(tab:Value)(c:Nat→V×Value):Prop:=∃i,c i=(.no,tab)
def a6r(k:Int)(nums:List Int)(ls:List (List Sp))(ins:List Int):Prop:=
 (0≤k∧k<100)∧nums.length≤100∧(∀x∈nums,-(2^60)≤x∧x≤2^60)∧ls.length≤100∧(∀l∈ls,l.length≤100∧∀p∈l,SmL p)∧ins.length≤100∧∀x∈ins,-(2^60)≤x∧x≤2^60
def aun(P:Program)(tab:Value)(f:Nat)(R:Rec):Prop:=∀(c:Nat→V×Value) (k:Int) (nums:List Int) (ls:List (List Sp)) (ins:List Int),HT tab c→a6r k nums ls ins→
 Oc P c f [.int ab k,.ft 1 (nums.map ve),.agg [lj ls],.ft 1 (ins.map ve)] (.str (R k nums ls ins))
theorem Oc.args{P:Program}{c:Nat→V×Value}{f:Nat}{xs ys:List D}{r:D}(h:Oc P c f xs r)(hl:ys.length=xs.length)(hw:∀(i:Nat) (x y:D),xs[i]? =some x→ys[i]? =some y→Wk y x):Oc P c f ys r:=
 ⟨h.1,fun G w vs hc htk hG hl' hr=>h.2 G w vs hc htk hG (by omega) fun i x v hx hv=>by
  have hi:i<ys.length:=by have:=(aw.1 hx).1;omega
  exact hw i x _ hx (ax hi) G v (hr i _ v (ax hi) hv)⟩
def a7i(m:Mem)(ib o:Nat)(x:Bk×Bk):Mem:=⟨m.da,lb m.av o (m.av o+1),lb (lb m.mp ib (some (x.1.map cE))) o (some (x.2.map cE))⟩
structure RIv(m:Mem)(c:Nat→V×Value)(ib b:Nat)(t:Tr)(x:Bk×Bk)(s':PS):Prop where
 base:s'.base=b
 t1:s'.tmp 1= .kj ib (s'.av ib)
 t2:s'.tmp 2= .ic (b+2) (s'.av (b+2)) 0
 b2:s'.da (b+2)=some (.loc [.d (.ft 2 (t.ps.map tx)),.d (.ft 5 (t.ns.map wz))])
 t5:s'.tmp 5= .kj (b+16) (s'.av (b+16))
 mo:s'.mp (b+16)=some (x.2.map cE)
 mi:s'.mp ib=some (x.1.map cE)
 vo:s'.av (b+16)=m.av (b+16)+1
 low:∀j,j<b→s'.da j=m.da j∧s'.av j=m.av j∧(j≠ib→s'.mp j=m.mp j)
 high:∀j,b+100≤j→s'.da j=none∧s'.mp j=none
 tc:∀j,b≤j→j≠b+16→s'.mp j=none
 ctx:s'.ctx=c
section
variable{P:Program}(A:Pr6 P){ρ:V5}
theorem ae6(L:a71 P ρ)(hρ:ρ.f 6=A.ec)(ls:List (List Sp))(h1:ls.length≤2^30)(h2:∀l∈ls,l.length≤2^30):
  iq P A.xr [.agg [lj ls]] (.Aa [.agg [if mf ls=true then a08 ls else .cq],.int ab (if mf ls=true then 0 else 170)]):=by
 have hr:=aq9 A.toPr3 L hρ ls h1 h2;refine du A.mo A.Vg (by simp) ?_;show ko P (Gq A.uq) (lg _ _) _;have eL:lj ls= .ft 1 (ls.map fun l=>[vz l]):=rfl;rw[eL]at hr⊢;have ho:=a4g ls;generalize a08 ls=X at hr ho⊢;simp only[Gq,go_sem,aa];refine ff hr ?_;cases hp:mf ls
 ·simp only[go_sem,aa]
 cases X<;>first|(cases ho;done)|simp only[go_sem,aa]
theorem ary{t:Tr}{s:ByteArray}{n:Nd}(hn:n∈t.ns)(h1:Bj t.ns s=n)(h2:n.n=s):a9j t.ns s= .te (wz n) 0:=by
 have hx:St t.ns s=true:=by
  unfold St;rw[A9];exact⟨n,hn,by rw[h2];exact Hq s⟩
 rw[a5c]at hx;unfold a9j;rw[bm (of_decide_eq_true hx)];unfold Bj at h1;rw[h1]
theorem ayd(ls:List (List Sp)):Wk (if mf ls=true then a08 ls else .cq) (lj (a0d ls)):=by
 unfold a0d a08;split
 ·split
  ·rename_i h
   have:v7 (Hh ls)=[]:=by
    have:=(Ar (Hh ls)).length_eq;rw[h]at this;rw[h];exact ix (by simpa using this)
   rw[this];exact Wk.cq
  exact Wk.refl _
 exact Wk.cq
theorem ao7{L:List ByteArray}:∀{M:List ByteArray},L.Nodup→(∀s∈L,s∈M)→L.length≤M.length:=by
 induction L with
 |nil=>intro M _ _;exact a3g _
 |cons a r ih=>
  intro M hn hs;rw[aF0]at hn;obtain⟨p,q,rfl⟩:=a7b (hs a (by simp))
  have:=ih (M:=p++q) hn.2 fun x hx=>by
   have:=hs x (by simp[hx]);have hxa:x≠a:=fun w=>hn.1 (w▸hx);simp only[jm,dq]at this⊢;rcases this with h|h|h
   ·exact .inl h
   ·exact absurd h hxa
   exact .inr h
  simp at this⊢;omega
theorem a4d(ns:List Nd):(nf ns).length≤ns.length:=by
 have h:=ao7 (M:=ns.map Nd.n) (Xy ns).nodup fun s hs=>by
  obtain⟨i,hi,rfl⟩:=jd hs;obtain⟨m,k1,k2,_⟩:=(Xy ns).at_ i hi;rw[←k2];exact iw.2 ⟨m,k1,rfl⟩
 rwa[ag]at h
def RIx(m:Mem)(c:Nat→V×Value)(ib b:Nat)(t:Tr)(x:Bk×Bk)(i:Nat)(s':PS):Prop:=
 RIv m c ib b t x s'∧s'.tmp 18= .d (.ft 1 ((nf t.ns).map nh))∧s'.tmp 19= .d (.int ab ((nf t.ns).length:Nat))∧s'.tmp 20= .d (.int ab (i:Nat))
def RIy(m:Mem)(c:Nat→V×Value)(ib b:Nat)(t:Tr)(x:Bk×Bk)(i:Nat)(s:ByteArray)(n:Nd)(X:D)(s':PS):Prop:=
 RIx m c ib b t x i s'∧s'.tmp 7= .d (.str s)∧s'.tmp 8= .d (.te (wz n) 0)∧s'.tmp 9= .d (.ft 1 ((p8 mf n.f t.ps).1.map ve))∧s'.tmp 11= .ic (b+11) (s'.av (b+11)) 0∧s'.da (b+11)=some (.loc [.d X])
theorem aht{m:Mem}{M:PS}{ib b:Nat}{x:Bk×Bk}(hib:ib<b)(mh:w8 m b)(mo:M.mp (b+16)=some (x.2.map cE))(mi:M.mp ib=some (x.1.map cE))(vo:M.av (b+16)=m.av (b+16)+1)
  (low:∀j,j<b→M.da j=m.da j∧M.av j=m.av j∧(j≠ib→M.mp j=m.mp j))(tc:∀j,b≤j→j≠b+16→M.mp j=none):
  Leaves m M (a7i m ib (b+16) x) (.kj (b+16) (m.av (b+16)+1)):=by
 have dE:∀(l:Bk) (e:D×C),e∈l.map cE→Nj (a7i m ib (b+16) x) e.2:=by
  intro l e he;obtain⟨y,_,rfl⟩:=iw.1 he;trivial
 have hmp:∀i,(a7i m ib (b+16) x).mp i=if i=b+16 then some (x.2.map cE)else if i=ib then some (x.1.map cE)else m.mp i:=fun i=>by simp only[a7i,ak]
 have zc:∀i,(a7i m ib (b+16) x).av i=if i=b+16 then m.av (b+16)+1 else m.av i:=fun i=>by simp only[a7i,ak]
 refine⟨fun i=>⟨?_,?_⟩,fun i=>?_,fun i y hi=> .inl hi,fun i es hi=>?_,?_⟩
 ·show m.da i=none∨_;by_cases h:i<b
  ·have e:i≠b+16:=by omega
   refine .inr ⟨(low i h).1.symm,?_⟩;rw[zc,al e];exact(low i h).2.1.symm
  exact .inl (mh i (by omega)).1
 ·rw[hmp,zc];by_cases h:i=b+16
  ·rw[bm h,bm h,h];exact .inr ⟨mo.symm,vo.symm⟩
  rw[al h,al h];by_cases h2:i=ib
  ·rw[bm h2,h2];exact .inr ⟨mi.symm,(low ib hib).2.1.symm⟩
  rw[al h2];by_cases h3:i<b
  ·exact .inr ⟨((low i h3).2.2 h2).symm,(low i h3).2.1.symm⟩
  exact .inl (mh i (by omega)).2
 ·rw[zc];split
  ·rename_i h;rw[h];omega
  exact ay _
 ·rw[hmp]at hi;split at hi
  ·injection hi with hi;subst hi;exact .inr (dE _)
  split at hi
  ·injection hi with hi;subst hi;exact .inr (dE _)
  exact .inl hi
 show m.av (b+16)+1≤(a7i m ib (b+16) x).av (b+16);rw[zc,bm rfl];exact ay _
theorem aec(n:ByteArray)(v:Int):∀es:Bk,(Oi n v es).length≤es.length+1
 |[]=>ay _
 |(a,b)::r=>by
  unfold Oi;split
  ·simp
  simpa using aec n v r
theorem a9a{R:Rec}{t:Tr}{bk:Bk}{N:Nat}(hl:bk.length≤N)(hN:N+1000≤2^30)(hbk:∀e∈bk,0≤e.2∧e.2<2^30)(i:Nat)(hi:i≤1000:=by omega):
  (Dv R t bk i).1.length≤N+i∧(∀e∈(Dv R t bk i).1,0≤e.2∧e.2<2^30)∧∀e∈(Dv R t bk i).2,0≤e.2∧e.2<2^30:=by
 induction i with
 |zero=>exact⟨hl,hbk,fun e he=>by cases he⟩
 |succ i ih=>
  obtain⟨h1,h2,h3⟩:=ih (by omega);by_cases hlt:i<(nf t.ns).length
  ·rw[Rj hlt]
   generalize Dv R t bk i=x at*
   have key:∀r:ByteArray,(Hi r x.1).2.length≤x.1.length+1∧(0≤(Hi r x.1).1∧(Hi r x.1).1<2^30)∧∀e∈(Hi r x.1).2,0≤e.2∧e.2<2^30:=by
    intro r;unfold Hi
    cases hg:xu r x.1 with
    |some z=>
     obtain⟨a,ha,_⟩:=Qz hg;exact⟨Nat.le_succ _,h2 _ ha,h2⟩
    |none=>
     have hb:(0:Int)≤x.1.length∧(x.1.length:Int)<2^30:=by omega
     refine⟨aec _ _ _,hb,fun e he=>?_⟩;rcases a4b he with rfl|he
     ·exact hb
     exact h2 e he
   unfold Rk;obtain⟨k1,k2,k3⟩:=key (Sq R t x.2 (Bj t.ns (nf t.ns)[i]));refine⟨by simp only;omega,k3,fun e he=>?_⟩;rcases a4b he with rfl|he
   ·exact k2
   exact h3 e he
  have e:Dv R t bk (i+1)=Dv R t bk i:=by
   unfold Dv;rw[tz (by omega),tz (by omega)]
  rw[e];exact⟨by omega,h2,h3⟩
theorem RIv.V8{m:Mem}{c:Nat→V×Value}{ib b:Nat}{t:Tr}{x:Bk×Bk}{s' s2:PS}(I:RIv m c ib b t x s')(hib:ib<b)(hb:s2.base=s'.base)(ht:∀j∈[1,2,5],s2.tmp j=s'.tmp j)
  (hk:∀j,j≠b+11→j≠b+59→j≠b+60→s2.da j=s'.da j∧s2.av j=s'.av j)(hmp:s2.mp=s'.mp)(hcx:s2.ctx=s'.ctx):RIv m c ib b t x s2:=by
 have k2:=hk (b+2) (by omega) (by omega) (by omega);have k16:=hk (b+16) (by omega) (by omega) (by omega);have ki:=hk ib (by omega) (by omega) (by omega);refine⟨hb.trans I.base,?_,?_,?_,?_,by rw[hmp];exact I.mo,by rw[hmp];exact I.mi,by rw[k16.2];exact I.vo,fun j hj=>?_,fun j hj=>?_,fun j hj hne=>by rw[hmp];exact I.tc j hj hne,hcx.trans I.ctx⟩
 ·rw[ht 1 (by simp),ki.2];exact I.t1
 ·rw[ht 2 (by simp),k2.2];exact I.t2
 ·rw[k2.1];exact I.b2
 ·rw[ht 5 (by simp),k16.2];exact I.t5
 ·obtain⟨a1,a2⟩:=hk j (by omega) (by omega) (by omega);rw[a1,a2,hmp];exact I.low j hj
 rw[(hk j (by omega) (by omega) (by omega)).1,hmp];exact I.high j hj
theorem RIy.V8{m:Mem}{c:Nat→V×Value}{ib b:Nat}{t:Tr}{x:Bk×Bk}{i:Nat}{s:ByteArray}{n:Nd}{X:D}{s' s2:PS}(I:RIy m c ib b t x i s n X s')(hib:ib<b)(hb:s2.base=s'.base)
  (ht:∀j∈[1,2,5,7,8,9,11,18,19,20],s2.tmp j=s'.tmp j)(hk:∀j,j≠b+59→j≠b+60→s2.da j=s'.da j∧s2.av j=s'.av j)(hmp:s2.mp=s'.mp)(hcx:s2.ctx=s'.ctx):RIy m c ib b t x i s n X s2:=by
 obtain⟨⟨I1,I2,I3,I4⟩,I5,I6,I7,I8,I9⟩:=I;have k11:=hk (b+11) (by omega) (by omega);refine⟨⟨I1.V8 hib hb (fun j hj=>ht j (by simp at hj⊢;omega)) (fun j _ h h2=>hk j h h2) hmp hcx,?_,?_,?_⟩,?_,?_,?_,?_,?_⟩
 ·rw[ht 18 (by simp)];exact I2
 ·rw[ht 19 (by simp)];exact I3
 ·rw[ht 20 (by simp)];exact I4
 ·rw[ht 7 (by simp)];exact I5
 ·rw[ht 8 (by simp)];exact I6
 ·rw[ht 9 (by simp)];exact I7
 ·rw[ht 11 (by simp),k11.2];exact I8
 rw[k11.1];exact I9
theorem a92(L:a71 P ρ)(hρ:ρ.f 6=A.ec){tab:Value}{R:Rec}(hR:aun P tab A.ss R){t:Tr}(ht:A8 t)(B6:M3 t)
  (hok:∀n∈t.ns,∀ins:List Int,ins.length≤100→(∀x∈ins,-(2^60)≤x∧x≤2^60)→a6r n.f.k (p8 mf n.f t.ps).1 (a0d n.f.ls) ins)
  (hin:∀n∈t.ns,n.ins.length≤100){s:PS}(hT:HT tab s.ctx){ib b:Nat}{bk:Bk}(hm:s.mp ib=some (bk.map cE))(hib:ib<b)(mh:w8 s.mem b)(hbk:∀e∈bk,0≤e.2∧e.2<2^30)(hbl:bk.length≤2^20):
  D0 P A.nw s [.d (.agg (r8 t)),.kj ib (s.av ib)] (fun m' r=>m'=a7i s.mem ib (b+16) (wg R t bk)∧r= .kj (b+16) (s.av (b+16)+1)):=by
 refine aa4 A.mo A.Ru (by simp) b fun c hc=>?_
 have hTc:HT tab c:=by obtain⟨i,hi⟩:=hT;exact⟨2*i+1,by rw[hc,hi]⟩
 show ko P (Ea A.mg A.oz A.pn A.xr A.ss A.u9) _ _;have aDf:=adt A.toPr2 t B6.1 (fun n hn=>ie (B6.2 n hn).1 (by decide));simp only[nr]at aDf
 have aGj:ib≠b+2:=by omega
 have asq:ib≠b+16:=by omega
 have aBe:b+16≠ib:=by omega
 have r0:Dv R t bk 0=(bk,[]):=rfl;have hol:=a4d t.ns;have hn1:=B6.1;simp only[Ea,enter,r8,jn,l7,go_sem,aa,ae,PS.mem];refine ff aDf ?_;simp only[go_sem,aa,ag,ag];refine r9 (fun s'=>RIv s.mem c ib b t (wg R t bk) s') ?_ ?_
 ·refine fh (nf t.ns).length (fun i s'=>RIx s.mem c ib b t (Dv R t bk i) i s') ?_ ?_
  ·refine⟨⟨rfl,?_,?_,?_,?_,?_,?_,?_,fun j hj=>?_,fun j hj=>?_,fun j hj hne=>?_,rfl⟩,?_,?_,?_⟩
   ·simp[ak,aGj,asq]
   ·simp[ak]
   ·simp[ak]
   ·simp[ak]
   ·simp[ak,r0]
   ·simp[ak,asq,r0,hm]
   ·simp[ak];rfl
   ·have e1:j≠b+2:=by omega
    have e2:j≠b+16:=by omega
    simp[ak,e1,e2,PS.mem]
   ·have e1:j≠b+2:=by omega
    have e2:j≠b+16:=by omega
    simp[ak,e1,e2];exact mh j (by omega)
   ·simp[ak,hne];exact(mh j hj).2
   ·simp[ak]
   ·simp[ak]
   simp[ak]
  rintro i s' hi ⟨I,f18,f19,f20⟩;by_cases hlt:(i:Int)<(nf t.ns).length
  ·have df:i<(nf t.ns).length:=by omega
   have wi:=cu ((i:Int)+1) (by omega) (by omega);obtain⟨n,hn,Bc,hnn,aoc,aiw⟩:=Hz ht df;have re:=Rj (R:=R) (bk:=bk) df;have hbx:=a9a (R:=R) (t:=t) hbl (by omega) hbk i
   have hgs:(nf t.ns).getD i ⟨#[]⟩=(nf t.ns)[i]:=by simp[cd,df]
   have hnd:=aqd A.toPr2 t (nf t.ns)[i] (ie B6.1 (by decide));rw[ary hn Bc hnn]at hnd;have hz:=B6.2 n hn;have Tl:=a3y A.toPr (abc A.toPr3 L hρ) n.f t.ps hz.2.1 hz.2.2.1 hz.2.2.2;have aE1:=ae6 A L hρ n.f.ls hz.2.2.1 hz.2.2.2
   generalize hsd:(nf t.ns)[i]=sd at*
   generalize hx:Dv R t bk i=x at*
   simp only[go_sem,aa,ae,reduceCtorEq,PS.mem,I.base,I.t2,I.b2,f18,f19,f20,hlt,Ck df,hgs,bp,aq];refine il hnd ?_;simp only[cFt,jn,a6c,x6,lj]at Tl;simp only[lj]at aE1;simp only[wz,x6,nr,lj,go_sem,aa,ae,ah,I.t2,I.b2];refine il Tl ?_;simp only[go_sem,aa,ae,ah];refine ff aE1 ?_
   generalize hX:(if mf n.f.ls=true then a08 n.f.ls else .cq)=X at*
   have ho:X.one=true:=by rw[←hX];split;exact a4g _;rfl
   have ho2:=ho;unfold D.one at ho2;simp only[go_sem,aa,ae,ag,ho2,ag];have hil:n.ins.length≤2^30:=hz.1;refine r9 (fun s2=>RIy s.mem c ib b t x i sd n X s2∧se s2 (b+60) 1 ((Na x.2 n).map ve) (s2.tmp 13)) ?_ ?_
   ·refine fh n.ins.length (fun k s2=>RIy s.mem c ib b t x i sd n X s2∧s2.tmp 49= .d (.ft 1 (n.ins.map nh))∧s2.tmp 50= .d (.int ab (n.ins.length:Nat))∧s2.tmp 51= .d (.int ab (k:Nat))∧se s2 (b+60) 1 (((Na x.2 n).take k).map ve) (s2.tmp 13)) ?_ ?_
    ·refine⟨⟨⟨I.V8 hib (by exact I.base.symm) ?_ (fun j h1 h2 h3=>by simp[ak,h1]) rfl rfl,?_,?_,?_⟩,?_,?_,?_,?_,?_⟩,?_,?_,?_,?_⟩
     ·intro j hj;simp at hj;rcases hj with rfl|rfl|rfl<;>simp[ak]
     ·simp[ak,f18]
     ·simp[ak,f19]
     ·simp[ak,f20]
     ·simp[ak]
     ·simp[ak,wz,x6,lj,nr]
     ·simp[ak]
     ·simp[ak]
     ·simp[ak]
     ·simp[ak]
     ·simp[ak]
     ·simp[ak]
     exact .inl ⟨by simp,by simp[ak]⟩
    rintro k s2 hk ⟨J,g49,g50,g51,acc⟩;have eb:=J.1.1.base;have f5:=J.1.1.t5;have mo:=J.1.1.mo;by_cases hkl:(k:Int)<n.ins.length
    ·have aBb:k<n.ins.length:=by omega
     have wk:=cu ((k:Int)+1) (by omega) (by omega)
     have hgi:n.ins.getD k ⟨#[]⟩=n.ins[k]:=by simp[cd,aBb]
     have e1:((Na x.2 n).take (k+1)).map ve=((Na x.2 n).take k).map ve++[ve ((xu n.ins[k] x.2).getD 0)]:=by
      rw[fm,fu];simp[Na,aBb]
     have e2:((Na x.2 n).take k).length=k:=by simp[Na];omega
     generalize n.ins[k]=y at*
     simp only[go_sem,aa,reduceCtorEq,dh,PS.ents,ez,Cj,PS.mem,eb,f5,mo,g49,g50,g51,hkl,Ck aBb,hgi,bp,aq,Cj,PS.ents,Y8]
     cases hg:xu y x.2 with
     |some z=>
      rw[hg]at e1;simp only[go_sem];refine Wb (dd:=((Na x.2 n).take k).map ve) (ys:=[ve z]) (osz:=some 1) ?_ ?_ rfl (by simp[ve,D.one]) ?_ (by simp) ?_
      ·simp only[go_sem,aa];exact acc.mono (by simp[ak]) (by simp[ak])
      ·simp only[go_sem,aa,qm];rfl
      ·simp only[ag,ca,ed,e2];omega
      intro s3 g gc _;have Fv:=g.acc (by simp);rw[g.tmp,ck]at Fv;simp only[]at Fv;have gt:=g.tmp;have gk:∀j,j≠b+59→j≠b+60→s3.da j=s2.da j∧s3.av j=s2.av j:=fun j h1 h2=>⟨by rw[g.da];simp[ak,h1,h2],by rw[g.av j h2];simp[ak,h1]⟩;simp only[go_sem,aa,reduceCtorEq,g.tmp,g.base,wk,g51];refine⟨by omega,J.V8 hib (by exact eb.symm) ?_ (fun j h1 h2=>gk j h1 h2) g.mp (by exact gc),?_,?_,?_,?_⟩
      ·intro j hj;simp at hj;rcases hj with rfl|rfl|rfl|rfl|rfl|rfl|rfl|rfl|rfl|rfl<;>simp[ak]
      ·simp[g49]
      ·simp[g50]
      ·simp[]
      rw[e1];exact Fv.mono rfl rfl
     |none=>
      rw[hg]at e1;simp only[go_sem];refine Wb (dd:=((Na x.2 n).take k).map ve) (ys:=[ve 0]) (osz:=some 1) ?_ ?_ rfl (by simp[ve,D.one]) ?_ (by simp) ?_
      ·simp only[go_sem,aa];exact acc.mono (by simp[ak]) (by simp[ak])
      ·simp only[go_sem,aa,qm];rfl
      ·simp only[ag,ca,ed,e2];omega
      intro s3 g gc _;have Fv:=g.acc (by simp);rw[g.tmp,ck]at Fv;simp only[]at Fv;have gt:=g.tmp;have gk:∀j,j≠b+59→j≠b+60→s3.da j=s2.da j∧s3.av j=s2.av j:=fun j h1 h2=>⟨by rw[g.da];simp[ak,h1,h2],by rw[g.av j h2];simp[ak,h1]⟩;simp only[go_sem,aa,reduceCtorEq,g.tmp,g.base,wk,g51];refine⟨by omega,J.V8 hib (by exact eb.symm) ?_ (fun j h1 h2=>gk j h1 h2) g.mp (by exact gc),?_,?_,?_,?_⟩
      ·intro j hj;simp at hj;rcases hj with rfl|rfl|rfl|rfl|rfl|rfl|rfl|rfl|rfl|rfl<;>simp[ak]
      ·simp[g49]
      ·simp[g50]
      ·simp[]
      rw[e1];exact Fv.mono rfl rfl
    have:k=n.ins.length:=by omega
    subst this
    have e2:(Na x.2 n).take n.ins.length=Na x.2 n:=by
     have:(Na x.2 n).length=n.ins.length:=by simp[Na]
     rw[←this,dt]
    rw[e2]at acc;simp only[go_sem,aa,reduceCtorEq,g50,g51,hkl]
    exact⟨J.V8 hib rfl (fun j hj=>by simp at hj;rcases hj with rfl|rfl|rfl|rfl|rfl|rfl|rfl|rfl|rfl|rfl<;>simp[ak]) (fun j _ _=>⟨rfl,rfl⟩) rfl rfl,acc.mono rfl rfl⟩
   rintro s2 ⟨J,acc⟩;obtain⟨⟨I',k18,k19,k20⟩,k7,k8,k9,k11,aFy⟩:=J
   have Dw:Oc P s2.ctx A.ss [.int ab n.f.k,.ft 1 ((p8 mf n.f t.ps).1.map ve),.agg [X],yc 1 ((Na x.2 n).map ve)] (.str (Sq R t x.2 n)):=by
    rw[I'.ctx];refine(hR c n.f.k _ (a0d n.f.ls) (Na x.2 n) hTc (hok n hn _ ?_ ?_)).args rfl ?_
    ·simpa[Na]using hin n hn
    ·intro v hv;unfold Na at hv;obtain⟨y,_,rfl⟩:=iw.1 hv
     cases hg:xu y x.2 with
     |none=>simp
     |some z=>
      obtain⟨a,ha,_⟩:=Qz hg;have:=hbx.2.2 _ ha;simp at this⊢;omega
    intro j p q hp hq
    match j,hp,hq with
    |0,hp,hq=>simp at hp hq;subst hp hq;exact Wk.refl _
    |1,hp,hq=>simp at hp hq;subst hp hq;exact Wk.refl _
    |2,hp,hq=>simp at hp hq;subst hp hq;exact Wk.agg rfl (Wk.one (by rw[←hX];exact ayd _))
    |3,hp,hq=>simp at hp hq;subst hp hq;exact Jz
    |j+4,hp,hq=>simp at hp
   have hnb:=fun(m1:Mem) (h1:m1.mp ib=some (x.1.map cE)) (h2:w8 m1 (b+100))=>amu A (m:=m1) (id:=ib) (b:=b+100) (es:=x.1) (Sq R t x.2 n) h1 (by omega) h2 (by have:=hbx.1;omega)
   have hpD:=ahw sd (Hi (Sq R t x.2 n) x.1).1 x.2;simp only[wz,x6,nr,lj,go_sem,aa,ae,ah,I'.base,I'.t1,I'.t5,k7,k8,k9,k11,aFy];refine⟨[.int ab n.f.k,.ft 1 ((p8 mf n.f t.ps).1.map ve),.agg [X],yc 1 ((Na x.2 n).map ve)],_,?_,by rw[y0];exact Dw,.inl rfl,?_⟩
   ·rcases acc with ⟨a1,a2⟩|⟨a1,a2,a3⟩
    ·rw[a2];simp only[J0,snap,yc,a1,dj]
    have he:s2.dd (b+60) (s2.av (b+60))=some (1,(Na x.2 n).map ve):=by unfold PS.dd;rw[bm rfl,a3]
    rw[a2];simp only[J0,snap,yc,a1,ee,PS.dd,a3,dj]
   simp only[go_sem,aa];refine jr (hnb _ I'.mi (fun j hj=>I'.high j hj)) ?_;simp only[go_sem,aa,reduceCtorEq,PS.ents,PS.j0,PS.mem,PS.j0,aq3,PS.mem,aBe,I'.mo,PS.ents,hpD,k20,wi];unfold Rk at re;rw[Bc]at re;rw[re];refine⟨df,⟨rfl,?_,?_,I'.b2,?_,?_,?_,I'.vo,fun j hj=>⟨(I'.low j hj).1,(I'.low j hj).2.1,fun h=>?_⟩,fun j hj=>⟨(I'.high j hj).1,?_⟩,fun j hj hne=>?_,I'.ctx⟩,?_,?_,?_⟩
   ·simp[ak,I'.t1]
   ·simp[ak,I'.t2]
   ·simp[ak,I'.t5]
   ·simp[ak]
   ·simp[ak,asq]
   ·have h2:j≠b+16:=by omega
    simp only[ak,al h2,al h];exact(I'.low j hj).2.2 h
   ·have h2:j≠b+16:=by omega
    have h3:j≠ib:=by omega
    simp only[ak,al h2,al h3];exact(I'.high j hj).2
   ·have h3:j≠ib:=by omega
    simp only[ak,al hne,al h3];exact I'.tc j hj hne
   ·simp[ak,k18]
   ·simp[ak,k19]
   simp[ak]
  have:i=(nf t.ns).length:=by omega
  subst this;rw[Ul]at I;simp only[go_sem,reduceCtorEq,f19,f20,hlt]
  exact I.V8 hib rfl (fun j hj=>by simp at hj;rcases hj with rfl|rfl|rfl<;>simp[ak]) (fun j _ _ _=>⟨rfl,rfl⟩) rfl rfl
 rintro s' I;simp only[go_sem,aa,reduceCtorEq,I.t5,sv,Ac];refine⟨_,_,⟨rfl,rfl⟩,by rw[I.vo];rfl,?_⟩;have hm':s.mem.mp ib=some (bk.map cE):=hm;exact aht (m:=s.mem) hib mh I.mo I.mi I.vo I.low I.tc
end
end Go.PI
namespace Go.PI
def dE(e:ByteArray×Int):D×D:=(.str e.1,.int ab e.2)
theorem au6(l:Bk):(l.map dE).map (fun e=>(e.1,C.d e.2))=l.map cE:=by rw[aF4];rfl
theorem agc{S:PS}{id v:Nat}{l:Bk}(h1:S.mp id=some (l.map cE))(h2:S.av id=v):deep S 6 (.kj id v)=some (.map (l.map dE)):=by
 have e:S.ents id v=some (l.map cE):=by unfold PS.ents;rw[bm h2,h1]
 have e2:∀x:Bk,N9 ((x.map cE).map fun e=>(deep S 5 e.2).map fun d=>(e.1,d))=some (x.map dE):=by
  intro x
  induction x with
  |nil=>rfl
  |cons y r ih=>
   simp only[gf,cE,deep,ir,N9];have ih2:=ih;rw[ih2];rfl
 unfold deep;rw[e];show(N9 _).map _=_;rw[e2];rfl
section
variable{P:Program}(A:Pr6 P)
theorem aho(a b:Bk)(n:Nd):iq P A.xq [.agg (wz n),.te [.map (a.map dE)] 0,.te [.map (b.map dE)] 0] (.bool (a0y a b n)):=by
 refine du A.mo A.Vd (by simp) ?_;show ko P Ad (lg _ _) _;have h1:=Y8 n.n a;have h2:=Y8 n.n b;unfold a0y
 cases g1:xu n.n a with
 |none=>
  rw[g1]at h1;simp only[av1]at h1;simp only[Ad,wz,x6,lj,nr,go_sem,aa,ae,ah,ez,Cj,Cj,au6,h1]
 |some x=>
  rw[g1]at h1;simp only[ir]at h1
  cases g2:xu n.n b with
  |none=>
   rw[g2]at h2;simp only[av1]at h2;simp only[Ad,wz,x6,lj,nr,go_sem,aa,ae,ah,reduceCtorEq,ez,Cj,Cj,au6,h1,h2]
  |some y=>
   rw[g2]at h2;simp only[ir]at h2;simp only[Ad,wz,x6,lj,nr,go_sem,aa,ae,ah,reduceCtorEq,ez,Cj,Cj,au6,h1,h2]
theorem aqh{t:Tr}(hn:t.ns.length≤2^30){s:PS}{g i1 i2 ia ib b:Nat}{p:Nd→Bool}{xa xb:Bk}(mh:w8 s.mem b)(h1b:i1<b)(h2b:i2<b)(hab:ia<b)(hbb:ib<b)
  (h1:s.da i1=some (.loc [.kj ia (s.av ia)]))(h2:s.da i2=some (.loc [.kj ib (s.av ib)]))(ha:s.mp ia=some (xa.map cE))(hb:s.mp ib=some (xb.map cE))
  (hp:∀n∈t.ns,iq P g [.agg (wz n),.te [.map (xa.map dE)] 0,.te [.map (xb.map dE)] 0] (.bool (p n))):
  D0 P A.ua s [.d (.agg (r8 t)),.nu g [(i1,s.av i1),(i2,s.av i2)]] (fun m' r=>∃w,s.av (b+22)≤w∧
   ((t.ns.filter p=[]∧m'=s.mem∧r= .d .cq)∨(t.ns.filter p≠[]∧m'=s.mem.put (b+22) w (.arr 1 ((t.ns.filter p).map fun n=>nh n.n))∧r= .ref (b+22) w (t.ns.filter p).length))):=by
 refine U2 A.mo A.Sw (by simp) b fun c=>?_;have hda:∀S:PS,S.mp ia=some (xa.map cE)→S.av ia=s.av ia→deep S 6 (.kj ia (s.av ia))=some (.map (xa.map dE)):=fun S q1 q2=>agc q1 q2;have hdb:∀S:PS,S.mp ib=some (xb.map cE)→S.av ib=s.av ib→deep S 6 (.kj ib (s.av ib))=some (.map (xb.map dE)):=fun S q1 q2=>agc q1 q2;show ko P F5 _ _;simp only[F5,enter,r8,jn,l7,go_sem,aa,ae,PS.mem,Mem.put,ag,ag];refine r9 (fun s'=>s'.base=b∧se s' (b+22) 1 ((t.ns.filter p).map fun n=>nh n.n) (s'.tmp 5)∧s.av (b+22)≤s'.av (b+22)∧∀j,j<b→s'.da j=s.da j∧s'.av j=s.av j∧s'.mp j=s.mp j) ?_ ?_
 ·refine fh t.ns.length (fun i s'=>s'.base=b∧s'.tmp 1= .nu g [(i1,s.av i1),(i2,s.av i2)]∧s'.tmp 9= .d (.ft 5 (t.ns.map wz))∧s'.tmp 10= .d (.int ab (t.ns.length:Nat))∧s'.tmp 11= .d (.int ab (i:Nat))∧
   se s' (b+22) 1 (((t.ns.take i).filter p).map fun n=>nh n.n) (s'.tmp 5)∧s.av (b+22)≤s'.av (b+22)∧∀j,j<b→s'.da j=s.da j∧s'.av j=s.av j∧s'.mp j=s.mp j) ?_ ?_
  ·refine⟨rfl,by simp[ak],by simp[ak],by simp[ak],by simp[ak],.inl ⟨by simp,by simp[ak]⟩,by simp[ak],fun j hj=>?_⟩
   have e:j≠b+2:=by omega
   simp[ak,e]
  rintro i s' hi ⟨eb,f1,f9,f10,f11,acc,hw,low⟩;by_cases hlt:(i:Int)<t.ns.length
  ·have df:i<t.ns.length:=by omega
   have wi:=cu ((i:Int)+1) (by omega) (by omega)
   have hg:(t.ns.map wz)[i]? =some (wz t.ns[i]):=by simp[df]
   have hpn:=hp t.ns[i] (cy df)
   have e0:t.ns.take (i+1)=t.ns.take i++[t.ns[i]]:=by rw[fm];simp[df]
   have hle:((t.ns.take i).filter p).length≤2^30:=ie (zg _ _) (by simp;omega)
   generalize t.ns[i]=n at*
   simp only[wz,x6,lj,nr]at hg hpn
   have q1:¬i1=b+7:=by omega
   have q2:¬i2=b+7:=by omega
   have q3:¬ia=b+7:=by omega
   have q4:¬ib=b+7:=by omega
   have u1:=(low i1 h1b).1.trans h1;have u2:=(low i2 h2b).1.trans h2;have u3:=(low i1 h1b).2.1;have u4:=(low i2 h2b).2.1;have u5:=(low ia hab).2.1;have u6:=(low ib hbb).2.1;have u7:=(low ia hab).2.2.trans ha;have u8:=(low ib hbb).2.2.trans hb;simp only[go_sem,aa,ae,reduceCtorEq,eb,f1,f9,f10,f11,hlt,hg,bp,aq,q1,q2,q3,q4,u1,u2,u3,u4,u5,u6,u7,u8,nj,rb,hda,hdb];refine a6a rfl hpn rfl ?_;cases hpp:p n
   ·have e1:((t.ns.take (i+1)).filter p).map (fun n=>nh n.n)=((t.ns.take i).filter p).map fun n=>nh n.n:=by rw[e0,a7a];simp[hpp]
    simp only[go_sem,aa,reduceCtorEq,f11,wi];refine⟨df,f1,f9,f10,by simp,by rw[e1];exact acc.mono (by simp[ak]) (by simp[ak]),by simp[hw],fun j hj=>?_⟩
    have e7:j≠b+7:=by omega
    simp only[al e7];exact low j hj
   have e1:((t.ns.take (i+1)).filter p).map (fun n=>nh n.n)=((t.ns.take i).filter p).map (fun n=>nh n.n)++[nh n.n]:=by rw[e0,a7a];simp[hpp]
   simp only[go_sem,aa,ae,ah,dh];refine Wb (dd:=((t.ns.take i).filter p).map fun n=>nh n.n) (ys:=[nh n.n]) (osz:=some 1) ?_ ?_ rfl (by simp[nh,D.one]) ?_ (by simp) ?_
   ·simp only[go_sem,aa];exact acc.mono (by simp[ak]) (by simp[ak])
   ·simp only[go_sem,aa,qm];rfl
   ·simp only[ag,ca,ed];omega
   intro s3 g gc gw;have Fv:=g.acc (by simp);rw[g.tmp,ck]at Fv;simp only[]at Fv;simp only[ak]at gw;simp only[go_sem,aa,reduceCtorEq,g.tmp,g.base,wi,f11];refine⟨df,by simp[f1],by simp[f9],by simp[f10],by simp,by rw[e1];exact Fv.mono rfl rfl,?_,fun j hj=>?_⟩
   ·simp at gw;omega
   have e7:j≠b+7:=by omega
   have e21:j≠b+21:=by omega
   have e22:j≠b+22:=by omega
   rw[g.da,g.av j e22,g.mp];simp only[ak,al e7,al e21,al e22];exact low j hj
  have:i=t.ns.length:=by omega
  subst this;rw[dt]at acc;simp only[go_sem,aa,reduceCtorEq,f10,f11,hlt];exact⟨eb,acc.mono rfl rfl,hw,low⟩
 rintro s' ⟨eb,acc,hw,low⟩;simp only[go_sem,aa,reduceCtorEq,eb,sv,Ac];rcases acc with ⟨a1,a2⟩|⟨a1,a2,a3⟩
 ·have a1':t.ns.filter p=[]:=by simpa using a1
  refine⟨s.mem,_,⟨s'.av (b+22),hw,.inl ⟨a1',rfl,rfl⟩⟩,a2,Aj (b:=b) (fun i hi=>?_) (fun i hi=>⟨.inl (mh i hi).1,(mh i hi).2⟩),fun i=>ay _,fun i x hx=> .inl hx,fun i es hx=> .inl hx,trivial⟩;exact⟨(low i hi).1.symm,(low i hi).2.1.symm,(low i hi).2.2.symm⟩
 have a1':t.ns.filter p≠[]:=by simpa using a1
 refine⟨s.mem.put (b+22) (s'.av (b+22)) (.arr 1 ((t.ns.filter p).map fun n=>nh n.n)),_,⟨s'.av (b+22),hw,.inr ⟨a1',rfl,rfl⟩⟩,by rw[a2,ag],Aj (b:=b) (fun i hi=>?_) (fun i hi=>⟨?_,(mh i hi).2⟩),fun i=>?_,fun i x hx=>?_,fun i es hx=> .inl hx,?_⟩
 ·have e:i≠b+22:=by omega
  simp only[Mem.put,ak,al e];exact⟨(low i hi).1.symm,(low i hi).2.1.symm,(low i hi).2.2.symm⟩
 ·simp only[Mem.put,ak];by_cases e:i=b+22
  ·rw[bm e,bm e,e];exact .inr ⟨a3.symm,rfl⟩
  rw[al e];exact .inl (mh i hi).1
 ·simp only[Mem.put,ak];split
  ·rename_i e;rw[e];exact hw
  exact ay _
 ·simp only[Mem.put,ak]at hx;split at hx
  ·injection hx with hx
   subst hx;exact .inr trivial
  exact .inl hx
 show s'.av (b+22)≤_;simp only[Mem.put,ak,dj];exact ay _
end
end Go.PI
namespace Go.PI
open Go Go.Proofs
structure GI(c:Nat→V×Value)(t u:Tr)(a B:Bk×Bk)(A:Nat→Bool)(s':PS):Prop where
 base:s'.base=0
 ctx:s'.ctx=c
 t2:s'.tmp 2= .ic 2 (s'.av 2) 0
 b2:s'.da 2=some (.loc [.d (.ft 2 (t.ps.map tx)),.d (.ft 5 (t.ns.map wz))])
 t3:s'.tmp 3= .ic 3 (s'.av 3) 0
 b3:s'.da 3=some (.loc [.d (.ft 2 (u.ps.map tx)),.d (.ft 5 (u.ns.map wz))])
 t9:s'.tmp 9= .kj 26 (s'.av 26)
 g0:A 0=true→s'.tmp 27= .d (.agg [.ft 2 (t.ps.map tx),.ft 5 (t.ns.map wz)])
 g1:A 1=true→s'.tmp 28= .kj 26 (s'.av 26)
 g3:A 3=true→s'.tmp 30= .d (.agg [.ft 2 (u.ps.map tx),.ft 5 (u.ns.map wz)])
 g4:A 4=true→s'.tmp 31= .kj 26 (s'.av 26)
 bk:s'.mp 26=some ((if A 5=true then B.1 else if A 2=true then a.1 else[]).map cE)
 g2:A 2=true→s'.tmp 29= .kj 116 (s'.av 116)∧s'.mp 116=some (a.2.map cE)
 g5:A 5=true→s'.tmp 32= .kj 216 (s'.av 216)∧s'.mp 216=some (B.2.map cE)
 g6:A 6=true→s'.tmp 10= .ic 10 (s'.av 10) 0∧s'.da 10=some (.loc [if A 8=true then .kj 116 (s'.av 116)else .d .I0])
 g7:A 7=true→s'.tmp 11= .ic 11 (s'.av 11) 0∧s'.da 11=some (.loc [if A 9=true then .kj 216 (s'.av 216)else .d .I0])
 f1:A 2=false→∀j,100≤j→s'.da j=none∧s'.mp j=none
 f2:A 5=false→∀j,200≤j→s'.da j=none∧s'.mp j=none
 f3:∀j,300≤j→s'.da j=none∧s'.mp j=none
 c5:A 5=true→A 2=true
 c8:A 8=true→A 2=true
 c9:A 9=true→A 5=true
 c86:A 8=true→A 6=true
 c97:A 9=true→A 7=true
section
variable{P:Program}(A:Pr6 P){ρ:V5}
theorem acm{R:Rec}{tab:Value}(L:a71 P ρ)(hρ:ρ.f 6=A.ec)(hR:aun P tab A.ss R){t u:Tr}(ht:A8 t)(hu:A8 u)(re:M3 t)(hsu:M3 u)
  (aB8:∀n∈t.ns,∀ins:List Int,ins.length≤100→(∀x∈ins,-(2^60)≤x∧x≤2^60)→a6r n.f.k (p8 mf n.f t.ps).1 (a0d n.f.ls) ins)
  (aB7:∀n∈u.ns,∀ins:List Int,ins.length≤100→(∀x∈ins,-(2^60)≤x∧x≤2^60)→a6r n.f.k (p8 mf n.f u.ps).1 (a0d n.f.ls) ins)
  (hint:∀n∈t.ns,n.ins.length≤100)(aBc:∀n∈u.ns,n.ins.length≤100){c:Nat→V×Value}(hc:HT tab c){Q:Exit→PS→Prop}{s:PS}
  (h0:GI c t u (wg R t []) (wg R u (wg R t []).1) (fun _=>false) s)
  (hQ:∀s',GI c t u (wg R t []) (wg R u (wg R t []).1) (fun _=>true) s'→Q .normal s'):
  ko P (.a5o [⟨some 27,.load 2 true (.t 2),none,[]⟩,⟨some 28,.j7 (.t 9),none,[]⟩,⟨some 29,.qb A.nw [(.t 27),(.t 28)],none,[0,1]⟩,⟨some 30,.load 2 true (.t 3),none,[]⟩,⟨some 31,.j7 (.t 9),none,[]⟩,⟨some 32,.qb A.nw [(.t 30),(.t 31)],none,[3,4,2]⟩,⟨some 10,.alloc [.I0],none,[]⟩,⟨some 11,.alloc [.I0],none,[]⟩,⟨none,.store 1 (.t 10) (.t 29),none,[6,2,5,0,1,2,6,7]⟩,⟨none,.store 1 (.t 11) (.t 32),none,[7,5,8,0,1,2,3,4,5,6,7,8]⟩]) Q s:=by
 rw[aqz];have ba:=a9a (R:=R) (t:=t) (bk:=[]) (N:=0) (ay _) (by decide) (fun e he=>by cases he) (nf t.ns).length (ie (a4d t.ns) re.1);rw[Ul]at ba;have hlo:=a4d t.ns;have hl1:=re.1;refine⟨GI c t u (wg R t []) (wg R u (wg R t []).1),h0,fun A' s' I=>⟨fun hA=>hQ s' ?_,fun i o ho hAi haf=>?_⟩⟩
 ·have e:∀k,k<10→A' k=true:=fun k hk=>hA k hk;have hh:=I;have e0:=e 0 (by decide);have e1:=e 1 (by decide);have e2:=e 2 (by decide);have e3:=e 3 (by decide);have e4:=e 4 (by decide);have e5:=e 5 (by decide);have e6:=e 6 (by decide);have e7:=e 7 (by decide);have e8:=e 8 (by decide);have e9:=e 9 (by decide);refine{base:=I.base,ctx:=I.ctx,t2:=I.t2,b2:=I.b2,t3:=I.t3,b3:=I.b3,t9:=I.t9,g0:=fun _=>I.g0 e0,g1:=fun _=>I.g1 e1,g3:=fun _=>I.g3 e3,g4:=fun _=>I.g4 e4,bk:=?_,g2:=fun _=>I.g2 e2,g5:=fun _=>I.g5 e5,g6:=fun _=>?_,g7:=fun _=>?_,f1:=?_,f2:=?_,f3:=I.f3,c5:=?_,c8:=?_,c9:=?_,c86:=?_,c97:=?_}
  ·have:=I.bk;simpa[e5]using this
  ·have:=I.g6 e6;simpa[e8]using this
  ·have:=I.g7 e7;simpa[e9]using this
  all_goals simp
 generalize hga:wg R t []=a at*
 generalize hgb:wg R u a.1=B at*
 match i,ho with
 |0,ho=>
  simp only[dm,aj]at ho;subst ho;simp only[go_sem,ae,I.base,I.t2,I.b2];refine{base:=?_,ctx:=?_,t2:=?_,b2:=?_,t3:=?_,b3:=?_,t9:=?_,g0:=?_,g1:=?_,g3:=?_,g4:=?_,bk:=?_,g2:=?_,g5:=?_,g6:=?_,g7:=?_,f1:=?_,f2:=?_,f3:=?_,c5:=?_,c8:=?_,c9:=?_,c86:=?_,c97:=?_}
  ·simpa[ak]using I.base
  ·simpa[ak]using I.ctx
  ·simpa[ak]using I.t2
  ·simpa[ak]using I.b2
  ·simpa[ak]using I.t3
  ·simpa[ak]using I.b3
  ·simpa[ak]using I.t9
  ·simp[ak]
  ·simpa[ak]using I.g1
  ·simpa[ak]using I.g3
  ·simpa[ak]using I.g4
  ·simpa[ak]using I.bk
  ·simpa[ak]using I.g2
  ·simpa[ak]using I.g5
  ·simpa[ak]using I.g6
  ·simpa[ak]using I.g7
  ·simpa[ak]using I.f1
  ·simpa[ak]using I.f2
  ·simpa[ak]using I.f3
  ·simpa[ak]using I.c5
  ·simpa[ak]using I.c8
  ·simpa[ak]using I.c9
  ·simpa[ak]using I.c86
  simpa[ak]using I.c97
 |1,ho=>
  simp only[gl,dm,aj]at ho;subst ho;simp only[go_sem,I.base,I.t9];refine{base:=?_,ctx:=?_,t2:=?_,b2:=?_,t3:=?_,b3:=?_,t9:=?_,g0:=?_,g1:=?_,g3:=?_,g4:=?_,bk:=?_,g2:=?_,g5:=?_,g6:=?_,g7:=?_,f1:=?_,f2:=?_,f3:=?_,c5:=?_,c8:=?_,c9:=?_,c86:=?_,c97:=?_}
  ·simpa[ak]using I.base
  ·simpa[ak]using I.ctx
  ·simpa[ak]using I.t2
  ·simpa[ak]using I.b2
  ·simpa[ak]using I.t3
  ·simpa[ak]using I.b3
  ·simpa[ak]using I.t9
  ·simpa[ak]using I.g0
  ·simp[ak]
  ·simpa[ak]using I.g3
  ·simpa[ak]using I.g4
  ·simpa[ak]using I.bk
  ·simpa[ak]using I.g2
  ·simpa[ak]using I.g5
  ·simpa[ak]using I.g6
  ·simpa[ak]using I.g7
  ·simpa[ak]using I.f1
  ·simpa[ak]using I.f2
  ·simpa[ak]using I.f3
  ·simpa[ak]using I.c5
  ·simpa[ak]using I.c8
  ·simpa[ak]using I.c9
  ·simpa[ak]using I.c86
  simpa[ak]using I.c97
 |3,ho=>
  simp only[gl,dm,aj]at ho;subst ho;simp only[go_sem,ae,I.base,I.t3,I.b3];refine{base:=?_,ctx:=?_,t2:=?_,b2:=?_,t3:=?_,b3:=?_,t9:=?_,g0:=?_,g1:=?_,g3:=?_,g4:=?_,bk:=?_,g2:=?_,g5:=?_,g6:=?_,g7:=?_,f1:=?_,f2:=?_,f3:=?_,c5:=?_,c8:=?_,c9:=?_,c86:=?_,c97:=?_}
  ·simpa[ak]using I.base
  ·simpa[ak]using I.ctx
  ·simpa[ak]using I.t2
  ·simpa[ak]using I.b2
  ·simpa[ak]using I.t3
  ·simpa[ak]using I.b3
  ·simpa[ak]using I.t9
  ·simpa[ak]using I.g0
  ·simpa[ak]using I.g1
  ·simp[ak]
  ·simpa[ak]using I.g4
  ·simpa[ak]using I.bk
  ·simpa[ak]using I.g2
  ·simpa[ak]using I.g5
  ·simpa[ak]using I.g6
  ·simpa[ak]using I.g7
  ·simpa[ak]using I.f1
  ·simpa[ak]using I.f2
  ·simpa[ak]using I.f3
  ·simpa[ak]using I.c5
  ·simpa[ak]using I.c8
  ·simpa[ak]using I.c9
  ·simpa[ak]using I.c86
  simpa[ak]using I.c97
 |4,ho=>
  simp only[gl,dm,aj]at ho;subst ho;simp only[go_sem,I.base,I.t9];refine{base:=?_,ctx:=?_,t2:=?_,b2:=?_,t3:=?_,b3:=?_,t9:=?_,g0:=?_,g1:=?_,g3:=?_,g4:=?_,bk:=?_,g2:=?_,g5:=?_,g6:=?_,g7:=?_,f1:=?_,f2:=?_,f3:=?_,c5:=?_,c8:=?_,c9:=?_,c86:=?_,c97:=?_}
  ·simpa[ak]using I.base
  ·simpa[ak]using I.ctx
  ·simpa[ak]using I.t2
  ·simpa[ak]using I.b2
  ·simpa[ak]using I.t3
  ·simpa[ak]using I.b3
  ·simpa[ak]using I.t9
  ·simpa[ak]using I.g0
  ·simpa[ak]using I.g1
  ·simpa[ak]using I.g3
  ·simp[ak]
  ·simpa[ak]using I.bk
  ·simpa[ak]using I.g2
  ·simpa[ak]using I.g5
  ·simpa[ak]using I.g6
  ·simpa[ak]using I.g7
  ·simpa[ak]using I.f1
  ·simpa[ak]using I.f2
  ·simpa[ak]using I.f3
  ·simpa[ak]using I.c5
  ·simpa[ak]using I.c8
  ·simpa[ak]using I.c9
  ·simpa[ak]using I.c86
  simpa[ak]using I.c97
 |6,ho=>
  simp only[gl,dm,aj]at ho;subst ho;simp only[go_sem,I.base];refine{base:=?_,ctx:=?_,t2:=?_,b2:=?_,t3:=?_,b3:=?_,t9:=?_,g0:=?_,g1:=?_,g3:=?_,g4:=?_,bk:=?_,g2:=?_,g5:=?_,g6:=?_,g7:=?_,f1:=?_,f2:=?_,f3:=?_,c5:=?_,c8:=?_,c9:=?_,c86:=?_,c97:=?_}
  ·simpa[ak]using I.base
  ·simpa[ak]using I.ctx
  ·simpa[ak]using I.t2
  ·simpa[ak]using I.b2
  ·simpa[ak]using I.t3
  ·simpa[ak]using I.b3
  ·simpa[ak]using I.t9
  ·simpa[ak]using I.g0
  ·simpa[ak]using I.g1
  ·simpa[ak]using I.g3
  ·simpa[ak]using I.g4
  ·simpa[ak]using I.bk
  ·simpa[ak]using I.g2
  ·simpa[ak]using I.g5
  ·have e8:A' 8=false:=by
    cases h:A' 8 with
    |false=>rfl
    |true=>have:=I.c86 h;rw[hAi]at this;cases this
   simp[ak,e8]
  ·simpa[ak]using I.g7
  ·intro h j hj;have e:j≠10:=by omega
   simpa[ak,e]using I.f1 (by simpa[ak]using h) j hj
  ·intro h j hj;have e:j≠10:=by omega
   simpa[ak,e]using I.f2 (by simpa[ak]using h) j hj
  ·intro j hj;have e:j≠10:=by omega
   simpa[ak,e]using I.f3 j hj
  ·simpa[ak]using I.c5
  ·simpa[ak]using I.c8
  ·simpa[ak]using I.c9
  ·simp[ak]
  simpa[ak]using I.c97
 |7,ho=>
  simp only[gl,dm,aj]at ho;subst ho;simp only[go_sem,I.base];refine{base:=?_,ctx:=?_,t2:=?_,b2:=?_,t3:=?_,b3:=?_,t9:=?_,g0:=?_,g1:=?_,g3:=?_,g4:=?_,bk:=?_,g2:=?_,g5:=?_,g6:=?_,g7:=?_,f1:=?_,f2:=?_,f3:=?_,c5:=?_,c8:=?_,c9:=?_,c86:=?_,c97:=?_}
  ·simpa[ak]using I.base
  ·simpa[ak]using I.ctx
  ·simpa[ak]using I.t2
  ·simpa[ak]using I.b2
  ·simpa[ak]using I.t3
  ·simpa[ak]using I.b3
  ·simpa[ak]using I.t9
  ·simpa[ak]using I.g0
  ·simpa[ak]using I.g1
  ·simpa[ak]using I.g3
  ·simpa[ak]using I.g4
  ·simpa[ak]using I.bk
  ·simpa[ak]using I.g2
  ·simpa[ak]using I.g5
  ·simpa[ak]using I.g6
  ·have e9:A' 9=false:=by
    cases h:A' 9 with
    |false=>rfl
    |true=>have:=I.c97 h;rw[hAi]at this;cases this
   simp[ak,e9]
  ·intro h j hj;have e:j≠11:=by omega
   simpa[ak,e]using I.f1 (by simpa[ak]using h) j hj
  ·intro h j hj;have e:j≠11:=by omega
   simpa[ak,e]using I.f2 (by simpa[ak]using h) j hj
  ·intro j hj;have e:j≠11:=by omega
   simpa[ak,e]using I.f3 j hj
  ·simpa[ak]using I.c5
  ·simpa[ak]using I.c8
  ·simpa[ak]using I.c9
  ·simpa[ak]using I.c86
  simp[ak]
 |8,ho=>
  simp only[gl,dm,aj]at ho;subst ho;have a2:=haf 2 (by simp);have a6:=haf 6 (by simp);obtain⟨k1,k2⟩:=I.g6 a6;obtain⟨k3,k4⟩:=I.g2 a2;simp only[go_sem,PS.ents,ez,I.base,k1,k2,k3,k4];refine{base:=?_,ctx:=?_,t2:=?_,b2:=?_,t3:=?_,b3:=?_,t9:=?_,g0:=?_,g1:=?_,g3:=?_,g4:=?_,bk:=?_,g2:=?_,g5:=?_,g6:=?_,g7:=?_,f1:=?_,f2:=?_,f3:=?_,c5:=?_,c8:=?_,c9:=?_,c86:=?_,c97:=?_}
  ·simpa[ak]using I.base
  ·simpa[ak]using I.ctx
  ·simpa[ak]using I.t2
  ·simpa[ak]using I.b2
  ·simpa[ak]using I.t3
  ·simpa[ak]using I.b3
  ·simpa[ak]using I.t9
  ·simpa[ak]using I.g0
  ·simpa[ak]using I.g1
  ·simpa[ak]using I.g3
  ·simpa[ak]using I.g4
  ·simpa[ak]using I.bk
  ·simpa[ak]using I.g2
  ·simpa[ak]using I.g5
  ·simp[ak,I.g6 a6]
  ·simpa[ak]using I.g7
  ·intro h j hj;have e:j≠10:=by omega
   simpa[ak,e]using I.f1 (by simpa[ak]using h) j hj
  ·intro h j hj;have e:j≠10:=by omega
   simpa[ak,e]using I.f2 (by simpa[ak]using h) j hj
  ·intro j hj;have e:j≠10:=by omega
   simpa[ak,e]using I.f3 j hj
  ·simpa[ak]using I.c5
  ·simp[ak,a2]
  ·simpa[ak]using I.c9
  ·simp[ak,a6]
  simpa[ak]using I.c97
 |9,ho=>
  simp only[gl,dm,aj]at ho;subst ho;have a5:=haf 5 (by simp);have a7:=haf 7 (by simp);obtain⟨k1,k2⟩:=I.g7 a7;obtain⟨k3,k4⟩:=I.g5 a5;simp only[go_sem,PS.ents,ez,I.base,k1,k2,k3,k4];refine{base:=?_,ctx:=?_,t2:=?_,b2:=?_,t3:=?_,b3:=?_,t9:=?_,g0:=?_,g1:=?_,g3:=?_,g4:=?_,bk:=?_,g2:=?_,g5:=?_,g6:=?_,g7:=?_,f1:=?_,f2:=?_,f3:=?_,c5:=?_,c8:=?_,c9:=?_,c86:=?_,c97:=?_}
  ·simpa[ak]using I.base
  ·simpa[ak]using I.ctx
  ·simpa[ak]using I.t2
  ·simpa[ak]using I.b2
  ·simpa[ak]using I.t3
  ·simpa[ak]using I.b3
  ·simpa[ak]using I.t9
  ·simpa[ak]using I.g0
  ·simpa[ak]using I.g1
  ·simpa[ak]using I.g3
  ·simpa[ak]using I.g4
  ·simpa[ak]using I.bk
  ·simpa[ak]using I.g2
  ·simpa[ak]using I.g5
  ·simpa[ak]using I.g6
  ·simp[ak,I.g7 a7]
  ·intro h j hj;have e:j≠11:=by omega
   simpa[ak,e]using I.f1 (by simpa[ak]using h) j hj
  ·intro h j hj;have e:j≠11:=by omega
   simpa[ak,e]using I.f2 (by simpa[ak]using h) j hj
  ·intro j hj;have e:j≠11:=by omega
   simpa[ak,e]using I.f3 j hj
  ·simpa[ak]using I.c5
  ·simpa[ak]using I.c8
  ·simp[ak,a5]
  ·simpa[ak]using I.c86
  simp[ak,a7]
 |2,ho=>
  simp only[gl,dm,aj]at ho;subst ho;have a0:=haf 0 (by simp);have a1:=haf 1 (by simp)
  have a5:A' 5=false:=by
   cases h:A' 5 with
   |false=>rfl
   |true=>have:=I.c5 h;rw[hAi]at this;cases this
  have a8:A' 8=false:=by
   cases h:A' 8 with
   |false=>rfl
   |true=>have:=I.c8 h;rw[hAi]at this;cases this
  have mh:=I.f1 hAi;have hbk:=I.bk;rw[a5,hAi]at hbk;have Dw:=a92 A L hρ hR ht re aB8 hint (s:=s') (by rw[I.ctx];exact hc) (ib:=26) (b:=100) (bk:=[]) (by simpa using hbk) (by decide) (fun j hj=>mh j hj) (fun e he=>by cases he) (by simp);rw[hga]at Dw;simp only[r8,jn,l7]at Dw;simp only[go_sem,I.g0 a0,I.g1 a1];refine kg Dw ?_;rintro m' r ⟨rfl,rfl⟩;simp only[go_sem,ae,PS.j0,PS.mem,PS.j0,a7i,PS.mem];refine{base:=?_,ctx:=?_,t2:=?_,b2:=?_,t3:=?_,b3:=?_,t9:=?_,g0:=?_,g1:=?_,g3:=?_,g4:=?_,bk:=?_,g2:=?_,g5:=?_,g6:=?_,g7:=?_,f1:=?_,f2:=?_,f3:=?_,c5:=?_,c8:=?_,c9:=?_,c86:=?_,c97:=?_}
  ·simpa[ak]using I.base
  ·simpa[ak]using I.ctx
  ·simpa[ak]using I.t2
  ·simpa[ak]using I.b2
  ·simpa[ak]using I.t3
  ·simpa[ak]using I.b3
  ·simpa[ak]using I.t9
  ·simpa[ak]using I.g0
  ·simpa[ak]using I.g1
  ·simpa[ak]using I.g3
  ·simpa[ak]using I.g4
  ·simp[ak,a5]
  ·simp[ak]
  ·intro h;simp[ak,a5]at h
  ·intro h;have:=I.g6 (by simpa[ak]using h);rw[a8]at this;simpa[ak,a8]using this
  ·simpa[ak]using I.g7
  ·intro h;simp[ak]at h
  ·intro h j hj;have e1:j≠26:=by omega
   have e2:j≠116:=by omega
   simpa[ak,e1,e2]using I.f2 a5 j hj
  ·intro j hj;have e1:j≠26:=by omega
   have e2:j≠116:=by omega
   simpa[ak,e1,e2]using I.f3 j hj
  ·simp[ak]
  ·simp[ak]
  ·simpa[ak]using I.c9
  ·simpa[ak]using I.c86
  simpa[ak]using I.c97
 |5,ho=>
  simp only[gl,dm,aj]at ho;subst ho;have a0:=haf 3 (by simp);have a1:=haf 4 (by simp);have a2:=haf 2 (by simp)
  have a9:A' 9=false:=by
   cases h:A' 9 with
   |false=>rfl
   |true=>have:=I.c9 h;rw[hAi]at this;cases this
  have mh:=I.f2 hAi;have hbk:=I.bk;rw[a2,hAi]at hbk
  have Dw:=a92 A L hρ hR hu hsu aB7 aBc (s:=s') (by rw[I.ctx];exact hc) (ib:=26) (b:=200) (bk:=a.1) (by simpa using hbk) (by decide) (fun j hj=>mh j hj) ba.2.1 (by have:=ba.1;omega)
  rw[hgb]at Dw;simp only[r8,jn,l7]at Dw;simp only[go_sem,I.g3 a0,I.g4 a1];refine kg Dw ?_;rintro m' r ⟨rfl,rfl⟩;simp only[go_sem,ae,PS.j0,PS.mem,PS.j0,a7i,PS.mem];refine{base:=?_,ctx:=?_,t2:=?_,b2:=?_,t3:=?_,b3:=?_,t9:=?_,g0:=?_,g1:=?_,g3:=?_,g4:=?_,bk:=?_,g2:=?_,g5:=?_,g6:=?_,g7:=?_,f1:=?_,f2:=?_,f3:=?_,c5:=?_,c8:=?_,c9:=?_,c86:=?_,c97:=?_}
  ·simpa[ak]using I.base
  ·simpa[ak]using I.ctx
  ·simpa[ak]using I.t2
  ·simpa[ak]using I.b2
  ·simpa[ak]using I.t3
  ·simpa[ak]using I.b3
  ·simpa[ak]using I.t9
  ·simpa[ak]using I.g0
  ·simpa[ak]using I.g1
  ·simpa[ak]using I.g3
  ·simpa[ak]using I.g4
  ·simp[ak]
  ·intro h;have:=I.g2 (by simpa[ak]using h);simpa[ak]using this
  ·simp[ak]
  ·simpa[ak]using I.g6
  ·intro h;have:=I.g7 (by simpa[ak]using h);rw[a9]at this;simpa[ak,a9]using this
  ·intro h;simp[ak,a2]at h
  ·intro h;simp[ak]at h
  ·intro j hj;have e1:j≠26:=by omega
   have e2:j≠216:=by omega
   simpa[ak,e1,e2]using I.f3 j hj
  ·simp[ak,a2]
  ·simpa[ak]using I.c8
  ·simp[ak]
  ·simpa[ak]using I.c86
  simpa[ak]using I.c97
 |i+10,ho=>simp at ho
end
theorem HT.d{tab:Value}{c:Nat→V×Value}(h:HT tab c):HT tab (X2 c):=by obtain⟨i,hi⟩:=h;exact⟨i,ayf hi⟩
structure CI(c:Nat→V×Value)(t u:Tr)(s':PS):Prop where
 base:s'.base=0
 ctx:s'.ctx=c
 t2:s'.tmp 2= .ic 2 (s'.av 2) 0
 b2:s'.da 2=some (.loc [.d (.ft 2 (t.ps.map tx)),.d (.ft 5 (t.ns.map wz))])
 t3:s'.tmp 3= .ic 3 (s'.av 3) 0
 b3:s'.da 3=some (.loc [.d (.ft 2 (u.ps.map tx)),.d (.ft 5 (u.ns.map wz))])
 hi:∀j,100≤j→s'.da j=none∧s'.mp j=none
section
variable{P:Program}(A:Pr6 P){ρ:V5}
theorem an7{R:Rec}{tab:Value}(L:a71 P ρ)(hρ:ρ.f 6=A.ec)(hR:aun P tab A.ss R){t u:Tr}(htt:yf mf t=true)(htu:yf mf u=true)(re:M3 t)(hsu:M3 u)
  (aB8:∀n∈t.ns,∀ins:List Int,ins.length≤100→(∀x∈ins,-(2^60)≤x∧x≤2^60)→a6r n.f.k (p8 mf n.f t.ps).1 (a0d n.f.ls) ins)
  (aB7:∀n∈u.ns,∀ins:List Int,ins.length≤100→(∀x∈ins,-(2^60)≤x∧x≤2^60)→a6r n.f.k (p8 mf n.f u.ps).1 (a0d n.f.ls) ins)
  (hint:∀n∈t.ns,n.ins.length≤100)(aBc:∀n∈u.ns,n.ins.length≤100){c:Nat→V×Value}(hc:HT tab c):
  Oc P c A.zm [.agg (r8 t),.agg (r8 u)] (.Aa [yc 1 ((Jw R t u).map nh),.int ab 0]):=by
 have ht:=Qm htt;have hu:=Qm htu;have hct:=Tb A.toPr2 (abc A.toPr3 L hρ) t re;have hcu:=Tb A.toPr2 (abc A.toPr3 L hρ) u hsu;rw[bm htt]at hct;rw[bm htu]at hcu;simp only[r8,jn,l7]at hct hcu;refine aee A.mo A.Ye c (by simp) ?_;show ko P (Ja A.jl A.nw A.xq A.ua) (lg _ _) _;simp only[Ja,r8,jn,l7,go_sem,aa,ae,ah,dh];refine r9 (CI (X2 c) t u) ?_ ?_
 ·refine fh 2 (fun k s'=>CI (X2 c) t u s'∧s'.tmp 14= .ref 14 (s'.av 14) 2∧s'.da 14=some (.arr 2 [[.ft 2 (t.ps.map tx),.ft 5 (t.ns.map wz)],[.ft 2 (u.ps.map tx),.ft 5 (u.ns.map wz)]])∧s'.tmp 15= .d (.int ab 2)∧s'.tmp 16= .d (.int ab (k:Nat))) ?_ ?_
  ·refine⟨⟨rfl,rfl,by simp[ak],by simp[ak],by simp[ak],by simp[ak],fun j hj=>?_⟩,by simp[ak],by simp[ak],by simp[ak],by simp[ak]⟩
   have e2:j≠2:=by omega
   have e3:j≠3:=by omega
   have e14:j≠14:=by omega
   simp[ak,e2,e3,e14]
  rintro k s' hk ⟨I,f14,b14,f15,f16⟩
  have hk3:k=0∨k=1∨k=2:=by omega
  rcases hk3 with rfl|rfl|rfl
  ·simp only[go_sem,aa,dc,ae,reduceCtorEq,I.base,f14,b14,f15,f16];refine ff hct ?_;simp only[go_sem,aa,aF1,jk,reduceCtorEq,f16];refine⟨by decide,⟨rfl,I.ctx,?_,?_,?_,?_,fun j hj=>?_⟩,?_,?_,?_,?_⟩
   ·simp[ak,I.t2]
   ·simp[ak,I.b2]
   ·simp[ak,I.t3]
   ·simp[ak,I.b3]
   ·have e7:j≠7:=by omega
    simpa[ak,e7]using I.hi j hj
   ·simp[f14]
   ·simp[b14]
   ·simp[f15]
   simp[];decide
  ·simp only[go_sem,aa,dc,fp,dv,ae,reduceCtorEq,I.base,f14,b14,f15,f16];refine ff hcu ?_;simp only[go_sem,aa,aF1,jk,ae,reduceCtorEq,f16];refine⟨by decide,⟨rfl,I.ctx,?_,?_,?_,?_,fun j hj=>?_⟩,?_,?_,?_,?_⟩
   ·simp[ak,I.t2]
   ·simp[ak,I.b2]
   ·simp[ak,I.t3]
   ·simp[ak,I.b3]
   ·have e7:j≠7:=by omega
    simpa[ak,e7]using I.hi j hj
   ·simp[f14]
   ·simp[b14]
   ·simp[f15]
   simp[];decide
  simp only[go_sem,reduceCtorEq,I.base,f15,f16];exact⟨rfl,I.ctx,by simpa[ak]using I.t2,I.b2,by simpa[ak]using I.t3,I.b3,I.hi⟩
 intro s' I;simp only[go_sem,I.base];refine acm A L hρ hR ht hu re hsu aB8 aB7 hint aBc hc.d ?_ ?_
 ·refine{base:=rfl,ctx:=I.ctx,t2:=?_,b2:=?_,t3:=?_,b3:=?_,t9:=?_,g0:=?_,g1:=?_,g3:=?_,g4:=?_,bk:=?_,g2:=?_,g5:=?_,g6:=?_,g7:=?_,f1:=?_,f2:=?_,f3:=?_,c5:=?_,c8:=?_,c9:=?_,c86:=?_,c97:=?_}
  ·simp[ak,I.t2]
  ·simp[I.b2]
  ·simp[ak,I.t3]
  ·simp[I.b3]
  ·simp[ak]
  ·simp
  ·simp
  ·simp
  ·simp
  ·simp[ak]
  ·simp
  ·simp
  ·simp
  ·simp
  ·intro _ j hj
   have e:j≠26:=by omega
   simpa[ak,e]using I.hi j hj
  ·intro _ j hj
   have e:j≠26:=by omega
   simpa[ak,e]using I.hi j (by omega)
  ·intro j hj
   have e:j≠26:=by omega
   simpa[ak,e]using I.hi j (by omega)
  ·simp
  ·simp
  ·simp
  ·simp
  simp
 intro s2 J;obtain⟨k10,l10⟩:=J.g6 rfl;obtain⟨k11,l11⟩:=J.g7 rfl;obtain⟨_,m1⟩:=J.g2 rfl;obtain⟨_,m2⟩:=J.g5 rfl;simp only[dj]at l10 l11;simp only[go_sem,aa,ae,J.base,J.t3,J.b3,k10,k11];have hch:=fun(S:PS) (h1:w8 S.mem 300) (h2:S.da 10=some (.loc [.kj 116 (S.av 116)])) (h3:S.da 11=some (.loc [.kj 216 (S.av 216)])) (h4:S.mp 116=some ((wg R t []).2.map cE))
  (h5:S.mp 216=some ((wg R u (wg R t []).1).2.map cE))=>aqh A (t:=u) (ie hsu.1 (by decide)) (s:=S) (b:=300) h1 (by decide) (by decide) (by decide) (by decide) h2 h3 h4 h5 (fun n _=>aho A _ _ n)
 simp only[r8,jn,l7]at hch;refine kg (hch _ (fun j hj=>J.f3 j hj) l10 l11 m1 m2) ?_
 have hL:(Jw R t u).map nh=(u.ns.filter (a0y (wg R t []).2 (wg R u (wg R t []).1).2)).map fun n=>nh n.n:=by
  unfold Jw;rw[aF4];rfl
 rw[hL];generalize u.ns.filter (a0y (wg R t []).2 (wg R u (wg R t []).1).2)=F;rintro m' r ⟨w,_,⟨rfl,rfl,rfl⟩|⟨h1,rfl,rfl⟩⟩
 ·simp only[go_sem,aa,PS.j0,PS.mem,PS.j0,PS.mem];rfl
 simp only[go_sem,aa,ae,PS.j0,PS.mem,Mem.put,ag,PS.j0,PS.mem,Mem.put];simp[yc,h1]
end
theorem aAz:∀k,k<14→0≤kIn k∧kIn k≤100:=by decide
theorem awa{l:List Sp}:∀k,∀p∈Lg l k,p∈l:=by
 intro k
 induction k with
 |zero=>intro p hp;exact hp
 |succ k ih=>
  intro p hp;rw[Sa]at hp;unfold Xr at hp;split at hp
  ·unfold a7h at hp;rcases jm.1 hp with h|h
   ·exact av2 h
   exact Ix h
  exact ih p hp
theorem ayj(ls:List (List Sp)):(a0d ls).length≤100∧∀l∈a0d ls,l.length≤100∧∀p∈l,SmL p:=by
 unfold a0d;split
 ·rename_i h;unfold mf at h;simp only[cj,decide_eq_true_eq]at h;obtain⟨h1,h2,_,_,h5⟩:=h;unfold Xh at h1;simp only[cj,decide_eq_true_eq]at h1;rw[←h5];have hp:=Ar (C9 ls);refine⟨by rw[hp.length_eq];unfold C9;rw[ag];omega,fun l hl=>?_⟩;have hl2:=(hp.mem_iff).1 hl;unfold C9 at hl2;obtain⟨q,hq,rfl⟩:=iw.1 hl2;have h3:=Y7 hq;have h4:okL q=true:=cz.1 h2 q hq;unfold okL at h4;simp only[cj,cz]at h4;refine⟨?_,fun p hp2=>Nk (h4.2 p ?_)⟩
  ·unfold Jy;rw[M0];have:(Nl (Au (gr ls)) (Hd (gr ls)) q).length≤q.length:=zg _ _;omega
  exact(C3.1 (awa _ p hp2)).1
 exact⟨by simp,fun l hl=>by cases hl⟩
theorem Zd{t:Tr}(h:yf mf t=true):(∀n∈t.ns,∀ins:List Int,ins.length≤100→(∀x∈ins,-(2^60)≤x∧x≤2^60)→a6r n.f.k (p8 mf n.f t.ps).1 (a0d n.f.ls) ins)∧∀n∈t.ns,n.ins.length≤100:=by
 have ht:=Qm h
 have hk:∀n∈t.ns,0≤n.f.k∧n.f.k<14:=fun n hn=>by
  have:=ht.ata n hn;unfold tj at this;simp only[cj,decide_eq_true_eq]at this;exact this.1
 refine⟨fun n hn ins h1 h2=>?_,fun n hn=>?_⟩
 ·obtain⟨c1,c2⟩:=ayj n.f.ls;obtain⟨n1,n2⟩:=abi ht hn;have hf:=ht.ata n hn;have hv:=Wx hf;have hl:=R2 hf;have hk:=hk n hn;refine⟨⟨hk.1,by omega⟩,by rw[n1,ag];omega,fun x hx=>?_,c1,c2,h1,h2⟩;rw[n1]at hx;obtain⟨v,hvm,rfl⟩:=iw.1 hx;obtain⟨i,hi,rfl⟩:=jd hvm;have hvi:=hv i hi
  have e:n.f.vs.getD i v0=n.f.vs[i]:=by simp[cd,hi]
  rw[e]at hvi;obtain⟨⟨t1,t2⟩,a1,a2⟩:=a3k hvi;rw[Rp]
  cases hg:xu n.f.vs[i].n (Ia t.ps)with
  |none=>simp only;omega
  |some x=>
   obtain⟨a,ha,_⟩:=Qz hg;obtain⟨p,hp,e⟩:=Y6 t.ps _ ha
   injection e with e1 e2
   have hb:=a4h (Pw ht.pms p hp).2;rw[←e2]at hb;have:=ax5 ⟨t1,t2⟩ hb;simp only;omega
 obtain⟨i,hi,rfl⟩:=jd hn;unfold yf at h;simp only[cj,cz,ep]at h;have h3:=h.2.2.1 i hi;unfold zw at h3;simp only[cj,beq_iff_eq]at h3
 have e:t.ns.getD i n0=t.ns[i]:=by simp[cd,hi]
 rw[e]at h3;have h4:=h3.2.2.2.1;have:=hk _ hn;have:=aAz (t.ns[i].f.k.toNat) (by omega);omega
section
variable{P:Program}(A:Pr6 P)
end
theorem ayk{P:Program}{K:PS→Prop}{s:PS}{r:List RI}{d:Option Nat}{f:Nat}{a b x:D}(h2:Oc P s.ctx f [a,b] x)(h4:l5 P r (s.put d (.d x)) K):F9 P f [.d a,.d b] [] false d s (Ab P r K):=⟨[a,b],x,rfl,h2,.inr ⟨rfl,rfl⟩,h4⟩
theorem aq2{t:Tr}(h:yf mf t=true):M3 t:=by
 have ht:=Qm h;obtain⟨_,h2⟩:=On h;obtain⟨_,h3⟩:=Zd h;refine⟨by omega,fun n hn=>?_⟩;have hf:=ht.ata n hn;have hl:=R2 hf;have hi:=h3 n hn
 have key:n.f.ls.length≤60∧∀l∈n.f.ls,l.length≤60:=by
  unfold tj at hf;simp only[cj]at hf;have h4:=hf.2.2.2;split at h4
  ·unfold mf at h4;simp only[cj]at h4;have h5:=h4.1;unfold Xh at h5;simp only[cj,decide_eq_true_eq]at h5;exact⟨h5.2,fun l hl=>ie (Y7 hl) h5.1⟩
  have:n.f.ls.length=0:=by simpa using h4
  have h6:n.f.ls=[]:=ix this;rw[h6];exact⟨by simp,fun l hl=>by cases hl⟩
 exact⟨by omega,by omega,by have:=key.1;omega,fun l hl=>by have:=key.2 l hl;omega⟩
end Go.PI
namespace Go.PI
theorem a9t(ns:List Nd)(s:ByteArray)(h:∃n∈ns,n.n=s):Wn ns s 0=Lp ns s∧0≤Lp ns s∧Lp ns s<ns.length∧Bj ns s∈ns∧(Bj ns s).n=s:=by
 rcases Fy (fun i=>kf (ns.getD i n0).n s) ns.length with ⟨_,h2⟩|⟨k,h1,h2,h3,h4⟩
 ·obtain⟨n,hn,e⟩:=h;obtain⟨i,hi,rfl⟩:=jd hn;have:=h2 i hi
  have e1:ns.getD i n0=ns[i]:=by simp[cd,hi]
  rw[e1,akn]at this;exact absurd e this
 have e0:Lp ns s=(k:Int):=h3
 have e1:ns.getD k n0=ns[k]:=by simp[cd,h1]
 have e2:Bj ns s=ns[k]:=by unfold Bj;rw[e0];exact e1
 have key:∀(l:List Nd) (j:Int),Wn l s j=j+(xi (fun i=>kf (l.getD i n0).n s) l.length)∨∀i,i<l.length→kf (l.getD i n0).n s=false:=by
  intro l
  induction l with
  |nil=>intro j;exact .inr fun i hi=>by simp at hi
  |cons n r ih=>
   intro j;by_cases c:kf n.n s=true
   ·refine .inl ?_
    have:xi (fun i=>kf ((n::r).getD i n0).n s) (n::r).length=((0:Nat):Int):=Iq (by simp) (by simpa using c) fun i hi=>by omega
    rw[this];unfold Wn;rw[bm c];simp
   have c':kf n.n s=false:=by simpa using c
   rcases ih (j+1)with h|h
   ·rcases Fy (fun i=>kf (r.getD i n0).n s) r.length with ⟨g1,g2⟩|⟨q,g1,g2,g3,g4⟩
    ·refine .inr fun i hi=>?_
     cases i with
     |zero=>simpa using c'
     |succ i=>simpa using g2 i (by simpa using hi)
    refine .inl ?_
    have:xi (fun i=>kf ((n::r).getD i n0).n s) (n::r).length=((q+1:Nat):Int):=Iq (by simpa using g1) (by simpa using g2) fun i hi=>by
     cases i with
     |zero=>simpa using c'
     |succ i=>simpa using g4 i (by omega)
    rw[this];unfold Wn;rw[al c,h,g3];omega
   refine .inr fun i hi=>?_
   cases i with
   |zero=>simpa using c'
   |succ i=>simpa using h i (by simpa using hi)
 refine⟨?_,by omega,by omega,by rw[e2];exact cy h1,by rw[e2,←e1];exact J1.1 h2⟩;rcases key ns 0 with h|h
 ·rw[h];unfold Lp;omega
 rw[h k h1]at h2;cases h2
def atS:List ByteArray→ByteArray→Nat
 |[],_=>0
 |x::r,s=>if strLt x s then atS r s+1 else 0
def C8(l:List ByteArray)(s:ByteArray):List ByteArray:=if atS l s<l.length∧kf (l.getD (atS l s) ⟨#[]⟩) s=true then l else l.take (atS l s)++(s::l.drop (atS l s))
theorem ak6(l:List ByteArray)(s:ByteArray):atS l s≤l.length:=by
 induction l with
 |nil=>simp[atS]
 |cons x r ih=>unfold atS;split<;>simp;omega
theorem aug{l:List ByteArray}{s:ByteArray}:∀{i:Nat} (h:i<atS l s) (hl:i<l.length),strLt l[i] s=true:=by
 induction l with
 |nil=>intro i h;simp[atS]at h
 |cons x r ih=>
  intro i h hl;unfold atS at h;split at h
  ·rename_i c
   cases i with
   |zero=>exact c
   |succ i=>exact ih (by omega) (by simpa using hl)
  omega
theorem auh{l:List ByteArray}{s:ByteArray}(hl:atS l s<l.length):strLt l[atS l s] s=false:=by
 induction l with
 |nil=>simp at hl
 |cons x r ih=>
  by_cases c:strLt x s=true
  ·have e:atS (x::r) s=atS r s+1:=by rw[atS,bm c]
   have:=ih (by rw[e]at hl;simpa using hl);simp only[e,List.getElem_cons_succ];exact this
  have e:atS (x::r) s=0:=by rw[atS,al c]
  simp only[e,aI7];simpa using c
theorem a2y{l:List ByteArray}{s y:ByteArray}:y∈C8 l s↔y∈l∨y=s:=by
 unfold C8;split
 ·rename_i h
  have hm:s∈l:=by
   have:=J1.1 h.2;rw[←this];simp[cd,h.1]
  exact⟨.inl,fun h=>h.elim id fun e=>e▸hm⟩
 constructor
 ·intro h;rcases jm.1 h with h|h
  ·exact .inl (Ix h)
  rcases dq.1 h with h|h
  ·exact .inr h
  exact .inl (av2 h)
 rintro(h|h)
 ·rw[←Gv (atS l s) l]at h;rcases jm.1 h with h|h
  ·exact jm.2 (.inl h)
  exact jm.2 (.inr (dq.2 (.inr h)))
 exact jm.2 (.inr (dq.2 (.inl h)))
theorem abb(l:List ByteArray)(s:ByteArray):C8 l s=l∨(C8 l s).length=l.length+1:=by
 unfold C8;split
 ·exact .inl rfl
 have:=ak6 l s;refine .inr ?_;simp only[db,ca,dw,uv];omega
theorem ah5{a b:ByteArray}(h:strLt a b=false)(k:a≠b):strLt b a=true:=by
 rw[Qf,decide_eq_false_iff_not]at h;rw[Qf,decide_eq_true_eq];apply Decidable.byContradiction;intro h2;have:a.toList=b.toList:=List.le_antisymm (aKq.1 h2) (aKq.1 h);exact k (Xl (by unfold kf;rw[this];exact gq _))
theorem ara{l:List ByteArray}{s:ByteArray}(h:l.Pairwise fun a b=>strLt a b=true):(C8 l s).Pairwise fun a b=>strLt a b=true:=by
 unfold C8;split
 ·exact h
 rename_i hc
 have hd:∀y∈l.drop (atS l s),strLt s y=true:=by
  intro y hy;obtain⟨i,hi,rfl⟩:=jd hy;rw[uv]at hi
  have ha:atS l s<l.length:=by omega
  have h0:strLt s l[atS l s]=true:=ah5 (auh ha) fun q=>hc ⟨ha,by rw[J1];simp[cd,ha,q]⟩;rw[List.getElem_drop]
  cases i with
  |zero=>exact h0
  |succ i=>exact Oq h0 (Bt.1 h _ _ ha (by omega) (by omega))
 have ht:∀y∈l.take (atS l s),strLt y s=true:=by
  intro y hy;obtain⟨i,hi,rfl⟩:=jd hy;rw[dw]at hi;rw[a2u];exact aug (by omega) (by omega)
 rw[aac];refine⟨h.sublist (List.take_sublist _ _),Ek.2 ⟨hd,h.sublist (List.drop_sublist _ _)⟩,fun a ha b hb=>?_⟩;rcases dq.1 hb with e|hb
 ·rw[e];exact ht a ha
 exact Oq (ht a ha) (hd b hb)
theorem axb{L:List ByteArray}:∀{M:List ByteArray},L.Nodup→(∀s∈L,s∈M)→L.length≤M.length:=by
 induction L with
 |nil=>intro M _ _;simp
 |cons a r ih=>
  intro M hn hs;rw[aF0]at hn;obtain⟨p,q,rfl⟩:=a7b (hs a (by simp))
  have:=ih (M:=p++q) hn.2 fun x hx=>by
   have:=hs x (by simp[hx]);have hxa:x≠a:=fun w=>hn.1 (w▸hx);simp only[jm,dq]at this⊢;rcases this with h|h|h
   ·exact .inl h
   ·exact absurd h hxa
   exact .inr h
  simp at this⊢;omega
def Lq(t:Tr)(out:List ByteArray)(s:ByteArray):List ByteArray:=(Bj t.ns s).ins.foldl C8 out
def Vr(t:Tr)(out:List ByteArray):Nat→Nat→List ByteArray
 |0,_=>out
 |k+1,i=>if out.length<(Lq t out (out.getD i ⟨#[]⟩)).length then Lq t out (out.getD i ⟨#[]⟩)else Vr t out k (i+1)
def Jj(t:Tr)(out:List ByteArray):List ByteArray:=Vr t out out.length 0
def Y5(t:Tr):Nat→List ByteArray→List ByteArray
 |0,out=>out
 |k+1,out=>if out.length<(Jj t out).length then Y5 t k (Jj t out)else Jj t out
def Eo(t:Tr)(s:ByteArray):List ByteArray:=Y5 t t.ns.length [s]
def yy(t:Tr)(s:ByteArray)(out:List ByteArray)(n:Nd):List ByteArray:=if hasB (Eo t n.n) s then C8 out n.n else out
def Dx(t:Tr)(s:ByteArray):List ByteArray:=t.ns.foldl (yy t s) []
theorem a5q{l:List ByteArray}{y:ByteArray}:∀{out:List ByteArray},y∈l.foldl C8 out↔y∈out∨y∈l:=by
 induction l with
 |nil=>intro out;simp
 |cons a r ih=>intro out;rw[qe,ih,a2y];simp only[dq,or_assoc]
theorem a9f{l:List ByteArray}:∀out:List ByteArray,l.foldl C8 out=out∨out.length<(l.foldl C8 out).length:=by
 induction l with
 |nil=>intro out;exact .inl rfl
 |cons a r ih=>
  intro out;rw[qe];rcases abb out a with h|h
  ·rw[h];exact ih out
  rcases ih (C8 out a)with k|k
  ·rw[k];exact .inr (by omega)
  exact .inr (by omega)
theorem aol{l:List ByteArray}:∀{out:List ByteArray},out.Pairwise (fun a b=>strLt a b=true)→(l.foldl C8 out).Pairwise fun a b=>strLt a b=true:=by
 induction l with
 |nil=>intro out h;exact h
 |cons a r ih=>intro out h;exact ih (ara h)
theorem ai7{l:List ByteArray}(h:l.Pairwise fun a b=>strLt a b=true):l.Nodup:=by
 rw[D1];exact h.imp a3p
structure Sh(t:Tr)(out:List ByteArray):Prop where
 aCo:out.Pairwise fun a b=>strLt a b=true
 sub:∀s∈out,∃n∈t.ns,n.n=s
theorem Sh.len{t:Tr}{out:List ByteArray}(h:Sh t out):out.length≤t.ns.length:=by
 have:=axb (M:=t.ns.map Nd.n) (ai7 h.aCo) fun s hs=>by obtain⟨n,hn,e⟩:=h.sub s hs;exact iw.2 ⟨n,hn,e⟩
 rwa[ag]at this
theorem a8v{t:Tr}(ht:A8 t){out:List ByteArray}(h:Sh t out){s:ByteArray}(hs:s∈out):Sh t (Lq t out s):=by
 unfold Lq;obtain⟨_,_,_,h4,_⟩:=a9t t.ns s (h.sub s hs);refine⟨aol h.aCo,fun y hy=>?_⟩;rcases a5q.1 hy with k|k
 ·exact h.sub y k
 exact a4y ht h4 k
theorem Zh(t:Tr)(out:List ByteArray):∀k i,(i+k≤out.length)→(Vr t out k i=out∧∀j,i≤j→j<i+k→Lq t out (out.getD j ⟨#[]⟩)=out)∨(∃j,i≤j∧j<i+k∧Vr t out k i=Lq t out (out.getD j ⟨#[]⟩)∧out.length<(Vr t out k i).length):=by
 intro k
 induction k with
 |zero=>intro i _;exact .inl ⟨rfl,fun j h1 h2=>by omega⟩
 |succ k ih=>
  intro i hi;unfold Vr;split
  ·rename_i h;exact .inr ⟨i,by omega,by omega,rfl,h⟩
  rename_i h;rcases ih (i+1) (by omega)with ⟨h1,h2⟩|⟨j,h1,h2,h3,h4⟩
  ·refine .inl ⟨h1,fun j g1 g2=>?_⟩;by_cases e:j=i
   ·subst e;rcases a9f (l:=(Bj t.ns (out.getD j ⟨#[]⟩)).ins) out with q|q
    ·exact q
    exact absurd q h
   exact h2 j (by omega) (by omega)
  exact .inr ⟨j,by omega,by omega,h3,h4⟩
theorem a9k{t:Tr}(ht:A8 t){out:List ByteArray}(h:Sh t out):Sh t (Jj t out):=by
 rcases Zh t out out.length 0 (by omega)with ⟨h1,_⟩|⟨j,_,h2,h3,_⟩
 ·unfold Jj;rw[h1];exact h
 unfold Jj;rw[h3]
 have:out.getD j ⟨#[]⟩∈out:=by
  have hj:j<out.length:=by omega
  simp[cd,hj]
 exact a8v ht h this
theorem anu{t:Tr}{out:List ByteArray}{y:ByteArray}(hy:y∈out):y∈Jj t out:=by
 rcases Zh t out out.length 0 (by omega)with ⟨h1,_⟩|⟨j,_,h2,h3,_⟩
 ·unfold Jj;rw[h1];exact hy
 unfold Jj;rw[h3];exact a5q.2 (.inl hy)
theorem ai9{t:Tr}(ht:A8 t):∀k out,Sh t out→t.ns.length<out.length+k→Sh t (Y5 t k out)∧(∀y∈out,y∈Y5 t k out)∧∀s∈Y5 t k out,∀z∈(Bj t.ns s).ins,z∈Y5 t k out:=by
 intro k
 induction k with
 |zero=>intro out h hk;have:=h.len;omega
 |succ k ih=>
  intro out h hk;unfold Y5;split
  ·rename_i hl;obtain⟨a,b,c⟩:=ih (Jj t out) (a9k ht h) (by omega);exact⟨a,fun y hy=>b y (anu hy),c⟩
  rename_i hl;rcases Zh t out out.length 0 (by omega)with ⟨h1,h2⟩|⟨j,_,_,_,h4⟩
  ·have e:Jj t out=out:=h1;rw[e];refine⟨h,fun y hy=>hy,fun s hs z hz=>?_⟩;obtain⟨i,hi,rfl⟩:=jd hs;have:=h2 i (by omega) (by omega)
   have e1:out.getD i ⟨#[]⟩=out[i]:=by simp[cd,hi]
   rw[e1]at this;rw[←this];exact a5q.2 (.inr hz)
  exact absurd h4 hl
theorem Ti{t:Tr}(ht:A8 t){s:ByteArray}(hs:∃n∈t.ns,n.n=s):Sh t (Eo t s)∧s∈Eo t s∧∀y∈Eo t s,∀z∈(Bj t.ns y).ins,z∈Eo t s:=by
 have h:Sh t [s]:=⟨by simp,fun y hy=>by simp at hy;subst hy;exact hs⟩;obtain⟨a,b,c⟩:=ai9 ht t.ns.length [s] h (by simp);exact⟨a,b s (by simp),c⟩
theorem a8q{t:Tr}{s:ByteArray}{n:Nd}(hn:n∈t.ns)(h:s∈Eo t n.n):n.n∈Dx t s:=by
 have key:∀(l:List Nd) (out:List ByteArray),(n∈l∨n.n∈out)→n.n∈l.foldl (yy t s) out:=by
  intro l
  induction l with
  |nil=>intro out h;rcases h with h|h;cases h;exact h
  |cons m r ih=>
   intro out hm;rw[qe];refine ih _ ?_;rcases hm with hm|hm
   ·rcases dq.1 hm with e|e
    ·subst e;refine .inr ?_;unfold yy;rw[Yb.2 h,bm rfl];exact a2y.2 (.inr rfl)
    exact .inl e
   refine .inr ?_;unfold yy;split
   ·exact a2y.2 (.inl hm)
   exact hm
 exact key t.ns [] (.inl hn)
theorem aAf(R:Rec){t u:Tr}(ht:A8 t)(hu:A8 u){S:ByteArray→Prop}(hcl:∀q∈t.ns,S q.n→∀s∈q.ins,S s)(K7:∀m,m∈u.ns→m∈t.ns)(Tl:∀n∈t.ns,S n.n→(p8 mf n.f u.ps).1=(p8 mf n.f t.ps).1)(bk:Bk):
  ∀i,i≤(nf u.ns).length→∀n∈t.ns,S n.n→n.n∈(nf u.ns).take i→xu n.n (Dv R u (wg R t bk).1 i).2=xu n.n (wg R t bk).2:=by
 obtain⟨T1,T2⟩:=ar5 R ht bk
 generalize wg R t bk=a at*
 intro i
 induction i with
 |zero=>intro _ n _ _ h;simp at h
 |succ i ih=>
  intro hi
  have hl:i<(nf u.ns).length:=by omega
  have I2:=ih (by omega);have I3:=(aCq R hu a.1 i (by omega)).kp;obtain⟨m,hm,hmo,hmn,aoc,aiw⟩:=Hz hu hl;have hmt:=K7 m hm;have re:=Rj (R:=R) (bk:=a.1) hl
  generalize hx:Dv R u a.1 i=x at*
  generalize hsd:(nf u.ns)[i]=s at*
  unfold Rk at re;rw[hmo]at re;intro q hq hqS hqs;rw[akg hl,hsd]at hqs;rw[re];show xu q.n (Oi s _ x.2)=_;by_cases e:q.n=s
  ·have eq:q=m:=uniq ht.nodup hq hmt (by rw[e,hmn]);subst eq
   have aG7:Sq R u x.2 q=Sq R t a.2 q:=by
    unfold Sq;rw[Tl q hq hqS]
    congr 1
    unfold Na;refine Cy fun z hz=>?_;obtain⟨w,w1,rfl⟩:=a4y ht hq hz;rw[I2 w w1 (hcl q hq hqS _ hz) (aiw _ hz)]
   obtain⟨k,k1,k2⟩:=T1 q hq;rw[aG7,auc (I3 _ _ k2),e,Rx,←e,k1]
  rw[Kw e];exact I2 q hq hqS (hqs.resolve_right e)
theorem ax2(R:Rec){t u:Tr}(ht:A8 t)(hu:A8 u){S:ByteArray→Prop}(hcl:∀q∈t.ns,S q.n→∀s∈q.ins,S s)(K7:∀m,m∈u.ns→m∈t.ns)(Tl:∀n∈t.ns,S n.n→(p8 mf n.f u.ps).1=(p8 mf n.f t.ps).1){m:Nd}(hm:m∈u.ns)(hS:S m.n):
  a0y (wg R t []).2 (wg R u (wg R t []).1).2 m=false:=by
 have U:=aAf R ht hu hcl K7 Tl [] _ (ay _) m (K7 m hm) hS (by rw[dt];exact hu.all m hm);rw[Ul]at U;obtain⟨k,k1,_⟩:=(ar5 R ht []).1 m (K7 m hm);unfold a0y;rw[k1]at U⊢;rw[U];simp
theorem aFb{t u:Tr}(ht:A8 t)(hu:A8 u){e:Edt}(he:e.k=0)(h:applyN mf t e=(u,0)):
  (∀m,m∈u.ns→m∈t.ns)∧∀n∈t.ns,(∀v∈n.f.vs,v.n≠e.n)→(p8 mf n.f u.ps).1=(p8 mf n.f t.ps).1:=by
 obtain⟨h1,h2,_⟩:=agm h
 have hk:so t e=if Di t e.n<0 then(t,4)else(⟨a1r t.ps (Di t e.n).toNat e.v,t.ns⟩,0):=by
  unfold so;rw[he];simp
 rw[hk]at h1 h2;by_cases c1:Di t e.n<0
 ·rw[bm c1]at h1;cases h1
 rw[al c1]at h2;obtain⟨k,hk,k1,k2⟩:=aeh c1;rw[k2]at h2;have e1:((k:Int)).toNat=k:=rfl;rw[e1]at h2
 have mem:∀m,m∈u.ns↔m∈t.ns:=by
  intro m;rw[h2];exact(Wm Nd.n _).mem_iff
 have aD4:∀p,p∈u.ps↔p∈a1r t.ps k e.v:=by
  intro p;rw[h2];exact(Wm Pm.n _).mem_iff
 have gk:t.ps.getD k p0=t.ps[k]:=by simp[cd,hk]
 have hnd:=a9e ht.pms;have aGc:=a9e hu.pms;refine⟨fun m hm=>(mem m).1 hm,fun n hn hv=>?_⟩;obtain⟨a1,a2⟩:=abi ht hn;obtain⟨b1,_⟩:=abi hu ((mem n).2 hn);rw[a1,b1];refine Cy fun v hvm=>?_;have hne:=hv v hvm;rw[Rp,Rp]
 have pot:∀p∈t.ps,p.n≠e.n→p∈u.ps:=by
  intro p hp hne;rw[aD4];unfold a1r;obtain⟨i,hi,rfl⟩:=jd hp
  have:k≠i:=fun q=>by subst q;exact hne k1
  exact i6.2 ⟨i,by simpa using hi,by rw[List.getElem_set,al this]⟩
 have pou:∀p∈u.ps,p.n=e.n∨p∈t.ps:=by
  intro p hp;rw[aD4]at hp;unfold a1r at hp;obtain⟨i,hi,rfl⟩:=jd hp
  have Ds:i<t.ps.length:=by simpa using hi
  rw[List.getElem_set];by_cases q:k=i
  ·rw[bm q,gk];exact .inl k1
  rw[al q];exact .inr (cy Ds)
 by_cases b:∃p∈t.ps,p.n=v.n
 ·obtain⟨p,hp,hpn⟩:=b;have g1:=al5 hnd hp;have g2:=al5 aGc (pot p hp (by rw[hpn];exact hne));rw[hpn]at g1 g2;rw[g1,g2]
 have g1:xu v.n (Ia t.ps)=none:=al6 fun p hp q=>b ⟨p,hp,q⟩
 have g2:xu v.n (Ia u.ps)=none:=al6 fun p hp q=>by
  rcases pou p hp with w|w
  ·exact hne (by rw[←q,w])
  exact b ⟨p,w,q⟩
 rw[g1,g2]
theorem atx(R:Rec){t u:Tr}(ht:A8 t)(hu:A8 u){e:Edt}(he:e.k=0)(h:applyN mf t e=(u,0)){s:ByteArray}(hs:s∈Jw R t u):
  ∃n∈t.ns,(∃v∈n.f.vs,v.n=e.n)∧s∈Dx t n.n:=by
 obtain⟨K7,Tl⟩:=aFb ht hu he h;unfold Jw at hs;obtain⟨m,hm,rfl⟩:=iw.1 hs;rw[C3]at hm;have hmt:=K7 m hm.1;obtain⟨n1,n2,n3⟩:=Ti ht ⟨m,hmt,rfl⟩;apply aak;intro hc;have:=ax2 R ht hu (S:=fun s=>s∈Eo t m.n) (fun q hq hS s hs=>n3 q.n hS s (by rw[ht.node q hq];exact hs)) K7 (fun n hn hS=>Tl n hn fun v hv q=>hc ⟨n,hn,⟨v,hv,q⟩,a8q hmt hS⟩) hm.1 n2;rw[hm.2]at this;cases this
end Go.PI
namespace Go.PI
open Go Go.Proofs
theorem abg(l:List ByteArray):((l.map nh).all fun e=>e.all D.one)=true:=by
 rw[cz];intro e he;obtain⟨x,_,rfl⟩:=iw.1 he;simp[nh,D.one]
theorem a8r(t:Tr)(s:ByteArray):∀(l:List Nd) (out:List ByteArray),(l.foldl (yy t s) out).length≤out.length+l.length:=by
 intro l
 induction l with
 |nil=>intro out;simp
 |cons n r ih=>
  intro out;have:=ih (yy t s out n)
  have h2:(yy t s out n).length≤out.length+1:=by
   unfold yy;split
   ·rcases abb out n.n with h|h
    ·rw[h];omega
    omega
   omega
  rw[qe,ca];omega
theorem aAg(l:List ByteArray)(s:ByteArray):C8 l s≠[]:=fun h=>by
 have:s∈C8 l s:=a2y.2 (.inr rfl);rw[h]at this;cases this
section
variable{P:Program}(A:Pr7 P)
theorem az2(l:List ByteArray)(s:ByteArray)(hl:l.length≤2^30):iq P A.Az [nr l,.str s] (nr (C8 l s)):=by
 refine du A.mo A.afj (by simp) ?_;show ko P Tg (lg _ _) _;simp only[Tg,nr,go_sem];refine r9 (fun s'=>s'.base=0∧s'.tmp 0= .d (.ft 1 (l.map nh))∧s'.tmp 1= .d (.str s)∧s'.tmp 5= .d (.int ab (atS l s))) ?_ ?_
 ·refine fh l.length (fun k s'=>s'.base=0∧s'.tmp 0= .d (.ft 1 (l.map nh))∧s'.tmp 1= .d (.str s)∧s'.tmp 5= .d (.int ab k)∧k≤atS l s) ?_ ?_
  ·simp only[go_sem,aa,reduceCtorEq];simp
  rintro k s' hk ⟨eb,f0,f1,f5,ha⟩;have hle:=ak6 l s;by_cases hlt:(k:Int)<l.length
  ·have df:k<l.length:=by omega
   have wk:=cu ((k:Int)+1) (by omega) (by omega)
   have e:l.getD k ⟨#[]⟩=l[k]:=by simp[cd,df]
   simp only[go_sem,aa,reduceCtorEq,f0,f1,f5,ag,hlt,Ck df,bp,aq,eb];cases c:strLt (l.getD k ⟨#[]⟩) s
   ·have c':=c;unfold strLt at c'
    have:k=atS l s:=by
     rcases V0 k (atS l s)with h|h
     ·have:=aug h df;rw[e]at c;rw[c]at this;cases this
     omega
    subst this;simp only[go_sem,aa,reduceCtorEq,c',f0,f1,f5]
   have c':=c;unfold strLt at c';simp only[go_sem,aa,reduceCtorEq,c',f0,f1,f5,wk,df];refine⟨by simp,?_⟩;rcases V0 k (atS l s)with h|h
   ·omega
   have hk2:k=atS l s:=by omega
   have:=auh (l:=l) (s:=s) (by omega);rw[e]at c;simp only[←hk2]at this;rw[c]at this;cases this
  have:k=atS l s:=by omega
  subst this;simp only[go_sem,aa,reduceCtorEq,f0,f1,f5,ag,hlt,eb]
 rintro s' ⟨eb,f0,f1,f5⟩;have hle:=ak6 l s
 have hm:C8 l s≠l→C8 l s=l.take (atS l s)++(s::l.drop (atS l s)):=by unfold C8;split<;>simp
 rw[a8n];refine aky (fun s'=>s'.base=0∧s'.tmp 0= .d (.ft 1 (l.map nh))∧s'.tmp 1= .d (.str s)∧s'.tmp 5= .d (.int ab (atS l s))∧C8 l s=l.take (atS l s)++(s::l.drop (atS l s))) ?_ ?_
 ·by_cases hlt:(atS l s:Int)<l.length
  ·have df:atS l s<l.length:=by omega
   simp only[go_sem,aa,reduceCtorEq,f0,f1,f5,ag,hlt,Ck df,bp,aq,eb];cases c:kf (l.getD (atS l s) ⟨#[]⟩) s
   ·have c':=c;unfold kf at c';simp only[go_sem,aa,reduceCtorEq,c',f0,f1,f5];unfold C8;rw[al (by rw[c];simp)]
   have c':=c;unfold kf at c'
   have hp:C8 l s=l:=by unfold C8;rw[bm ⟨df,c⟩]
   simp only[go_sem,aa,reduceCtorEq,c',f0,hp]
  simp only[go_sem,aa,reduceCtorEq,f0,f1,f5,ag,hlt,eb];unfold C8;rw[al (by omega)]
 clear eb f0 f1 f5 hm;rintro s' ⟨eb,f0,f1,f5,hp⟩;have h1:=abg (l.take (atS l s));have h2:=abg (l.drop (atS l s));rw[hp,fu,gf,Gx,aus];rw[Gx]at h1;rw[aus]at h2
 have hj:(atS l s:Int)≤l.length:=by omega
 have hn1:((l.map nh).take (atS l s)).length=atS l s:=by simp;omega
 have hn2:((l.map nh).drop (atS l s)).length=l.length-atS l s:=by simp
 have b1:((l.map nh).take (atS l s)).length*16≤140737488355328:=by omega
 have b2:(((l.map nh).take (atS l s)).length+1)*16≤140737488355328:=by omega
 have b3:(((l.map nh).take (atS l s)).length+1+((l.map nh).drop (atS l s)).length)*16≤140737488355328:=by omega
 simp only[go_sem,aa,reduceCtorEq,f0,f5,ag,bp,aq,eb,hle,a3g]
 have hT:(l.map nh).take l.length=l.map nh:=by rw[←ag (f:=nh),dt]
 generalize(l.map nh).take (atS l s)=X at*
 generalize hY:(l.map nh).drop (atS l s)=Y at*
 by_cases h0:X.length=0
 ·have:X=[]:=ix h0;subst this;simp only[ed,fj]at b3
  have e3:Y.length+1=1+Y.length:=by omega
  simp only[go_sem,aa,ey,ah,reduceCtorEq,dh,Lo,qm,f0,f1,f5,azp,ag,bp,aq,hle,a3g,nh,hT,hY,h2,b3,e3]
 simp only[go_sem,aa,reduceCtorEq,dh,Lo,qm,f0,f1,f5,azp,ag,bp,aq,hle,h0,b1,b2,b3,h2,nh,hT,hY,db];rw[oq];rfl
theorem aqm(t:Tr)(ht:A8 t)(h20:t.ns.length≤1000)(hi:∀n∈t.ns,n.ins.length≤100)(s:ByteArray)(hs:∃n∈t.ns,n.n=s):iq P A.Dk [.agg (r8 t),.str s] (nr (Eo t s)):=by
 have hix:=fun x=>akx A.toPr t x (by omega);have Q0:=fun l x hl=>az2 A l x hl;refine du A.mo A.a5d (by simp) ?_;show ko P (Nr A.x7 A.Az) (lg _ _) _;simp only[r8,jn,l7,nr]at hix Q0;simp only[Nr,r8,jn,l7,nr,go_sem,aa,ae,dh]
 refine fh t.ns.length (fun k s'=>∃(out:List ByteArray) (b:Bool),s'.base=0∧s'.tmp 2= .ic 2 (s'.av 2) 0∧s'.da 2=some (.loc [.d (.ft 2 (t.ps.map tx)),.d (.ft 5 (t.ns.map wz))])∧
  s'.tmp 5= .d (.ft 1 (out.map nh))∧s'.tmp 6= .d (.bool b)∧Sh t out∧(b=true→k+1≤out.length∧Y5 t (t.ns.length-k) out=Eo t s)∧(b=false→out=Eo t s)) ?_ ?_
 ·refine⟨[s],true,?_⟩;simp only[go_sem,aa];refine⟨rfl,⟨by simp,fun y hy=>by simp at hy;subst hy;exact hs⟩,fun _=>rfl,fun h=>h.elim⟩
 rintro k s' hk ⟨out,b,eb,f2,b2,f5,f6,hN,hb1,hb2⟩;have hol:=hN.len
 cases b with
 |false=>
  have:=hb2 rfl;subst this;simp only[go_sem,aa,eb,f5,f6]
 |true=>
  obtain⟨hk1,hk2⟩:=hb1 rfl;simp only[go_sem,aa,eb,f5,f6,ag];refine r9 (fun s2=>s2.base=0∧s2.tmp 2= .ic 2 (s2.av 2) 0∧s2.da 2=some (.loc [.d (.ft 2 (t.ps.map tx)),.d (.ft 5 (t.ns.map wz))])∧s2.tmp 7= .d (.int ab out.length)∧s2.tmp 5= .d (.ft 1 ((Jj t out).map nh))) ?_ ?_
  ·refine fh out.length (fun i s2=>s2.base=0∧s2.tmp 2= .ic 2 (s2.av 2) 0∧s2.da 2=some (.loc [.d (.ft 2 (t.ps.map tx)),.d (.ft 5 (t.ns.map wz))])∧s2.tmp 7= .d (.int ab out.length)∧s2.tmp 5= .d (.ft 1 (out.map nh))∧
    s2.tmp 8= .d (.int ab i)∧Vr t out (out.length-i) i=Jj t out) ?_ ?_
   ·simp only[go_sem,aa,f2,b2,f5];rfl
   clear eb f2 b2 f5 f6;rintro i s2 hi2 ⟨eb,f2,b2,f7,f5,f8,hp⟩;by_cases hlt:(i:Int)<out.length
   ·have df:i<out.length:=by omega
    have wk:=cu ((i:Int)+1) (by omega) (by omega);have hg:=Ck df;obtain⟨g1,g2,g3,g4,g5⟩:=a9t t.ns (out.getD i ⟨#[]⟩) (hN.sub _ (by simp[cd,df]));obtain⟨j,hj⟩:∃j:Nat,Lp t.ns (out.getD i ⟨#[]⟩)=(j:Int):=⟨_,(aJf g2).symm⟩;rw[hj]at g1 g3
    have hjl:j<t.ns.length:=by omega
    have e:Bj t.ns (out.getD i ⟨#[]⟩)=t.ns.getD j n0:=by unfold Bj;rw[hj];rfl
    have hgn:=Fe hjl
    have re:Lq t out (out.getD i ⟨#[]⟩)=(t.ns.getD j n0).ins.foldl C8 out:=by unfold Lq;rw[e]
    rw[e]at g4;have hil:=hi _ g4;have hio:=hix (out.getD i ⟨#[]⟩);rw[g1]at hio
    have hpn:Vr t out (out.length-i) i=if out.length<((t.ns.getD j n0).ins.foldl C8 out).length then(t.ns.getD j n0).ins.foldl C8 out else Vr t out (out.length-(i+1)) (i+1):=by
     have q:out.length-i=(out.length-(i+1))+1:=by omega
     rw[q,Vr,re]
    rw[hp]at hpn;have hfl:=a9f (l:=(t.ns.getD j n0).ins) out
    have hfn:Sh t ((t.ns.getD j n0).ins.foldl C8 out):=by rw[←re];exact a8v ht hN (by simp[cd,df])
    generalize t.ns.getD j n0=nd at*
    simp only[x6,lj,nr]at hgn;simp only[go_sem,aa,ae,reduceCtorEq,eb,f2,b2,f5,f7,f8,hlt,hg,bp,aq];refine il hio ?_;simp only[go_sem,aa,ae,hgn,bp,aq];refine r9 (fun s3=>s3.base=0∧s3.tmp 2= .ic 2 (s3.av 2) 0∧s3.da 2=some (.loc [.d (.ft 2 (t.ps.map tx)),.d (.ft 5 (t.ns.map wz))])∧s3.tmp 7= .d (.int ab out.length)∧s3.tmp 8= .d (.int ab i)∧s3.tmp 5= .d (.ft 1 ((nd.ins.foldl C8 out).map nh))) ?_ ?_
    ·refine fh nd.ins.length (fun m s3=>s3.base=0∧s3.tmp 2= .ic 2 (s3.av 2) 0∧s3.da 2=some (.loc [.d (.ft 2 (t.ps.map tx)),.d (.ft 5 (t.ns.map wz))])∧s3.tmp 7= .d (.int ab out.length)∧s3.tmp 8= .d (.int ab i)∧
      s3.tmp 9= .d (.ft 1 (nd.ins.map nh))∧s3.tmp 10= .d (.int ab m)∧s3.tmp 5= .d (.ft 1 (((nd.ins.take m).foldl C8 out).map nh))) ?_ ?_
     ·simp only[go_sem,aa,f2,b2,f5,f7,f8,av5]
     clear eb f2 b2 f5 f7 f8;rintro m s3 hm ⟨eb,f2,b2,f7,f8,f9,f10,f5⟩;by_cases Tn:(m:Int)<nd.ins.length
     ·have Kd:m<nd.ins.length:=by omega
      have wk2:=cu ((m:Int)+1) (by omega) (by omega);have hg2:=Ck Kd
      have hs2:(nd.ins.take (m+1)).foldl C8 out=C8 ((nd.ins.take m).foldl C8 out) (nd.ins.getD m ⟨#[]⟩):=by
       rw[fm,mc];simp[Kd,cd]
      have hl2:((nd.ins.take m).foldl C8 out).length≤2^30:=by
       have:∀(l:List ByteArray) (o:List ByteArray),(l.foldl C8 o).length≤o.length+l.length:=by
        intro l
        induction l with
        |nil=>intro o;simp
        |cons a r ih=>
         intro o;have:=ih (C8 o a);rw[qe,ca];rcases abb o a with h|h
         ·rw[h]at this⊢;omega
         omega
       have h3:=this (nd.ins.take m) out;rw[dw]at h3;omega
      have hp2:=Q0 _ (nd.ins.getD m ⟨#[]⟩) hl2;rw[←hs2]at hp2;simp only[go_sem,aa,reduceCtorEq,eb,f5,f9,f10,ag,Tn,hg2,bp,aq];refine il hp2 ?_;simp only[go_sem,aa,reduceCtorEq,f2,b2,f5,f7,f8,f9,f10,wk2,Kd];simp
     have:m=nd.ins.length:=by omega
     subst this;rw[dt]at f5;simp only[go_sem,aa,reduceCtorEq,eb,f2,b2,f5,f7,f8,f9,f10,ag,Tn]
    clear eb f2 b2 f5 f7 f8;rintro s3 ⟨eb,f2,b2,f7,f8,f5⟩;have aDx:=hfn.len;by_cases hc:out.length<(nd.ins.foldl C8 out).length
    ·have hc':(out.length:Int)<(nd.ins.foldl C8 out).length:=by omega
     rw[bm hc]at hpn;simp only[go_sem,aa,reduceCtorEq,eb,f2,b2,f5,f7,f8,ag,hc',hpn]
    have hc':¬(out.length:Int)<(nd.ins.foldl C8 out).length:=by omega
    rw[al hc]at hpn;rcases hfl with hfl|hfl
    ·simp only[go_sem,aa,reduceCtorEq,eb,f2,b2,f5,f7,f8,ag,wk,df,hfl];exact⟨by simp,hpn.symm⟩
    exact absurd hfl hc
   have:i=out.length:=by omega
   subst this;rw[Uz]at hp;have hp:out=Jj t out:=hp;simp only[go_sem,aa,reduceCtorEq,eb,f2,b2,f5,f7,f8,hlt];rw[←hp]
  clear eb f2 b2 f5 f6;rintro s2 ⟨eb,f2,b2,f7,f5⟩;have hN2:=a9k ht hN;have hl2:=hN2.len
  have hq:t.ns.length-k=(t.ns.length-(k+1))+1:=by omega
  rw[hq,Y5]at hk2
  have hkn:k<t.ns.length:=by omega
  by_cases hc:out.length<(Jj t out).length
  ·have hc':(out.length:Int)<(Jj t out).length:=by omega
   rw[bm hc]at hk2;simp only[go_sem,aa,reduceCtorEq,eb,f2,b2,f5,f7,ag,hc',hkn];refine⟨Jj t out,true,?_⟩;simp only[go_sem];exact⟨hN2,fun _=>⟨by omega,hk2⟩,fun h=>h.elim⟩
  have hc':¬(out.length:Int)<(Jj t out).length:=by omega
  rw[al hc]at hk2;simp only[go_sem,aa,reduceCtorEq,eb,f2,b2,f5,f7,ag,hc',hkn];refine⟨Jj t out,false,?_⟩;simp only[go_sem];exact⟨hN2,(fun h=>h.elim),fun _=>hk2⟩
theorem aw0(t:Tr)(ht:A8 t)(h20:t.ns.length≤1000)(hi:∀n∈t.ns,n.ins.length≤100)(s:ByteArray):iq P A.Ex [.agg (r8 t),.str s] (yc 1 ((Dx t s).map nh)):=by
 have hnd:=fun x hx=>aqm A t ht h20 hi x hx;have Q0:=fun l x hl=>az2 A l x hl;have aDv:=fun l hl=>aqe A.toPr l s hl;refine du A.mo A.a7t (by simp) ?_;show ko P (P8 A.Dk A.tn A.Az) (lg _ _) _;simp only[r8,jn,l7,nr]at hnd Q0 aDv;simp only[P8,r8,jn,l7,go_sem,ae]
 refine fh t.ns.length (fun k s'=>s'.base=0∧s'.tmp 1= .d (.str s)∧s'.tmp 2= .ic 2 (s'.av 2) 0∧s'.da 2=some (.loc [.d (.ft 2 (t.ps.map tx)),.d (.ft 5 (t.ns.map wz))])∧
  s'.tmp 6= .d (.int ab k)∧s'.tmp 5= .d (yc 1 (((t.ns.take k).foldl (yy t s) []).map nh))) ?_ ?_
 ·simp only[go_sem,aa,av5,yc]
 rintro k s' hk ⟨eb,f1,f2,b2,f6,f5⟩;by_cases hlt:(k:Int)<t.ns.length
 ·have df:k<t.ns.length:=by omega
  have wk:=cu ((k:Int)+1) (by omega) (by omega);have hg:=Fe df
  have hgn:t.ns.getD k n0=t.ns[k]:=by simp[cd,df]
  have re:(t.ns.take (k+1)).foldl (yy t s) []=yy t s ((t.ns.take k).foldl (yy t s) []) t.ns[k]:=by
   rw[fm,mc];simp[df]
  have hul:=a8r t s (t.ns.take k) [];rw[dw]at hul;rw[hgn]at hg;have hm:t.ns[k]∈t.ns:=cy df;have h1:=hnd t.ns[k].n ⟨_,hm,rfl⟩;have hnl:=(Ti ht ⟨_,hm,rfl⟩).1.len;have h2:=aDv (Eo t t.ns[k].n) (by omega)
  generalize(t.ns.take k).foldl (yy t s) []=out at*
  have h3:=Q0 out t.ns[k].n (by simp at hul;omega)
  generalize t.ns[k]=n at*
  simp only[x6,lj]at hg;simp only[go_sem,aa,ae,ah,reduceCtorEq,eb,f2,b2,f6,ag,hlt,hg,bp,aq];refine il h1 ?_;simp only[go_sem,aa,f1];refine il h2 ?_;cases c:hasB (Eo t n.n) s
  ·have e:yy t s out n=out:=by unfold yy;rw[c];rfl
   simp only[go_sem,aa,reduceCtorEq,f1,f2,b2,f5,f6,wk,df,re,e];simp
  have e:yy t s out n=C8 out n.n:=by unfold yy;rw[c];rfl
  have e2:yc 1 ((C8 out n.n).map nh)= .ft 1 ((C8 out n.n).map nh):=by unfold yc;rw[al (by simp;exact aAg _ _)]
  simp only[go_sem,aa,ae,ah,f2,b2,f5,f6,hg,bp,aq];refine il (x:= .ft 1 ((C8 out n.n).map nh)) ?_ ?_
  ·unfold yc;split
   ·rename_i ho;rw[ho]at h3;exact h3.w0
   exact h3
  simp only[go_sem,aa,reduceCtorEq,f1,f2,b2,f5,f6,wk,df,re,e,e2];simp
 have:k=t.ns.length:=by omega
 subst this;rw[dt]at f5;simp only[go_sem,aa,ae,reduceCtorEq,eb,f2,b2,f5,f6,ag,hlt];rfl
end
def a1v(t:Tr)(n:ByteArray)(nd:Nd)(v:Vl):List ByteArray:=if kf v.n n then Dx t nd.n else[]
def aex(t:Tr)(n:ByteArray)(nd:Nd):List ByteArray:=nd.f.vs.flatMap (a1v t n nd)
def a9o(t:Tr)(n:ByteArray):List ByteArray:=t.ns.flatMap (aex t n)
theorem flat_len{α β:Type}{f:α→List β}{B:Nat}:∀{l:List α},(∀x∈l,(f x).length≤B)→(l.flatMap f).length≤l.length*B:=by
 intro l
 induction l with
 |nil=>intro _;simp
 |cons a r ih=>
  intro h;have h1:=h a (by simp);have h2:=ih fun x hx=>h x (by simp[hx]);rw[ad6,db,ca,Nat.succ_mul];omega
theorem flat_take{α β:Type}{f:α→List β}{l:List α}{k:Nat}(h:k<l.length):(l.take (k+1)).flatMap f=(l.take k).flatMap f++f l[k]:=by
 rw[V1 h,a1j];simp
theorem asv{l:List ByteArray}{s:ByteArray}(h:s∈l):hasB l s=true:=Yb.2 h
def ap1(n:ByteArray)(v:Int):List D:=[.int ab 0,.str n,.str ⟨#[]⟩,.int ab v,.str ⟨#[]⟩,.int ab 0,.cq,.cq,.cq]
def P0(n:ByteArray)(v:Int):Edt:=⟨0,n,⟨#[]⟩,v,⟨⟨#[]⟩,⟨0,[],[]⟩,[]⟩⟩
theorem azw(n:ByteArray)(v:Int):Wk (.agg (ap1 n v)) (.agg (Cx (P0 n v))):=
 WkL.agg (.cons (Wk.refl _) (.cons (Wk.refl _) (.cons (Wk.refl _) (.cons (Wk.refl _) (.cons (Wk.refl _) (.cons (Wk.refl _) (.cons Wk.cq (.cons Wk.cq (.cons Wk.cq .nil)))))))))
theorem axa(R:Rec){t u:Tr}(ht:A8 t)(hu:A8 u){n:ByteArray}{v:Int}(h:applyN mf t (P0 n v)=(u,0)):∀s∈Jw R t u,s∈a9o t n:=by
 intro s hs;obtain⟨m,hm,⟨w,hw,hwn⟩,hus⟩:=atx R ht hu rfl h hs;refine Ff.2 ⟨m,hm,Ff.2 ⟨w,hw,?_⟩⟩;have hwn:w.n=n:=hwn;have hus:s∈Dx t m.n:=hus;unfold a1v;rw[bm (J1.2 hwn)];exact hus
theorem awf{P:Program}{Q:Exit→PS→Prop}{s:PS}{c b:di}{i j:Nat}(M:PS→Prop)(h1:ko P c (Q6 i (Q6 j (ao0 M Q))) s)(h2:∀s',M s'→ko P b Q s'):ko P c (Q6 i (Q6 j (Vm P b Q))) s:=
 Em (fun e s' h=>by
  cases e with
  |exit k=>
   rw[S9]at h⊢;split
   ·rename_i hk;rw[bm hk]at h;exact h2 s' h
   rename_i hk;rw[al hk]at h;rw[S9]at h⊢;split
   ·rename_i hj;rw[bm hj]at h;exact h2 s' h
   rename_i hj;rw[al hj]at h;exact h
  |normal=>exact h2 s' h
  |_=>exact h) h1
structure PI0(n:ByteArray)(L:List ByteArray)(s':PS):Prop where
 base:s'.base=0
 t1:s'.tmp 1= .d (.str n)
 t9:s'.tmp 9= .d (yc 1 (L.map nh))
 t10:s'.tmp 10= .d (.int ab 0)
section
variable{P:Program}(A:Pr7 P){ρ:V5}
theorem aqx(hpr:K1 A.toPr mf)(t:Tr)(B6:M3 t)(hT:yf mf t=true)(hE:K2 t)(n:ByteArray)(v:Int):
  iq P A.C0 [.agg (r8 t),.agg (ap1 n v)] (.Aa [.agg (r8 (applyN mf t (P0 n v)).1),.int ab (applyN mf t (P0 n v)).2]):=by
 have h1:=Tb A.toPr2 hpr t B6;rw[bm hT]at h1
 have h2:=(ab0 A.toPr4 hpr t (P0 n v) (.inl rfl) hE ⟨by simp[P0],by simp[P0],by simp[P0],by simp[P0]⟩).args (ys:=[.agg (r8 t),.agg (ap1 n v)]) rfl fun i x y hx hy=>by
  match i,hx,hy with
  |0,hx,hy=>simp at hx hy;subst hx hy;exact Wk.refl _
  |1,hx,hy=>simp at hx hy;subst hx hy;exact azw n v
  |i+2,hx,hy=>simp at hx
 generalize applyN mf t (P0 n v)=r at h2⊢;refine du A.mo A.a2l (by simp) ?_;show ko P (Mp A.jl A.qd) (lg _ _) _;simp only[r8,jn,l7,ap1]at h1 h2;simp only[Mp,r8,jn,l7,ap1,go_sem,aa,ae];refine ff h1 ?_;simp only[go_sem,aa,jk,ae,reduceCtorEq];refine il h2 ?_;simp only[go_sem,aa,ae]
theorem a1s{R:Rec}{tab:Value}(L:a71 P ρ)(hρ:ρ.f 6=A.ec)(hR:aun P tab A.ss R)(t:Tr)(n:ByteArray)(v:Int)(ht:Mid t)(hn1:n.size<2^50){c:Nat→V×Value}(hc:HT tab c):
  Oc P c A.Kh [.agg (r8 t),.str n,.int ab v] (.bool true):=by
 have hpr:=abc A.toPr3 L hρ;have hw:=akv A.toPr5 hpr
 have hsh:=a95 A.toPr t ⟨by have:=ht.1;omega,fun n hn=>by obtain⟨q1,q2,q3,q4⟩:=ht.2.2 n hn;exact⟨by omega,by omega⟩⟩
 simp only[r8,jn,l7]at hsh;refine aee A.mo A.Sz c (by simp) ?_;show ko P (u0 A.Cs A.yx A.Co A.yw A.C0 A.zm A.Ex) (lg _ _) _;by_cases c1:T9 t=true;rotate_left
 ·have c1':T9 t=false:=by simpa using c1
  rw[c1']at hsh;simp only[u0,r8,jn,l7,go_sem,aa,ae];refine ff hsh ?_;simp only[go_sem,aa];refine Ao hw ?_;simp only[go_sem,aa]
 rw[c1]at hsh
 have n25:t.ns.length≤25:=by
  unfold T9 at c1;simp only[cj,decide_eq_true_eq]at c1;exact c1.1
 have B6:M3 t:=⟨by omega,fun n hn=>by obtain⟨q1,q2,q3,q4⟩:=ht.2.2 n hn;exact⟨q4,q1,q2,q3⟩⟩;have hth:=Uj A.toPr t (by have:=ht.1;omega) B6;have hri:=a96 A.toPr t B6;simp only[r8,jn,l7]at hth hri;by_cases c2:(n.size:Int)>100
 ·simp only[u0,r8,jn,l7,go_sem,aa,ae];refine ff hsh ?_;simp only[go_sem,aa,reduceCtorEq,c2];refine Ao hw ?_;simp only[go_sem,aa]
 by_cases c4:yf pg t=true;rotate_left
 ·have c4':yf pg t=false:=by simpa using c4
  rw[c4']at hri;simp only[u0,r8,jn,l7,go_sem,aa,ae];refine ff hsh ?_;simp only[go_sem,aa,ae,reduceCtorEq,c2];refine ff hth ?_;simp only[go_sem,aa];refine ff hri ?_;simp only[go_sem,aa];refine Ao hw ?_;simp only[go_sem,aa]
 rw[c4]at hri;have hT:=a3n (fun ls=>a42) c4;obtain⟨z1,z2⟩:=On hT;have hE:K2 t:=⟨z1,z2,ht.2.2⟩;have hRT:=Qm hT;have hA:=aqx A hpr t B6 hT hE n v;simp only[u0,r8,jn,l7,go_sem,aa,ae];refine ff hsh ?_;simp only[go_sem,aa,ae,reduceCtorEq,c2];refine ff hth ?_;simp only[go_sem,aa];refine ff hri ?_;simp only[go_sem,aa,ae,ah];simp only[r8,jn,l7,ap1]at hA;refine il hA ?_;simp only[go_sem,aa,ae,reduceCtorEq];have hch:=fun(u:Tr) (htu:yf mf u=true)=>an7 A.toPr6 L hρ hR hT htu B6 (aq2 htu) (Zd hT).1 (Zd htu).1 (Zd hT).2 (Zd htu).2 (c:=X2 c) hc.d
 have pe:∀x:Tr×Int,x.2=0→x=(x.1,0):=by rintro⟨u,c⟩ h;simp at h;subst h;rfl
 have a5:=fun h=>agm (pe (applyN mf t (P0 n v)) h);have b5:=fun(h:(applyN mf t (P0 n v)).2=0)=>axa R hRT (Qm (a5 h).2.2) (pe (applyN mf t (P0 n v)) h)
 generalize applyN mf t (P0 n v)=r5 at*
 by_cases h:r5.2=0;rotate_left
 ·have hb:(r5.2 !=0)=true:=by simpa using h
  simp only[go_sem,aa,hb];refine Ao hw ?_;simp only[go_sem,aa]
 have hc5:=hch r5.1 (a5 h).2.2;have aGd:=b5 h
 have hLl:(Jw R t r5.1).length≤2^40:=by
  have q:=(On (a5 h).2.2).2;have:=zg (a0y (wg R t []).2 (wg R r5.1 (wg R t []).1).2) r5.1.ns;unfold Jw;rw[ag];omega
 generalize Jw R t r5.1=Ls at*
 simp only[r8,jn,l7]at hc5;simp only[go_sem,aa,jk,ae,h];refine ayk hc5 ?_;simp only[go_sem,aa,ae];refine ff hth ?_;simp only[go_sem,aa,ae]
 have hul:∀nd∈t.ns,∀v∈nd.f.vs,(a1v t n nd v).length≤20:=by
  intro nd _ v _;unfold a1v;split
  ·have:=a8r t nd.n t.ns [];unfold Dx;simp at this;omega
  simp
 have hvl:∀nd∈t.ns,nd.f.vs.length≤6:=fun nd hnd=>R2 (hRT.ata nd hnd)
 have hnl:∀nd∈t.ns,(aex t n nd).length≤120:=by
  intro nd hnd;have:=flat_len (hul nd hnd);have:=hvl nd hnd;unfold aex;omega
 have hus:=fun s=>aw0 A t hRT (by omega) (Zd hT).2 s;simp only[r8,jn,l7]at hus;refine r9 (fun s2=>PI0 n Ls s2∧se s2 93 1 ((a9o t n).map nh) (s2.tmp 12)) ?_ ?_
 ·refine fh t.ns.length (fun i s2=>PI0 n Ls s2∧s2.tmp 11= .ic 11 (s2.av 11) 0∧s2.da 11=some (.loc [.d (.ft 2 (t.ps.map tx)),.d (.ft 5 (t.ns.map wz))])∧s2.tmp 13= .d (.int ab i)∧se s2 93 1 (((t.ns.take i).flatMap (aex t n)).map nh) (s2.tmp 12)) ?_ ?_
  ·simp only[go_sem,aa];refine⟨⟨rfl,by simp[ak],by simp[ak],by simp[ak]⟩,se.nil⟩
  rintro i s2 hi2 ⟨I,f11,b11,f13,acc⟩;by_cases hlt:(i:Int)<t.ns.length
  ·have df:i<t.ns.length:=by omega
   have wk:=cu ((i:Int)+1) (by omega) (by omega);have hg:=Fe df
   have hgn:t.ns.getD i n0=t.ns[i]:=by simp[cd,df]
   have hm:t.ns[i]∈t.ns:=cy df;have hft:=flat_take (f:=aex t n) df;have hfl:=flat_len (l:=t.ns.take i) (f:=aex t n) (B:=120) fun x hx=>hnl x (Ix hx);rw[dw]at hfl;rw[hgn]at hg;have aIg:=hvl _ hm;have aDa:=hul _ hm;have az6:t.ns[i].n∈Dx t t.ns[i].n:=a8q hm (Ti hRT ⟨_,hm,rfl⟩).2.1
   generalize(t.ns.take i).flatMap (aex t n)=X at*
   generalize t.ns[i]=nd at*
   simp only[x6,lj]at hg;simp only[go_sem,aa,ae,reduceCtorEq,I.base,f11,b11,f13,ag,hlt];refine awf (fun s3=>PI0 n Ls s3∧s3.tmp 11= .ic 11 (s3.av 11) 0∧s3.da 11=some (.loc [.d (.ft 2 (t.ps.map tx)),.d (.ft 5 (t.ns.map wz))])∧s3.tmp 13= .d (.int ab i)∧se s3 93 1 ((X++aex t n nd).map nh) (s3.tmp 12)) ?_ ?_
   ·refine fh nd.f.vs.length (fun k s3=>PI0 n Ls s3∧s3.tmp 11= .ic 11 (s3.av 11) 0∧s3.da 11=some (.loc [.d (.ft 2 (t.ps.map tx)),.d (.ft 5 (t.ns.map wz))])∧s3.tmp 13= .d (.int ab i)∧s3.tmp 14= .d (.int ab k)∧se s3 93 1 ((X++(nd.f.vs.take k).flatMap (a1v t n nd)).map nh) (s3.tmp 12)) ?_ ?_
    ·simp only[go_sem,aa,f11,b11,f13,List.flatMap_nil];refine⟨⟨rfl,?_,?_,?_⟩,?_⟩
     ·simp[ak,I.t1]
     ·simp[ak,I.t9]
     ·simp[ak,I.t10]
     exact acc.mono rfl rfl
    clear I f11 b11 f13 acc;rintro k s3 hk ⟨I,f11,b11,f13,f14,acc⟩;by_cases Tn:(k:Int)<nd.f.vs.length
    ·have Kd:k<nd.f.vs.length:=by omega
     have wk2:=cu ((k:Int)+1) (by omega) (by omega);have axq:=flat_take (f:=a1v t n nd) Kd;have aDx:=flat_len (l:=nd.f.vs.take k) (f:=a1v t n nd) (B:=20) fun x hx=>aDa x (Ix hx);rw[dw]at aDx
     have hgv:(nd.f.vs.map cVl)[k]? =some [.str nd.f.vs[k].n,.int ab nd.f.vs[k].t,.int ab nd.f.vs[k].a]:=by simp[Kd,cVl]
     have aG2:=aDa _ (cy Kd)
     generalize(nd.f.vs.take k).flatMap (a1v t n nd)=Y at*
     generalize nd.f.vs[k]=vl at*
     simp only[go_sem,aa,ae,ah,reduceCtorEq,I.base,I.t1,f11,b11,f13,f14,ag,Tn,hg,hgv,bp,aq];cases cs:kf vl.n n
     ·have cs':=cs;unfold kf at cs'
      have e:a1v t n nd vl=[]:=by unfold a1v;rw[cs];rfl
      rw[e,y0]at axq;simp only[go_sem,aa,reduceCtorEq,f11,b11,f13,f14,cs',wk2,Kd,axq];refine⟨⟨rfl,?_,?_,?_⟩,by simp,?_⟩
      ·simp[ak,I.t1]
      ·simp[ak,I.t9]
      ·simp[ak,I.t10]
      exact acc.mono rfl rfl
     have cs':=cs;unfold kf at cs'
     have e:a1v t n nd vl=Dx t nd.n:=by unfold a1v;rw[cs];rfl
     rw[e]at axq aG2
     have hne:(Dx t nd.n).map nh≠[]:=by
      intro q;have q2:=jc.1 q;rw[q2]at az6;cases az6
     have hu1:=hus nd.n
     have ea:yc 1 ((Dx t nd.n).map nh)= .ft 1 ((Dx t nd.n).map nh):=by unfold yc;rw[al hne]
     rw[ea]at hu1;have Ae:=abg (Dx t nd.n);simp only[go_sem,aa,ae,ah,f11,b11,f13,cs',hg,bp,aq];refine il hu1 ?_;simp only[go_sem];refine s5 (dd:=(X++Y).map nh) (ys:=(Dx t nd.n).map nh) (osz:=some 1) ?_ ?_ rfl Ae ?_ hne ?_
     ·simp only[go_sem,aa];exact acc.mono (by simp[]) (by simp[])
     ·simp only[go_sem,aa,qm]
     ·simp only[ag,db];omega
     intro s4 g;have Fv:=g.acc (by simp[hne]);rw[g.tmp,ck]at Fv;simp only[fj]at Fv;have gv:=g.av 11 (by simp[])
     have gb:s4.da 11=s3.da 11:=by rw[g.da];simp[ak]
     simp only[go_sem,aa,reduceCtorEq,g.tmp,f11,f13,f14,g.base,gb,gv,b11,wk2,Kd,axq];refine⟨⟨rfl,?_,?_,?_⟩,?_,?_⟩
     ·simp[ak,I.t1]
     ·simp[ak,I.t9]
     ·simp[ak,I.t10]
     ·simp
     have e9:(X++(Y++Dx t nd.n)).map nh=(X++Y).map nh++(Dx t nd.n).map nh:=by simp
     rw[e9];exact Fv.mono rfl rfl
    have:k=nd.f.vs.length:=by omega
    subst this;rw[dt]at acc;simp only[go_sem,aa,ae,ah,reduceCtorEq,I.base,f11,b11,f13,f14,ag,Tn,hg,bp,aq];refine⟨⟨rfl,?_,?_,?_⟩,?_⟩
    ·simp[ak,I.t1]
    ·simp[ak,I.t9]
    ·simp[ak,I.t10]
    exact acc.mono rfl rfl
   clear I f11 b11 f13 acc;rintro s3 ⟨I,f11,b11,f13,acc⟩;simp only[go_sem,aa,reduceCtorEq,I.base,f11,b11,f13,wk,df,hft];refine⟨⟨rfl,?_,?_,?_⟩,by simp,?_⟩
   ·simp[ak,I.t1]
   ·simp[ak,I.t9]
   ·simp[ak,I.t10]
   exact acc.mono rfl rfl
  have:i=t.ns.length:=by omega
  subst this;rw[dt]at acc;simp only[go_sem,aa,ae,reduceCtorEq,I.base,f11,b11,f13,ag,hlt];refine⟨⟨rfl,?_,?_,?_⟩,?_⟩
  ·simp[ak,I.t1]
  ·simp[ak,I.t9]
  ·simp[ak,I.t10]
  exact acc.mono rfl rfl
 rintro s2 ⟨I,acc⟩;have hll:Ls.length≤2^40:=hLl;simp only[go_sem];refine fh Ls.length (fun i s3=>PI0 n Ls s3∧se s3 93 1 ((a9o t n).map nh) (s3.tmp 12)∧s3.tmp 15= .d (.int ab i)) ?_ ?_
 ·simp only[go_sem,aa];refine⟨⟨I.base,?_,?_,?_⟩,acc.mono rfl rfl⟩
  ·simp[ak,I.t1]
  ·simp[ak,I.t9]
  simp[ak,I.t10]
 clear I acc;rintro i s3 hi3 ⟨I,acc,f15⟩
 have hml:(a9o t n).length≤2400:=by
  have:=flat_len hnl;unfold a9o;omega
 by_cases hlt:(i:Int)<Ls.length
 ·have df:i<Ls.length:=by omega
  have wk:=cu ((i:Int)+1) (by omega) (by omega);have hg:=Ck df
  have ea:yc 1 (Ls.map nh)= .ft 1 (Ls.map nh):=by
   unfold yc;rw[al];intro q;have q2:=jc.1 q;rw[q2]at df;simp at df
  have f9:=I.t9;rw[ea]at f9;have K7:=aGd (Ls.getD i ⟨#[]⟩) (by simp[cd,df]);have hall:=asv K7
  generalize Ls.getD i ⟨#[]⟩=x at*
  rcases acc with ⟨h0,_⟩|⟨_,f12,b12⟩
  ·have q2:=jc.1 h0;rw[q2]at K7;cases K7
  generalize a9o t n=may at*
  simp only[go_sem,aa,reduceCtorEq,I.base,f9,f15,ag,hlt];refine r9 (fun s4=>PI0 n Ls s4∧(s4.tmp 12= .ref 93 (s4.av 93) may.length∧s4.da 93=some (.arr 1 (may.map nh)))∧s4.tmp 15= .d (.int ab i)∧s4.tmp 16= .d (.bool true)) ?_ ?_
  ·refine fh may.length (fun k s4=>PI0 n Ls s4∧(s4.tmp 12= .ref 93 (s4.av 93) may.length∧s4.da 93=some (.arr 1 (may.map nh)))∧s4.tmp 15= .d (.int ab i)∧s4.tmp 17= .d (.int ab k)∧s4.tmp 16= .d (.bool (hasB (may.take k) x))) ?_ ?_
   ·simp only[go_sem,aa,f12,b12,f15,ag];refine⟨⟨rfl,?_,?_,?_⟩,?_⟩
    ·simp[ak,I.t1]
    ·simp[ak,I.t9]
    ·simp[ak,I.t10]
    simp[hasB]
   clear I f9 f12 b12 f15;rintro k s4 hk ⟨I,⟨f12,b12⟩,f15,f17,f16⟩;have f9:=I.t9;rw[ea]at f9;by_cases Tn:(k:Int)<may.length
   ·have Kd:k<may.length:=by omega
    have wk2:=cu ((k:Int)+1) (by omega) (by omega);have hg2:=Ck Kd;have ht2:=a9w (s:=x) Kd
    generalize may.getD k ⟨#[]⟩=y at*
    cases c0:hasB (may.take k) x
    ·rw[c0]at f16 ht2;rw[L8]at ht2;have ht3:=ht2;unfold kf at ht3;simp only[go_sem,aa,reduceCtorEq,I.base,f9,f12,b12,f15,f16,f17,ag,Tn,hg,hg2,bp,aq,wk2,Kd,←ht3];refine⟨⟨rfl,?_,?_,?_⟩,by simp⟩
     ·simp[ak,I.t1]
     ·simp[ak,I.t9]
     simp[ak,I.t10]
    rw[c0]at f16 ht2;rw[Ho]at ht2;simp only[go_sem,aa,reduceCtorEq,I.base,f12,b12,f15,f16,f17,ag,Tn,wk2,Kd,ht2];refine⟨⟨rfl,?_,?_,?_⟩,by simp⟩
    ·simp[ak,I.t1]
    ·simp[ak,I.t9]
    simp[ak,I.t10]
   have:k=may.length:=by omega
   subst this;rw[dt,hall]at f16;simp only[go_sem,aa,reduceCtorEq,I.base,f12,b12,f15,f16,f17,ag,Tn];refine⟨rfl,?_,?_,?_⟩
   ·simp[ak,I.t1]
   ·simp[ak,I.t9]
   simp[ak,I.t10]
  clear I f9 f12 b12 f15;rintro s4 ⟨I,⟨f12,b12⟩,f15,f16⟩;simp only[go_sem,aa,reduceCtorEq,I.base,f12,f15,f16,wk,df];refine⟨⟨rfl,?_,?_,?_⟩,?_,by simp⟩
  ·simp[ak,I.t1]
  ·simp[ak,I.t9]
  ·simp[ak,I.t10]
  refine .inr ⟨?_,by simp,b12⟩;intro q;have q2:=jc.1 q;rw[q2]at K7;cases K7
 have:i=Ls.length:=by omega
 subst this;have f9:=I.t9;unfold yc at f9;split at f9
 ·rename_i h0;have h0:=jc.1 h0;subst h0;simp only[go_sem,aa,L7,reduceCtorEq,I.base,I.t10,f9,f15];refine Ao hw ?_;simp only[go_sem,aa]
 simp only[go_sem,aa,L7,reduceCtorEq,I.base,I.t10,f9,f15,ag,hlt];refine Ao hw ?_;simp only[go_sem,aa]
end
end Go.PI
namespace Go.PI
def GW(w:World):fy:=⟨fun b o=>w.cell? ⟨b,o,none⟩,fun b=>match w.heap[b]? with
 |some (.map ents _)=>some (ents.toList.map fun e=>(e.key,e.val))
 |_=>none⟩
theorem azn(w:World):GOk (GW w) w:=by
 refine⟨fun b o v h=>h,fun b es h=>?_⟩;simp only[GW]at h;split at h
 ·rename_i ents clock hh
  injection h with h
  exact⟨ents,clock,hh,h⟩
 cases h
structure Mu{H:Type}(μ:DataW H→Nat):Prop where
 len:∀elems spare,elems.length≤μ (.slice elems spare)
 el:∀elems spare d,d∈elems→μ d≤μ (.slice elems spare)
 part:∀parts d,d∈parts→μ d≤μ (.agg parts)
def Oe(G:fy)(ds:List D)(cs:List Value):Prop:=ds.length=cs.length∧∀(i:Nat) (x:D) (v:Value),ds[i]? =some x→cs[i]? =some v→gj G x v
theorem Oe.append{G:fy}{a b:List D}{c d:List Value}(h:Oe G a c)(k:Oe G b d):Oe G (a++b) (c++d):=by
 refine⟨by simp[h.1,k.1],fun i x v hx hv=>?_⟩;by_cases hi:i<a.length
 ·rw[l8 hi]at hx;rw[l8 (by rw[←h.1];exact hi)]at hv;exact h.2 i x v hx hv
 rw[mb (by omega)]at hx;rw[mb (by rw[←h.1];omega),←h.1]at hv;exact k.2 _ x v hx hv
theorem Oe.agg{G:fy}{ds:List D}{cs:Array Value}(h:Oe G ds cs.toList):gj G (.agg ds) (.agg cs):=
 .agg (by have:=h.1;simp at this;omega) fun i x v hx hv=>h.2 i x v hx (by simpa using hv)
theorem a9b{α:Type}{Q:Nat→α→Prop}:∀n:Nat,(∀i,i<n→∃a,Q i a)→∃l:List α,l.length=n∧∀i a,l[i]? =some a→Q i a
 |0,_=>⟨[],rfl,fun i a h=>by simp at h⟩
 |n+1,h=>by
  obtain⟨l,h1,h2⟩:=a9b n (fun i hi=>h i (by omega));obtain⟨a,ha⟩:=h n (by omega);refine⟨l++[a],by simp[h1],fun i b hb=>?_⟩;by_cases hi:i<l.length
  ·rw[l8 hi]at hb;exact h2 i b hb
  rw[mb (by omega)]at hb
  have:i-l.length=0:=by
   have:=(aw.1 hb).1;simp at this;omega
  rw[this]at hb;simp at hb;subst hb;rw[show i=n by omega];exact ha
section
variable{H:Type}(enc:TypeId×Value→H)(P:Program)(w:World)(μ:DataW H→Nat)
def Rd{α:Type}(t:TypeId)(S:α→List D)(B:α→Nat→Prop):Prop:=
 ∀(fuel:Nat) (cs:List Value) (x:DataW H×List MemPlace),DataW.trod enc P w 0 (fun _=>true) true fuel t cs=some x→∃a,Oe (GW w) (S a) cs∧∀m,μ x.1≤m→B a m
def RdF{α:Type}(fs:List (TypeId×Nat))(o W:Nat)(S:α→List D)(B:α→Nat→Prop):Prop:=
 ∀(fuel:Nat) (cs:List Value) (xs:List (DataW H×List MemPlace)),xs.length=fs.length→(∀(i:Nat) (f:TypeId×Nat),fs[i]? =some f→DataW.trod enc P w 0 (fun _=>true) true fuel f.1 ((cs.drop f.2).take (P.cellsOf f.1))=xs[i]?)→
  ∃a,Oe (GW w) (S a) ((cs.drop o).take W)∧∀m,(∀y∈xs,μ y.1≤m)→B a m
variable{enc P w μ}
theorem Rd.int{t:TypeId}{k:IntKind}(ht:P.underlying t=some (.int k)):Rd enc P w μ t (fun n:Int=>[.int k n]) (fun _ _=>True):=by
 intro fuel cs x h;obtain⟨n,rfl,_,_⟩:=DataW.trod_int ht h;refine⟨n,⟨rfl,fun i x v hx hv=>?_⟩,fun _ _=>trivial⟩
 cases i with
 |zero=>simp at hx hv;subst hx hv;exact .int
 |succ i=>simp at hx
theorem Rd.str{t:TypeId}(ht:P.underlying t=some .string):Rd enc P w μ t (fun n:ByteArray=>[.str n]) (fun _ _=>True):=by
 intro fuel cs x h;obtain⟨n,rfl,_,_⟩:=DataW.trod_string ht h;refine⟨n,⟨rfl,fun i x v hx hv=>?_⟩,fun _ _=>trivial⟩
 cases i with
 |zero=>simp at hx hv;subst hx hv;exact .str
 |succ i=>simp at hx
theorem Rd.conv{α β:Type}{t:TypeId}{S:α→List D}{B:α→Nat→Prop}{S':β→List D}{B':β→Nat→Prop}(h:Rd enc P w μ t S B)(g:α→β)(hS:∀a,S' (g a)=S a)(hB:∀a m,B a m→B' (g a) m):Rd enc P w μ t S' B':=by
 intro fuel cs x hx;obtain⟨a,h1,h2⟩:=h fuel cs x hx;exact⟨g a,by rw[hS];exact h1,fun m hm=>hB a m (h2 m hm)⟩
theorem RdF.nil{o:Nat}:RdF enc P w μ [] o 0 (fun _:Unit=>[]) (fun _ _=>True):=by
 intro fuel cs xs hl h;exact⟨(),⟨by simp,fun i x v hx=>by simp at hx⟩,fun _ _=>trivial⟩
theorem RdF.cons{α β:Type}{t:TypeId}{fs:List (TypeId×Nat)}{o k W:Nat}{S1:α→List D}{B1:α→Nat→Prop}{S2:β→List D}{B2:β→Nat→Prop}(hk:P.cellsOf t=k)(h1:Rd enc P w μ t S1 B1)(h2:RdF enc P w μ fs (o+k) W S2 B2):
  RdF enc P w μ ((t,o)::fs) o (k+W) (fun p:α×β=>S1 p.1++S2 p.2) (fun p m=>B1 p.1 m∧B2 p.2 m):=by
 intro fuel cs xs hl h
 cases xs with
 |nil=>simp at hl
 |cons x xs=>
  have e0:=h 0 (t,o) rfl;simp only[hk]at e0;obtain⟨a,a1,a2⟩:=h1 _ _ _ e0
  obtain⟨b,b1,b2⟩:=h2 fuel cs xs (by simpa using hl) fun i g hg=>by simpa using h (i+1) g (by simpa using hg)
  refine⟨(a,b),?_,fun m hm=>⟨a2 m (hm x (by simp)),b2 m fun y hy=>hm y (by simp[hy])⟩⟩
  have:(cs.drop o).take (k+W)=(cs.drop o).take k++(cs.drop (o+k)).take W:=by
   rw[List.take_add,am3]
  rw[this];exact a1.append b1
theorem Rd.struct{α:Type}{t:TypeId}{fs:Array Field}{l:List (TypeId×Nat)}{W:Nat}{S:α→List D}{B:α→Nat→Prop}(hμ:Mu μ)(ht:P.underlying t=some (.struct fs))(hfs:fs.toList.map (fun f=>(f.type,f.offset))=l)(hc:P.cellsOf t=W)(h:RdF enc P w μ l 0 W S B):Rd enc P w μ t S B:=by
 intro fuel cs x hx;obtain⟨xs,n,rfl,rfl,hl,hn,hf⟩:=DataW.trod_struct ht hx
 obtain⟨a,h1,h2⟩:=h n cs xs (by rw[←hfs];simpa using hn) fun i f hi=>by
  rw[←hfs,cw,ao]at hi;obtain⟨g,hg,rfl⟩:=hi;exact hf i g (by simpa using hg)
 refine⟨a,?_,fun m hm=>h2 m fun y hy=>ie (hμ.part _ _ (iw.2 ⟨y,hy,rfl⟩)) hm⟩;rw[aI9,tz (by omega)]at h1;exact h1
theorem Rd.array{α:Type}{t e:TypeId}{n W:Nat}{l:List (TypeId×Nat)}{S:α→List D}{B:α→Nat→Prop}(hμ:Mu μ)(ht:P.underlying t=some (.array n e))(hl:(dn n).map (fun i=>(e,i*P.cellsOf e))=l)(hc:P.cellsOf t=W)(h:RdF enc P w μ l 0 W S B):Rd enc P w μ t S B:=by
 intro fuel cs x hx;obtain⟨xs,m,rfl,rfl,h1,hn,hf⟩:=DataW.trod_array ht hx
 obtain⟨a,h3,h2⟩:=h m cs xs (by rw[←hl];simpa using hn) fun i f hi=>by
  rw[←hl,cw,ao]at hi;obtain⟨g,hg,rfl⟩:=hi;have hi2:=(aw.1 hg).1;rw[aF5]at hi2;rw[M5 hi2]at hg
  injection hg with hg
  subst hg;exact hf i hi2
 refine⟨a,?_,fun m hm=>h2 m fun y hy=>ie (hμ.part _ _ (iw.2 ⟨y,hy,rfl⟩)) hm⟩;rw[aI9,tz (by omega)]at h3;exact h3
theorem ayr{b o i j:Nat}:((⟨b,o,none⟩:Addr).add i).add j=⟨b,o+i+j,none⟩:=by
 unfold Addr.add;by_cases hi:i=0<;>by_cases hj:j=0<;>simp[hi,hj]
theorem Rd.slice{α:Type}{t e:TypeId}{sz:Nat}{S:α→List D}{B:α→Nat→Prop}(hμ:Mu μ)(ht:P.underlying t=some (.slice e))(hc:P.cellsOf e=sz)(hz:0<sz)(hS:∀a,(S a).length=sz)(he:Rd enc P w μ e S B):
  Rd enc P w μ t (fun l:List α=>[.ft sz (l.map S)]) (fun l m=>l.length≤m∧∀a∈l,B a m):=by
 intro fuel cs x hx;rcases DataW.trod_slice ht hx with ⟨rfl,rfl⟩|⟨a,len,cap,elems,rest,n,rfl,rfl,rfl,hb,hl,hm,hlen,hel,_,_⟩
 ·refine⟨[],⟨rfl,fun i x v hx hv=>?_⟩,fun m _=>⟨by simp,by simp⟩⟩
  cases i with
  |zero=>simp at hx hv;subst hx hv;exact .V6
  |succ i=>simp at hx
 rw[hc]at hel
 obtain⟨l,l1,l2⟩:=a9b (Q:=fun i (b:α)=>∃cs',w.cells? 0 (a.add (i*sz)) sz=some cs'∧Oe (GW w) (S b) cs'∧∀m,(∀d∈elems.map (·.1),μ d≤m)→B b m) len fun i hi=>by
  have h1:=hel i hi;rw[ax (by omega)]at h1;obtain⟨cs',c1,c2⟩:=agv.1 h1;obtain⟨b,b1,b2⟩:=he _ _ _ c2;exact⟨b,cs',c1,b1,fun m hm=>b2 m (hm _ (iw.2 ⟨_,cy (by omega),rfl⟩))⟩
 refine⟨l,⟨rfl,fun i x v hx hv=>?_⟩,fun m hm=>⟨?_,fun b hb=>?_⟩⟩
 ·cases i with
  |succ i=>simp at hx
  |zero=>
   simp at hx hv;subst hx hv;by_cases h0:len=0
   ·have:l=[]:=ix (by omega);subst this h0;exact .Xg
   obtain⟨cs',c1,c2,_⟩:=l2 0 (l[0]'(by omega)) (ax (by omega));obtain⟨_,d1,d2⟩:=World.cells?_some c1
   have hsp:a.spot=none:=by
    have:=d2 0 hz;rw[ax (by omega)]at this
    have e0:(a.add (0*sz)).add 0=a:=by simp[Addr.add]
    rw[e0]at this;unfold aKc at this;split at this
    ·split at this
     ·cases this
     rename_i hs;simpa using hs
    cases this
   obtain⟨b,o,sp⟩:=a;simp only at hsp;subst hsp
   have cell:∀i j,i<len→j<sz→∃cs',Oe (GW w) (S (l.getD i (l[0]'(by omega)))) cs'∧cs'.length=sz∧(GW w).cv b (o+i*sz+j)=cs'[j]? :=by
    intro i j hi hj;obtain⟨cs',c1,c2,_⟩:=l2 i (l.getD i (l[0]'(by omega))) (by simp[cd,show i<l.length by omega]);obtain⟨_,d1,d2⟩:=World.cells?_some c1;refine⟨cs',c2,d1,?_⟩;have:=d2 j hj;rw[ayr]at this;exact this
   have:=gj.ft (G:=GW w) (sz:=sz) (l:=l.map S) (b:=b) (o:=o) (c:=cap) (by simp;omega) (fun i e he=>by
    simp only[cw,ao]at he;obtain⟨q,_,rfl⟩:=he
    exact hS q) (fun i j hi hj=>by
    obtain⟨cs',_,k1,k2⟩:=cell i j (by simp at hi;omega) hj;rw[k2,ax (by omega)]
    rfl) (fun i e j x v he hx hv=>by
    simp only[cw,ao]at he;obtain⟨q,hq,rfl⟩:=he;have hi:i<l.length:=(aw.1 hq).1
    have hj:j<sz:=by
     have:=(aw.1 hx).1;rw[hS]at this;exact this
    obtain⟨cs',k0,k1,k2⟩:=cell i j (by omega) hj
    have hgq:l.getD i (l[0]'(by omega))=q:=by simp[cd,hq]
    rw[hgq]at k0;rw[k2]at hv
    exact k0.2 j x v hx hv)
   rw[ag,l1]at this;exact this
 ·have:=hμ.len (elems.map (·.1)) (rest.map (·.1));simp only[ag]at this;simp only at hm;omega
 obtain⟨i,hi⟩:=aJ3 hb;obtain⟨_,_,_,k⟩:=l2 i b hi;exact k m fun d hd=>ie (hμ.el _ _ d hd) hm
end
end Go.PI
namespace Go.PI
open Go Go.ChangeShapes Go.WideShapes Go.RowKit Go.WideElems
section
variable{H:Type}{enc:TypeId×Value→H}{P:Program}
theorem P3(hl:laidOutB P=true){W W':World}(hb:Below W.heap.size W W'):
  ∀{ts:List TypeId} {vs:List Value} {ds:List (DataW H)} {ps:List MemPlace},(∀t∈ts,P.readableRec t=true∧t<P.types.size)→DataW.TrodAll enc P W 0 (fun _=>true) true ts vs ds ps→(∀p∈ps,p.block<W.heap.size)→DataW.TrodAll enc P W' 0 (fun b=>decide (b<W.heap.size)) true ts vs ds ps
 |[],[],[],_,_,h,_=>h
 |[],[],_::_,_,_,h,_=>h.elim
 |[],_::_,_,_,_,h,_=>h.elim
 |_::_,[],_,_,_,h,_=>h.elim
 |_::_,_::_,[],_,_,h,_=>h.elim
 |t::ts,v::vs,d::ds,ps,ht,h,hp=>by
  obtain⟨p,q,⟨n,h1⟩,h2,rfl⟩:=h;obtain⟨r1,r2⟩:=ht t (by simp);refine⟨p,q,⟨n,?_⟩,P3 hl hb (fun u hu=>ht u (by simp[hu])) h2 fun x hx=>hp x (by simp[hx]),rfl⟩;exact DataW.trod_stays (kids_book hl r1) (book_sized r1) (fun h=>by cases h) ⟨r2,book_self t⟩ h1 (fun x hx=>hb.same (hp x (by simp[hx]))) (fun x hx=>by simpa using hp x (by simp[hx]))
theorem aC7{f:Nat}{fn:Func}{s:ChangeSpec}{W:World}{args:Array Value}{ds gs:List (DataW H)}{before:List MemPlace}{tb:TypeId}{xs:List D}
  (hl:laidOutB P=true)(hts:∀t∈fn.params.toList,P.readableRec t=true∧t<P.types.size)(hr:fn.resultTypes= #[tb])(hb:P.underlying tb=some .bool)(af9:s.vars=[])
  (hs1:(s.fn H (ds++gs)).results=[.lit (.bool true)])(hs2:(s.fn H (ds++gs)).args=ds)(hs3:(s.fn H (ds++gs)).vars=[])
  (hW:aKu enc P fn.params.toList s.vars false W args.toList ds gs before)(hp:iq P f xs (.bool true))(hx:args.size=xs.length)(hd:∀(i:Nat) (x:D) (v:Value),xs[i]? =some x→args[i]? =some v→gj (GW W) x v):
  Calls P f args W fun e W'=>∃v,e= .returned v∧s.post enc P fn false true false false W args v W':=by
 refine(hp.2 (GW W) W args (azn W) hx hd).mono ?_;rintro e W' ⟨v,G',rfl,_,_,_,hB,hv⟩;cases hv;have hW':=hW;obtain⟨p,q,hA,hV,rfl,_,_⟩:=hW';have hlt:=hW.lt;rw[af9]at hV;obtain⟨rfl,rfl⟩:=trodVars_none hV;refine⟨_,rfl,ds,[],p++[],[],p,[],hW,?_,?_,?_,hB.toBelow.frame _,fun h=>by cases h⟩
 ·rw[hr,hs1];exact trodAll_mk1 (shut_bool hb true)
 ·rw[hs2];exact P3 hl hB.toBelow hts hA fun x hx=>hlt x (by simpa using hx)
 rw[hs3,af9];rfl
end
section
variable{H:Type}{enc:TypeId×Value→H}{P:Program}
theorem aii{c:Nat→V×Value}{f:Nat}{fn:Func}{s:ChangeSpec}{W:World}{args:Array Value}{ds gs:List (DataW H)}{before:List MemPlace}{tb:TypeId}{xs:List D}
  (hl:laidOutB P=true)(hts:∀t∈fn.params.toList,P.readableRec t=true∧t<P.types.size)(hr:fn.resultTypes= #[tb])(hb:P.underlying tb=some .bool)(af9:s.vars=[])
  (hs1:(s.fn H (ds++gs)).results=[.lit (.bool true)])(hs2:(s.fn H (ds++gs)).args=ds)(hs3:(s.fn H (ds++gs)).vars=[])
  (hW:aKu enc P fn.params.toList s.vars false W args.toList ds gs before)(hp:Oc P c f xs (.bool true))(hc1:∀(i:Nat) (d:D) (v:Value),c i=(V.d d,v)→gj (GW W) d v)(hc2:∀i,N4 (c i) W.heap.size W)
  (hx:args.size=xs.length)(hd:∀(i:Nat) (x:D) (v:Value),xs[i]? =some x→args[i]? =some v→gj (GW W) x v):
  Calls P f args W fun e W'=>∃v,e= .returned v∧s.post enc P fn false true false false W args v W':=by
 refine(hp.2 (GW W) W args hc1 hc2 (azn W) hx hd).mono ?_;rintro e W' ⟨v,G',rfl,_,_,_,hB,hv⟩;cases hv;have hW':=hW;obtain⟨p,q,hA,hV,rfl,_,_⟩:=hW';have hlt:=hW.lt;rw[af9]at hV;obtain⟨rfl,rfl⟩:=trodVars_none hV;refine⟨_,rfl,ds,[],p++[],[],p,[],hW,?_,?_,?_,hB.toBelow.frame _,fun h=>by cases h⟩
 ·rw[hr,hs1];exact trodAll_mk1 (shut_bool hb true)
 ·rw[hs2];exact P3 hl hB.toBelow hts hA fun x hx=>hlt x (by simpa using hx)
 rw[hs3,af9];rfl
theorem a9p{x:String×DataW Unit}{r:List (String×DataW Unit)}{w:World}(h:laidMet P (x::r) w):laidMet P r w:=by
 obtain⟨ps,⟨g,t,cs,fuel,p,q,h1,h2,h3,h4,h5,rfl⟩,hn,hk⟩:=h;refine⟨q,h5,(W1.1 hn).2.1,fun b off hm=>hk b off (V3 _ hm)⟩
theorem ah2{w:World}{name:String}{k:IntKind}{zs:List Int}{g:Nat}(hg:P.globalNamed name=some g)(h:auv P w name k zs):
  N4 (.no,.agg #[.pointer (some ⟨g,0,none⟩),.agg (zs.map fun z=>aL5 k z).toArray]) w.heap.size w:=by
 intro b cs e;simp only[br,Value.agg.injEq,true_and]at e
 obtain⟨rfl,rfl⟩:b=g∧cs=(zs.map fun z=>aL5 k z).toArray:=by
  have e1:=congrArg (fun a:Array Value=>a[0]?) e;have e2:=congrArg (fun a:Array Value=>a[1]?) e;simp at e1 e2;exact⟨e1.symm,e2.symm⟩
 unfold auv World.var? at h;rw[hg]at h;simp only[Of]at h;split at h
 ·rename_i cs' T fz hh
  injection h with h
  subst h;exact⟨(ig.1 hh).1,T,fz,hh⟩
 cases h
end
end Go.PI
namespace Go.Proofs.YtjhmidapljifbaaGreatDoor
open Go Go.PI
def ftB(f:Ft)(m:Nat):Prop:=f.vs.length≤m∧f.ls.length≤m∧∀q∈f.ls,q.length≤m
def ndB(n:Nd)(m:Nat):Prop:=ftB n.f m∧n.ins.length≤m
def trB(t:Tr)(m:Nat):Prop:=t.ps.length≤m∧t.ns.length≤m∧∀n∈t.ns,ndB n m
section
variable{H:Type}{enc:TypeId×Value→H}{w:World}{μ:DataW H→Nat}
theorem rd2:Rd enc Tryz.prog w μ 2 (fun n:Int=>[.int .i64 n]) (fun _ _=>True):=
 Rd.int Tryz.underlying2
theorem rd3:Rd enc Tryz.prog w μ 3 (fun n:Int=>[.int .i64 n]) (fun _ _=>True):=
 Rd.int Tryz.underlying3
theorem aFp:Rd enc Tryz.prog w μ 37 (fun n:Int=>[.int .i64 n]) (fun _ _=>True):=
 Rd.int Tryz.underlying37
theorem rd9:Rd enc Tryz.prog w μ 9 (fun n:ByteArray=>[.str n]) (fun _ _=>True):=
 Rd.str Tryz.underlying9
theorem aFi(hμ:Mu μ):Rd enc Tryz.prog w μ 79 tx (fun _ _=>True):=
 Rd.conv (Rd.struct hμ Tryz.underlying79 (l:=[(9,0),(2,1)]) (by kernel_rfl) (by kernel_rfl) (RdF.cons (k:=1) (by kernel_rfl) (rd9) (RdF.cons (k:=1) (by kernel_rfl) (rd2) RdF.nil))) (fun p=>⟨p.1,p.2.1⟩) (fun _=>rfl) (fun _ _ _=>trivial)
theorem aFh(hμ:Mu μ):Rd enc Tryz.prog w μ 94 cVl (fun _ _=>True):=
 Rd.conv (Rd.struct hμ Tryz.underlying94 (l:=[(9,0),(2,1),(2,2)]) (by kernel_rfl) (by kernel_rfl) (RdF.cons (k:=1) (by kernel_rfl) (rd9) (RdF.cons (k:=1) (by kernel_rfl) (rd2) (RdF.cons (k:=1) (by kernel_rfl) (rd2) RdF.nil)))) (fun p=>⟨p.1,p.2.1,p.2.2.1⟩) (fun _=>rfl) (fun _ _ _=>trivial)
theorem aCr(hμ:Mu μ):Rd enc Tryz.prog w μ 173 Bs (fun _ _=>True):=
 Rd.conv (Rd.array hμ Tryz.underlying173 (l:=[(2,0),(2,1)]) (by kernel_rfl) (by kernel_rfl) (RdF.cons (k:=1) (by kernel_rfl) (rd2) (RdF.cons (k:=1) (by kernel_rfl) (rd2) RdF.nil))) (fun p=>(p.1,p.2.1)) (fun _=>rfl) (fun _ _ _=>trivial)
theorem aCs(hμ:Mu μ):Rd enc Tryz.prog w μ 129 (fun l:List Sp=>[vz l]) (fun l m=>l.length≤m):=
 Rd.conv (Rd.slice hμ Tryz.underlying129 (sz:=2) (by kernel_rfl) (by decide) (fun _=>rfl) (aCr hμ)) (fun l=>l) (fun _=>rfl) (fun _ _ h=>h.1)
theorem aFn(hμ:Mu μ):Rd enc Tryz.prog w μ 39 (fun l:List (List Sp)=>[lj l]) (fun l m=>l.length≤m∧∀q∈l,q.length≤m):=
 Rd.conv (Rd.slice hμ Tryz.underlying39 (sz:=1) (by kernel_rfl) (by decide) (fun _=>rfl) (aCs hμ)) (fun l=>l) (fun _=>rfl) (fun _ _ h=>h)
theorem aFm(hμ:Mu μ):Rd enc Tryz.prog w μ 41 (fun l:List (List Sp)=>[lj l]) (fun l m=>l.length≤m∧∀q∈l,q.length≤m):=
 Rd.conv (Rd.struct hμ Tryz.underlying41 (l:=[(39,0)]) (by kernel_rfl) (by kernel_rfl) (RdF.cons (k:=1) (by kernel_rfl) (aFn hμ) RdF.nil)) (fun p=>p.1) (fun _=>rfl) (fun _ _ h=>h.1)
theorem aFo(hμ:Mu μ):Rd enc Tryz.prog w μ 38 (fun l:List Vl=>[x6 l]) (fun l m=>l.length≤m):=
 Rd.conv (Rd.slice hμ Tryz.underlying38 (sz:=3) (by kernel_rfl) (by decide) (fun _=>rfl) (aFh hμ)) (fun l=>l) (fun _=>rfl) (fun _ _ h=>h.1)
theorem aFs(hμ:Mu μ):Rd enc Tryz.prog w μ 22 (fun l:List Pm=>[jn l]) (fun l m=>l.length≤m):=
 Rd.conv (Rd.slice hμ Tryz.underlying22 (sz:=2) (by kernel_rfl) (by decide) (fun _=>rfl) (aFi hμ)) (fun l=>l) (fun _=>rfl) (fun _ _ h=>h.1)
theorem aFk(hμ:Mu μ):Rd enc Tryz.prog w μ 44 (fun l:List ByteArray=>[nr l]) (fun l m=>l.length≤m):=
 Rd.conv (Rd.slice hμ Tryz.underlying44 (sz:=1) (by kernel_rfl) (by decide) (fun _=>rfl) (rd9)) (fun l=>l) (fun _=>rfl) (fun _ _ h=>h.1)
theorem aFl(hμ:Mu μ):Rd enc Tryz.prog w μ 43 cFt ftB:=
 Rd.conv (Rd.struct hμ Tryz.underlying43 (l:=[(37,0),(38,1),(41,2)]) (by kernel_rfl) (by kernel_rfl) (RdF.cons (k:=1) (by kernel_rfl) (aFp) (RdF.cons (k:=1) (by kernel_rfl) (aFo hμ) (RdF.cons (k:=1) (by kernel_rfl) (aFm hμ) RdF.nil)))) (fun p=>⟨p.1,p.2.1,p.2.2.1⟩) (fun _=>rfl) (fun _ _ h=>⟨h.2.1,h.2.2.1⟩)
theorem aFj(hμ:Mu μ):Rd enc Tryz.prog w μ 46 wz ndB:=
 Rd.conv (Rd.struct hμ Tryz.underlying46 (l:=[(9,0),(43,1),(44,4)]) (by kernel_rfl) (by kernel_rfl) (RdF.cons (k:=1) (by kernel_rfl) (rd9) (RdF.cons (k:=3) (by kernel_rfl) (aFl hμ) (RdF.cons (k:=1) (by kernel_rfl) (aFk hμ) RdF.nil)))) (fun p=>⟨p.1,p.2.1,p.2.2.1⟩) (fun _=>rfl) (fun _ _ h=>⟨h.2.1,h.2.2.1⟩)
theorem aFr(hμ:Mu μ):Rd enc Tryz.prog w μ 23 (fun l:List Nd=>[l7 l]) (fun l m=>l.length≤m∧∀n∈l,ndB n m):=
 Rd.conv (Rd.slice hμ Tryz.underlying23 (sz:=5) (by kernel_rfl) (by decide) (fun _=>rfl) (aFj hμ)) (fun l=>l) (fun _=>rfl) (fun _ _ h=>h)
theorem aFq(hμ:Mu μ):Rd enc Tryz.prog w μ 25 r8 trB:=
 Rd.conv (Rd.struct hμ Tryz.underlying25 (l:=[(22,0),(23,1)]) (by kernel_rfl) (by kernel_rfl) (RdF.cons (k:=1) (by kernel_rfl) (aFs hμ) (RdF.cons (k:=1) (by kernel_rfl) (aFr hμ) RdF.nil))) (fun p=>⟨p.1,p.2.1⟩) (fun _=>rfl) (fun _ _ h=>⟨h.1,h.2.1.1,h.2.1.2⟩)
end
end Go.Proofs.YtjhmidapljifbaaGreatDoor
namespace Go.Proofs
open Go.Shelf
def Tryz.lays169_ren:Go.Shelf.Ren:=⟨fun|169=>104|n=>n,fun|70=>162|9=>9|0=>0|72=>165|37=>163|127=>228|3=>3|5=>5|n=>n,fun|n=>n⟩
theorem Tryz.lays169:Go.Proofs.Lays.n169 Tryz.prog Tryz.lays169_ren:={
 mixed:=by kernel_rfl
 f169:=Tryz.func104.trans (congrArg some (by kernel_rfl))
 t0:=Tryz.underlying0
 a0:=Tryz.isAgg0
 z0:=Tryz.sizeOf0
 v0:=Tryz.zeroValue0
 t3:=Tryz.underlying3
 a3:=Tryz.isAgg3
 z3:=Tryz.sizeOf3
 v3:=Tryz.zeroValue3
 t9:=Tryz.underlying9
 a9:=Tryz.isAgg9
 z9:=Tryz.sizeOf9
 v9:=Tryz.zeroValue9
 t37:=Tryz.underlying163
 a37:=Tryz.isAgg163
 z37:=Tryz.sizeOf163
 v37:=Tryz.zeroValue163
 t70:=Tryz.underlying162
 a70:=Tryz.isAgg162
 z70:=Tryz.sizeOf162
 v70:=Tryz.zeroValue162
 t72:=Tryz.underlying165
 a72:=Tryz.isAgg165
 z72:=Tryz.sizeOf165
 v72:=Tryz.zeroValue165
 t127:=Tryz.underlying228
 a127:=Tryz.isAgg228
 z127:=Tryz.sizeOf228
 v127:=Tryz.zeroValue228}
theorem Tryz.Builder_Extra_169:Builder.Extra Tryz.prog Tryz.lays169_ren:={
 sizeBuilder:=by kernel_rfl
 liesBuilder:=by kernel_rfl
 t5:=Tryz.underlying5
 a5:=Tryz.isAgg5
 z5:=Tryz.sizeOf5
 v5:=Tryz.zeroValue5
 infoByte:=by kernel_rfl
 cellsByte:=by kernel_rfl
 sizeByte:=by kernel_rfl
 neB5:=by decide}
open Go.RowKit in
theorem Tryz.Builder_String_any_k(B b:Nat)(l:List UInt8)(w:World)(h:Lib.IsBuilderF 165 5 B b (Lib.byteCells l) w)(hBw:B≤w.heap.size):
  Calls Tryz.prog 104 #[.pointer (some ⟨b,0,none⟩)] w fun e w'=>e= .returned (.string ⟨l.toArray⟩)∧(Lib.IsBuilderF 165 5 B b (Lib.byteCells l) w'∧Below B w w'∧Lib.OthersKept 5 (some b) w w'):=Any.Builder_String_any_k Tryz.lays169 Tryz.Builder_Extra_169 B b l w h hBw
def Tryz.laysM173_ren:Go.Shelf.Ren:=⟨fun|173=>102|246=>162|283=>216|284=>217|285=>218|286=>219|129=>272|317=>271|318=>273|319=>274|320=>275|337=>353|338=>354|n=>n,fun|2=>2|3=>3|9=>9|4=>4|171=>295|0=>0|53=>296|37=>163|5=>5|173=>299|212=>378|51=>379|20=>20|213=>380|46=>369|232=>576|233=>577|n=>n,fun|17=>3|18=>4|19=>5|n=>n⟩
theorem Tryz.laysM173:Go.Proofs.LaysM.n173 Tryz.prog Tryz.laysM173_ren:={
 mixed:=by kernel_rfl
 f129:=Tryz.func272.trans (congrArg some (by kernel_rfl))
 f173:=Tryz.func102.trans (congrArg some (by kernel_rfl))
 f246:=Tryz.func162.trans (congrArg some (by kernel_rfl))
 f283:=Tryz.func216.trans (congrArg some (by kernel_rfl))
 f284:=Tryz.func217.trans (congrArg some (by kernel_rfl))
 f285:=Tryz.func218.trans (congrArg some (by kernel_rfl))
 f286:=Tryz.func219.trans (congrArg some (by kernel_rfl))
 f317:=Tryz.func271.trans (congrArg some (by kernel_rfl))
 f318:=Tryz.func273.trans (congrArg some (by kernel_rfl))
 f319:=Tryz.func274.trans (congrArg some (by kernel_rfl))
 f320:=Tryz.func275.trans (congrArg some (by kernel_rfl))
 f337:=Tryz.func353.trans (congrArg some (by kernel_rfl))
 f338:=Tryz.func354.trans (congrArg some (by kernel_rfl))
 t0:=Tryz.underlying0
 a0:=Tryz.isAgg0
 z0:=Tryz.sizeOf0
 v0:=Tryz.zeroValue0
 t2:=Tryz.underlying2
 a2:=Tryz.isAgg2
 z2:=Tryz.sizeOf2
 v2:=Tryz.zeroValue2
 t3:=Tryz.underlying3
 a3:=Tryz.isAgg3
 z3:=Tryz.sizeOf3
 v3:=Tryz.zeroValue3
 t4:=Tryz.underlying4
 a4:=Tryz.isAgg4
 z4:=Tryz.sizeOf4
 v4:=Tryz.zeroValue4
 t5:=Tryz.underlying5
 a5:=Tryz.isAgg5
 z5:=Tryz.sizeOf5
 v5:=Tryz.zeroValue5
 t9:=Tryz.underlying9
 a9:=Tryz.isAgg9
 z9:=Tryz.sizeOf9
 v9:=Tryz.zeroValue9
 t20:=Tryz.underlying20
 a20:=Tryz.isAgg20
 z20:=Tryz.sizeOf20
 v20:=Tryz.zeroValue20
 t37:=Tryz.underlying163
 a37:=Tryz.isAgg163
 z37:=Tryz.sizeOf163
 v37:=Tryz.zeroValue163
 t46:=Tryz.underlying369
 a46:=Tryz.isAgg369
 z46:=Tryz.sizeOf369
 v46:=Tryz.zeroValue369
 t51:=Tryz.underlying379
 a51:=Tryz.isAgg379
 z51:=Tryz.sizeOf379
 v51:=Tryz.zeroValue379
 t53:=Tryz.underlying296
 a53:=Tryz.isAgg296
 z53:=Tryz.sizeOf296
 v53:=Tryz.zeroValue296
 t171:=Tryz.underlying295
 a171:=Tryz.isAgg295
 z171:=Tryz.sizeOf295
 v171:=Tryz.zeroValue295
 t173:=Tryz.underlying299
 a173:=Tryz.isAgg299
 z173:=Tryz.sizeOf299
 v173:=Tryz.zeroValue299
 t212:=Tryz.underlying378
 a212:=Tryz.isAgg378
 z212:=Tryz.sizeOf378
 v212:=Tryz.zeroValue378
 t213:=Tryz.underlying380
 a213:=Tryz.isAgg380
 z213:=Tryz.sizeOf380
 t232:=Tryz.underlying576
 a232:=Tryz.isAgg576
 z232:=Tryz.sizeOf576
 v232:=Tryz.zeroValue576
 t233:=Tryz.underlying577
 a233:=Tryz.isAgg577
 z233:=Tryz.sizeOf577
 v233:=Tryz.zeroValue577
 g17:=by kernel_rfl
 g18:=by kernel_rfl
 g19:=by kernel_rfl
 i0:=by kernel_rfl
 i2:=by kernel_rfl
 i3:=by kernel_rfl
 i4:=by kernel_rfl
 i5:=by kernel_rfl
 i9:=by kernel_rfl
 i20:=by kernel_rfl
 i37:=by kernel_rfl
 i46:=by kernel_rfl
 i51:=by kernel_rfl
 i53:=by kernel_rfl
 i171:=by kernel_rfl
 i173:=by kernel_rfl
 i212:=by kernel_rfl
 i232:=by kernel_rfl
 i233:=by kernel_rfl
 m17:=by kernel_rfl
 m18:=by kernel_rfl
 m19:=by kernel_rfl}
open Go.RowKit Go.Sort Go.Lib in
theorem Tryz.strconv_FormatInt_10(n:Int)(h0: -9223372036854775808≤n)(h1:n≤9223372036854775807)(w:World)(htab:Lib.TabIs Tryz.prog w "internal/strconv.uint64pow10" .u64 Lib.pow10Tab):
  Calls Tryz.prog 102 #[.int .i64 n,.int .i64 10] w fun e w'=>e= .returned (.string ⟨(Lib.itoa n).toArray⟩)∧∃k os,w'=grow (w.drewN k) os:=Any.strconv_FormatInt_10 Tryz.laysM173 n h0 h1 w htab
def Tryz.l6_ren:Go.Shelf.Ren:=⟨fun|6=>213|15=>270|14=>269|28=>352|29=>272|20=>344|21=>345|22=>346|23=>347|24=>348|25=>349|26=>350|27=>351|46=>419|47=>420|48=>421|49=>422|50=>423|57=>486|n=>n,fun|22=>39|24=>129|25=>292|3=>3|39=>369|0=>0|53=>379|55=>296|4=>4|46=>477|45=>476|50=>90|5=>5|9=>9|66=>570|70=>574|76=>645|77=>81|n=>n,fun|n=>n⟩
theorem Tryz.l6:Go.Proofs.SlLaysF.n6 Tryz.prog Tryz.l6_ren:={
 mixed:=by kernel_rfl
 f6:=⟨Tryz.f213.name,by decide,Tryz.func213.trans (congrArg some (by kernel_rfl))⟩
 f14:=⟨Tryz.f269.name,by decide,Tryz.func269.trans (congrArg some (by kernel_rfl))⟩
 f15:=Tryz.func270.trans (congrArg some (by kernel_rfl))
 f20:=⟨Tryz.f344.name,by decide,Tryz.func344.trans (congrArg some (by kernel_rfl))⟩
 f21:=⟨Tryz.f345.name,by decide,Tryz.func345.trans (congrArg some (by kernel_rfl))⟩
 f22:=⟨Tryz.f346.name,by decide,Tryz.func346.trans (congrArg some (by kernel_rfl))⟩
 f23:=⟨Tryz.f347.name,by decide,Tryz.func347.trans (congrArg some (by kernel_rfl))⟩
 f24:=⟨Tryz.f348.name,by decide,Tryz.func348.trans (congrArg some (by kernel_rfl))⟩
 f25:=⟨Tryz.f349.name,by decide,Tryz.func349.trans (congrArg some (by kernel_rfl))⟩
 f26:=⟨Tryz.f350.name,by decide,Tryz.func350.trans (congrArg some (by kernel_rfl))⟩
 f27:=⟨Tryz.f351.name,by decide,Tryz.func351.trans (congrArg some (by kernel_rfl))⟩
 f28:=Tryz.func352.trans (congrArg some (by kernel_rfl))
 f29:=Tryz.func272.trans (congrArg some (by kernel_rfl))
 f46:=⟨Tryz.f419.name,by decide,Tryz.func419.trans (congrArg some (by kernel_rfl))⟩
 f47:=Tryz.func420.trans (congrArg some (by kernel_rfl))
 f48:=Tryz.func421.trans (congrArg some (by kernel_rfl))
 f49:=⟨Tryz.f422.name,by decide,Tryz.func422.trans (congrArg some (by kernel_rfl))⟩
 f50:=⟨Tryz.f423.name,by decide,Tryz.func423.trans (congrArg some (by kernel_rfl))⟩
 f57:=⟨Tryz.f486.name,by decide,Tryz.func486.trans (congrArg some (by kernel_rfl))⟩
 t0:=Tryz.underlying0
 a0:=Tryz.isAgg0
 z0:=Tryz.sizeOf0
 v0:=Tryz.zeroValue0
 t3:=Tryz.underlying3
 a3:=Tryz.isAgg3
 z3:=Tryz.sizeOf3
 v3:=Tryz.zeroValue3
 t4:=Tryz.underlying4
 a4:=Tryz.isAgg4
 z4:=Tryz.sizeOf4
 v4:=Tryz.zeroValue4
 t5:=Tryz.underlying5
 a5:=Tryz.isAgg5
 z5:=Tryz.sizeOf5
 v5:=Tryz.zeroValue5
 t9:=Tryz.underlying9
 a9:=Tryz.isAgg9
 z9:=Tryz.sizeOf9
 v9:=Tryz.zeroValue9
 t22:=Tryz.underlying39
 a22:=Tryz.isAgg39
 z22:=Tryz.sizeOf39
 v22:=Tryz.zeroValue39
 a24:=Tryz.isAgg129
 z24:=Tryz.sizeOf129
 t25:=Tryz.underlying292
 a25:=Tryz.isAgg292
 z25:=Tryz.sizeOf292
 v25:=Tryz.zeroValue292
 t39:=Tryz.underlying369
 a39:=Tryz.isAgg369
 z39:=Tryz.sizeOf369
 v39:=Tryz.zeroValue369
 t45:=Tryz.underlying476
 a45:=Tryz.isAgg476
 z45:=Tryz.sizeOf476
 v45:=Tryz.zeroValue476
 t46:=Tryz.underlying477
 a46:=Tryz.isAgg477
 z46:=Tryz.sizeOf477
 v46:=Tryz.zeroValue477
 t50:=Tryz.underlying90
 a50:=Tryz.isAgg90
 z50:=Tryz.sizeOf90
 v50:=Tryz.zeroValue90
 t53:=Tryz.underlying379
 a53:=Tryz.isAgg379
 z53:=Tryz.sizeOf379
 v53:=Tryz.zeroValue379
 t55:=Tryz.underlying296
 a55:=Tryz.isAgg296
 z55:=Tryz.sizeOf296
 v55:=Tryz.zeroValue296
 t66:=Tryz.underlying570
 a66:=Tryz.isAgg570
 z66:=Tryz.sizeOf570
 v66:=Tryz.zeroValue570
 t70:=Tryz.underlying574
 a70:=Tryz.isAgg574
 z70:=Tryz.sizeOf574
 v70:=Tryz.zeroValue574
 t76:=Tryz.underlying645
 a76:=Tryz.isAgg645
 z76:=Tryz.sizeOf645
 v76:=Tryz.zeroValue645
 t77:=Tryz.underlying81
 a77:=Tryz.isAgg81
 z77:=Tryz.sizeOf81
 v77:=Tryz.zeroValue81}
end Go.Proofs
