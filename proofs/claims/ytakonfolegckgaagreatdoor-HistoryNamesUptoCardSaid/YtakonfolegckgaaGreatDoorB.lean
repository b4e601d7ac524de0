/- A part of the proof for HistoryNames: PS11 to PS25. Printed from longer texts. -/
import Derived.Test.YtakonfolegckgaaGreatDoorA
import Derived.MapKept
set_option linter.all false
set_option maxHeartbeats 64000000
open And renaming intro→aLt
open Array renaming all_eq_true_iff_forall_mem→Ky,getD_eq_getD_getElem?→jd,getElem?_append→Hi,getElem?_append_left→ow,getElem?_append_right→a4h,getElem?_eq_getElem→bh,getElem?_eq_some_iff→iu,getElem?_map→Xu,getElem?_modify→Di,getElem?_push→a2o,getElem?_range→avq,getElem?_replicate→Wr,getElem?_setIfInBounds→aAd,getElem?_setIfInBounds_ne→Wq,getElem?_setIfInBounds_self→Ts,getElem?_toList→aJe,getElem_toList→ab8,length_toList→qu,range→aLe,replicate→Ns,size_append→T4
open Bool renaming and_eq_true→da,false_eq_true→fw,not_eq_true'→qp,or_eq_true→Nr
open Go.Builtin renaming append_→yw,clear_→aD6,firstCells→lq,len_→aKv,nextslicecap→aJt,zeroCells→lj
open Go.Code renaming region→aL0
open Go.Deferred renaming ofValue→aAc
open Go.Instr renaming alloc→aKz,build→aKy,buildSlice→ab5,checkKey→an2,entryStore→aIz,extract→aK2,findAsking→aAb,findNow→aIy,keyThatStays→an1,lookup→aL4,makeFunc→aKf,mapEntry→aKe,mapUpdate→avo,sameBits→an0,sameNow→aIw,slice→aL3,sliceAt→zt,sliceBound→Wp,sliceBounds→qo,storeAt→aFp
open Go.IntKind renaming i64→ab
open Go.Next renaming value→amo
open Go.Op renaming equal→aJj,maxDepth→aL6
open Go.Oper renaming upon_enter→aJi,wp→aLz
open Go.Program renaming cellsOf→aFk
open Go.Region renaming binds→aJh,ready→Ic,wanted→aJv
open Go.Result renaming andThen_ok→bm
open Go.Sem renaming run_bind→cn,run_pure→ep
open Go.Value renaming slice→aL5
open Go.World renaming cell?→aKw
open Int renaming mul_le_mul_of_nonneg_left→Zo
open List renaming all_cons→W4,all_eq_true→dj,append_of_mem→a8c,cons_append→yv,contains_eq_mem→aJq,drop_drop→amv,eq_nil_iff_forall_not_mem→avm,eq_nil_of_length_eq_zero→j1,ext_getElem?→ady,filter_append→Xt,filter_cons→ab1,filter_eq_self→a2k,getD→cw,getElem?_append_left→mj,getElem?_append_right→ly,getElem?_cons_zero→dv,getElem?_drop→og,getElem?_eq_getElem→ax,getElem?_eq_none→a88,getElem?_eq_some_iff→aw,getElem?_map→cy,getElem?_range→Mt,getElem?_replicate→R2,getElem?_set→so,getElem?_take→jv,getElem?_toArray→Ab,getElem_mem→df,length→Gz,length_append→db,length_cons→cj,length_drop→yu,length_flatten→aJy,length_map→ag,length_nil→du,length_replicate→aJb,length_take→er,length_take_le'→avl,map→aLy,map_append→fl,map_congr_left→Dd,map_cons→dr,map_drop→aA9,map_take→Lr,mem_append→lx,mem_append_left→ab0,mem_append_right→Vn,mem_cons→fb,mem_cons_of_mem→aaz,mem_filter→F5,mem_flatMap→Pb,mem_iff_getElem→gf,mem_map→gr,mem_range→ez,mem_singleton→Tc,not_mem_nil→l8,pairwise_append→aay,pairwise_cons→J8,pairwise_map→aFs,range→dt,range'→al6,range'_succ→aIr,range_eq_range'→aJn,replicate→jb,set_append_right→a86,size_toArray→Wo,sum_replicate_nat→aIq,take_zero→M5
open List.cons renaming injEq→ab2
open Nat renaming add_assoc→rv,add_mul→jn,add_zero→Af,eq_zero_or_pos→a8b,le_of_eq→aK6,le_refl→ay,le_trans→ij,mod_eq_of_lt→aaw,mod_lt→a8a,mul_comm→aKp,mul_eq_zero→aJk,mul_le_mul_right→fh,not_lt→aLj,one_mul→Bt,sub_zero→Vk,zero_add→gd,zero_mul→amp
open Ne renaming symm→aLn
open Option renaming bind_eq_some_iff→ahn,bind_some→Pa,getD_some→jc,isSome_iff_exists→ke,map_eq_some_iff→aq,map_none→avk,map_some→ir,toList_some→amm
open Option.some renaming injEq→ak
open Prod.mk renaming injEq→cd
namespace Go.PI
open Go Go.RowKit
section
variable{P:Program}{B0 nt:Nat}{w0 w w':World}{G0 G G':gq}{s s':PS}{E E':Env}{a:Act}
theorem PS.a3v:∀(ids:List Nat) (s:PS),(s.uu ids).av=s.av:=by
 intro ids
 induction ids with
 |nil=>intro s;rfl
 |cons i r ih=>intro s;rw[PS.Mg,ih];rfl
theorem auz(h:jf B0 w0 nt G0 s G E a w){t e:TypeId}{n sz:Nat}{z:List D}{ps:Array (Nat×Operand)}{qs:List (Nat×Nat×nk)}(hu:P.underlying t=some (.slice e))(C9:lg P e=some sz)(hz:Fw P e=some z)
  (hn:n*sz≤2^20)(hzl:z.length=sz)(h0:0<sz)(hq:Qy sz ps.toList=some qs){pd:List (Nat×Nat×List D)}{Yt:List Nat}{ds:List D}(hp:Oq s qs=some (pd,Yt))(hf:Wh (jb n z).flatten pd=some ds):
  ∃G' vs,G.le G'∧jf B0 w0 nt G0 (s.uu Yt) G' E a w∧Holds G' E (s.uu Yt) vs (.arr sz (chunks sz n ds))∧vs.size=n*sz∧(chunks sz n ds).length=n∧
   (ab5 t n (ps.map fun(p:Nat×Operand)=>(p.1,a.eval p.2))).run P w= .ok (.slice (some ⟨w.heap.size,0,none⟩) n n) (w.alloc (.cells vs e)):=by
 obtain⟨G',hle,h',hg⟩:=h.uu Yt;obtain⟨q1,q2⟩:=Un hq;obtain⟨r1,r2⟩:=aiu h hle q1 (fun i p q hp hq=>(q2 i p q hp hq).2) hp hg;obtain⟨zv,hzv,hzr,hzc⟩:=Fv hz h'
 have hzs:zv.cells.size=sz:=by have:=hzc.1;simp at this;omega
 have hzero:O8 G' E (s.uu Yt) (((jb n z).flatten).map .d) ((aLe (n*sz)).map ((if n*sz=0 then(#[]:Array Value)else zv.cells)[· %(if n*sz=0 then(#[]:Array Value)else zv.cells).size]!)):=by
  by_cases hn0:n*sz=0
  ·have hn':n=0:=by
    rcases aJk.1 hn0 with h|h
    ·exact h
    omega
   subst hn';simp[O8]
  rw[al hn0];have:=a9k h' hzc (n:=n) (by omega);rw[hzl]at this;exact this
 have aE8:∀{cs:List D} {us:Array Value},O8 G' E s (cs.map .d) us→O8 G' E (s.uu Yt) (cs.map .d) us:=by
  intro cs us hr;refine⟨hr.1,fun i c u hc hu=>?_⟩;have:=hr.2 i c u hc hu;simp only[cy,aq]at hc;obtain⟨x,_,rfl⟩:=hc;exact this
 obtain⟨vs,hv1,hv2⟩:=Z8 (G:=G') (E:=E) (s:=s.uu Yt) (place:=fun i=>some (i*sz,sz)) (ev:=a.eval) (l:=ps.toList) (ps:=pd.map fun p=>(p.1,p.2.1,p.2.2.map .d)) (by simpa using r1) (fun i p q hp hq=>by
  simp only[cy,aq]at hq;obtain⟨q',hq',rfl⟩:=hq
  have hil:i<qs.length:=by have:=(aw.1 hp).1;omega
  have hq0:qs[i]? =some qs[i]:=ax hil;obtain⟨k1,k2,k3⟩:=r2 i p _ q' hp hq0 hq';obtain⟨⟨m1,m2⟩,_⟩:=q2 i p _ hp hq0
  exact⟨by simp[k1,k2,m1,←m2],aE8 k3⟩) (ayr hf) hzero
 have hlen:=ad0 hf;simp only[aJy,List.map_replicate,aIq,hzl]at hlen
 have hdl:ds.length=n*sz:=by simpa using hlen
 obtain⟨c1,c2⟩:=a7l sz n ds hdl
 have hvs:vs.size=n*sz:=by have:=hv2.1;simp at this;omega
 refine⟨G',vs,hle,h',⟨by rw[c1,hvs];exact ay _,fun i e hi=>(c2 i e hi).1,fun i e j x u hi hj hu=>?_⟩,hvs,c1,?_⟩
 ·obtain⟨k1,k2⟩:=c2 i e hi
  have hjl:j<sz:=by have:=(aw.1 hj).1;omega
  rw[k2 j hjl]at hj;exact hv2.2 (i*sz+j) (.d x) u (by simp[hj]) hu
 unfold ab5;simp only[cn,underlying,run_program,bm,hu,ep,sn C9];rw[al (by omega)]
 have hps:(ps.map fun(p:Nat×Operand)=>(p.1,a.eval p.2)).toList=ps.toList.map fun p=>(p.1,a.eval p.2):=by simp
 by_cases hn0:n*sz=0
 ·rw[bd hn0];simp only[bd hn0]at hv1;simp only[cn,ep,bm,hps,hv1];rfl
 rw[al hn0];simp only[al hn0]at hv1;simp only[cn,hzr,ep,bm,hps,hv1];rfl
theorem jf.fixed(h:jf B0 w0 nt G0 s G E a w){sz n:Nat}{dm:List (List D)}{vs:Array Value}(et:TypeId)(hh:Holds G E s vs (.arr sz dm))(hl:dm.length=n):
  ∃G',G.le G'∧jf B0 w0 nt G0 s G' E a (w.alloc (.cells vs et))∧i6 G' (.gz sz dm) (.slice (some ⟨w.heap.size,0,none⟩) n n):=by
 let G':gq:={cv:=fun b o=>if b=w.heap.size then vs[o]? else G.cv b o,mv:=G.mv}
 have ap5:∀o,(w.alloc (.cells vs et)).cell? ⟨w.heap.size,o,none⟩=vs[o]? :=fun o=>by
  unfold aKw;simp only[Ly];rfl
 have hle:G.le G':=⟨fun b o v hc=>by
  have:=h.gok.lt hc;show(if b=w.heap.size then vs[o]? else G.cv b o)=_
  rw[al (by omega)];exact hc,fun _ _ h=>h⟩
 have hb:Bel (Plain s.ctx) w.heap.size w (w.alloc (.cells vs et)):=(Bel.refl _ _).alloc (ay _) _
 have hok:GOk G' (w.alloc (.cells vs et)):=by
  refine⟨fun b o v hc=>?_,fun b es hc=>?_⟩
  ·change(if b=w.heap.size then vs[o]? else G.cv b o)=some v at hc;split at hc
   ·rename_i e;subst e;rw[ap5];exact hc
   exact(hb.cell (p:=⟨b,o,none⟩) (h.gok.lt hc)).trans (h.gok.cv b o v hc)
  obtain⟨ents,clock,h1,h2⟩:=h.gok.mv b es hc;exact⟨ents,clock,(hb.block b (h.gok.ltm hc)).trans h1,h2⟩
 refine⟨G',hle,h.a7q hb hle hok (fun b o hlt=>?_) (fun _ _=>rfl),?_⟩
 ·show(if b=w.heap.size then vs[o]? else G.cv b o)=_;rw[al (by omega)]
 have k:=i6.gz (G:=G') (sz:=sz) (l:=dm) (b:=w.heap.size) (o:=0) (c:=n) (by omega) hh.2.1 (fun i j hi hj=>?_) (fun i e j x v hi hj hv=>?_)
 ·rw[hl]at k;exact k
 ·show(if w.heap.size=w.heap.size then vs[0+i*sz+j]? else _).isSome;rw[bd rfl,gd];have h1:=hh.1;have:(i+1)*sz≤dm.length*sz:=fh _ hi;rw[jn,Bt]at this;rw[bh (by omega)];rfl
 change(if w.heap.size=w.heap.size then vs[0+i*sz+j]? else _)=some v at hv;rw[bd rfl,gd]at hv;exact(hh.2.2 i e j x v hi hj hv).mono hle
theorem aky(h:jf B0 w0 nt G0 s G E a w){t e:TypeId}{n sz:Nat}{z:List D}{ps:Array (Nat×Operand)}{qs:List (Nat×Nat×nk)}(hu:P.underlying t=some (.slice e))(C9:lg P e=some sz)(hz:Fw P e=some z)
  (hn:n*sz≤2^20)(hzl:z.length=sz)(h0:0<sz)(hq:Qy sz ps.toList=some qs){d:Nat}{dst:Option Nat}{ids:List Nat}{ef:mc}{im:Bool}(he:(jy.yy im n sz z qs).p9 d s=some (ids,ef)):
  sj P B0 nt w0 G0 a w dst (((ab5 t n (ps.map fun(p:Nat×Operand)=>(p.1,a.eval p.2))).run P w).andThen fun v w=> .ok (.value v) w) (ef.app dst (s.uu ids)):=by
 simp only[jy.p9]at he;split at he
 ·rename_i pd Yt hp;split at he
  ·rename_i ds hf;obtain⟨G',vs,hle,h',hh,hvs,c1,run⟩:=auz h hu C9 hz hn hzl h0 hq hp hf;split at he
   ·simp only[mc.tj,ak,cd]at he;obtain⟨rfl,rfl⟩:=he;rw[run];obtain⟨G2,aEd,h2,hr⟩:=h'.fixed e hh c1;exact⟨_,_,_,G2,_,_,.d (.gz sz (chunks sz n ds)),rfl,.inl rfl,h2,hr,rfl⟩
   ·cases he
   simp only[ak,cd]at he;obtain⟨rfl,rfl⟩:=he;have hf':=h'.new d _ vs e hh;rw[run];refine⟨_,_,_,G',_,_,.ref d (s.av d+1) n,rfl,.inl rfl,hf',?_,rfl⟩;have:=Be (G':=G') (s':={s.uu Yt with dc:=l7 (s.uu Yt).dc d (some (.arr sz (chunks sz n ds))),av:=l7 (s.uu Yt).av d ((s.uu Yt).av d+1)})
    (E':={E with b:=l7 E.b d w.heap.size,n:=l7 E.n d vs.size}) (id:=d) (sz:=sz) (n:=(chunks sz n ds).length) (len:=n) (cap:=n) (g:=w.heap.size) (cu _ _ _) rfl (cu _ _ _) (by
     show l7 E.n d _ d=_
     rw[cu,hvs]) c1 (ay _)
   have hv:l7 (s.uu Yt).av d ((s.uu Yt).av d+1) d=s.av d+1:=by rw[cu,PS.a3v]
   simpa[hv]using this
  cases he
 cases he
theorem Gy{k:IntKind}{i:Int}{y:Nat}(h0:0≤i)(h1:i≤y)(c:BoundsCode)(w:World):(Wp (.int k i) y c).run P w= .ok i.toNat w:=by
 unfold Wp;simp only[cn,Rw,bm,bd (aLt h0 h1),ep]
theorem aeh(h:jf B0 w0 nt G0 s G E a w){t e:TypeId}{n:Nat}{x:nk}{lo hi:Option nk}{vx:Value}{vlo vhi:Option Value}(hu:P.underlying t=some (.slice e))(hn:lg P e=some n)
  (hx:iw G E s (x.ev s) vx)(hlo:(lo=none∧vlo=none)∨∃o v,lo=some o∧vlo=some v∧iw G E s (o.ev s) v)(hhi:(hi=none∧vhi=none)∨∃o v,hi=some o∧vhi=some v∧iw G E s (o.ev s) v)
  {d:Nat}{ids:List Nat}{ef:mc}(he:(jy.slice n x lo hi).p9 d s=some (ids,ef)):
  ∃u y,(zt t vx vlo vhi none).run P w= .ok u w∧ids=[]∧ef= .val y∧iw G E s y u:=by
 simp only[jy.p9]at he;split at he
 ·rename_i sz l io hxe hio;rw[hxe]at hx;split at he
  ·rename_i j hj;split at he
   ·rename_i hc;simp only[mc.tj,ak,cd]at he;obtain⟨rfl,rfl⟩:=he;obtain⟨rfl,J3,hjl⟩:=hc
    have key:∀(b:Option Addr) (cap:Nat),vx= .slice b l.length cap→l.length≤cap→(zt t vx vlo vhi none).run P w= .ok (.slice (if cap=io.getD 0 then b else b.map (·.add (io.getD 0*sz))) (j-io.getD 0) (cap-io.getD 0)) w:=by
     intro b cap hv agb;subst hv
     have hb:(qo true l.length cap vlo vhi none).run P w= .ok (io.getD 0,j,cap) w:=by
      unfold qo
      have hh:(vhi=none∧j=l.length)∨∃v,vhi=some v∧∀c,(Wp v cap c).run P w= .ok j w:=by
       rcases hhi with ⟨rfl,rfl⟩|⟨o,v,rfl,rfl,hv⟩
       ·simp only[Re,ak]at hj;exact .inl ⟨rfl,hj.symm⟩
       simp only[Re]at hj;split at hj
       ·rename_i k q hq;rw[hq]at hv;cases hv;split at hj
        ·rename_i h0
         injection hj with hj
         subst hj;exact .inr ⟨_,rfl,fun c=>Gy h0 (by omega) c w⟩
        cases hj
       cases hj
      have hl:(vlo=none∧io.getD 0=0)∨∃v,vlo=some v∧∀c,(Wp v j c).run P w= .ok (io.getD 0) w:=by
       rcases hlo with ⟨rfl,rfl⟩|⟨o,v,rfl,rfl,hv⟩
       ·simp only[Vr,ak]at hio;subst hio;exact .inl ⟨rfl,rfl⟩
       simp only[Vr]at hio;split at hio
       ·rename_i k q hq;rw[hq]at hv;cases hv;split at hio
        ·rename_i h0
         injection hio with hio
         subst hio;exact .inr ⟨_,rfl,fun c=>Gy h0 (by simp at J3;omega) c w⟩
        cases hio
       cases hio
      rcases hh with ⟨rfl,rfl⟩|⟨v1,rfl,e1⟩<;>rcases hl with ⟨rfl,e0⟩|⟨v2,rfl,e2⟩
      ·simp[cn,e0]
      ·simp[cn,e2]
      ·simp[cn,e1,e0]
      simp[cn,e1,e2]
     unfold zt;simp only[cn,underlying,run_program,bm,hu,ep];unfold aL3;simp only[cn,underlying,run_program,bm,hu,ep,hb,sn hn]
    have len:((l.take j).drop (io.getD 0)).length=j-io.getD 0:=by simp;omega
    have get:∀i e,((l.take j).drop (io.getD 0))[i]? =some e→l[io.getD 0+i]? =some e∧i<j-io.getD 0:=by
     intro i e hi;have:=(aw.1 hi).1;rw[og,jv]at hi;split at hi
     ·exact⟨hi,by omega⟩
     cases hi
    cases hx with
    |Vq=>
     have hj0:j=0:=by simpa using hjl
     subst hj0
     have hi0:io.getD 0=0:=by omega
     refine⟨_,_,key none 0 rfl (by simp),rfl,rfl,?_⟩;rw[hi0];exact i6.Vq
    | @Y2 _ a c=>
     have hj0:j=0:=by simpa using hjl
     subst hj0
     have hi0:io.getD 0=0:=by omega
     refine⟨_,_,key (some a) c rfl (by simp),rfl,rfl,?_⟩;rw[hi0];split<;>exact i6.Y2
    | @gz _ _ b o c hc hs k1 k2=>
     refine⟨_,_,key (some ⟨b,o,none⟩) c rfl hc,rfl,rfl,?_⟩;by_cases hci:c=io.getD 0
     ·have he':(l.take j).drop (io.getD 0)=[]:=j1 (by rw[len];omega);rw[bd hci,he']
      have:j-io.getD 0=0:=by omega
      rw[this];exact i6.gz (l:=[]) (by simp) (by simp) (by simp) (by simp)
     rw[al hci];simp only[ir,Ev];rw[←len];refine i6.gz (by rw[len];omega) (fun i e hi=>hs _ e (get i e hi).1) (fun i q hi hq=>?_) (fun i e q x v hi hx hv=>?_)
     ·have:=k1 (io.getD 0+i) q (by omega) hq;rw[jn,←rv]at this;exact this
     refine k2 (io.getD 0+i) e q x v (get i e hi).1 hx ?_;rw[jn,←rv];exact hv
   cases he
  cases he
 ·rename_i io hxe hio;rw[hxe]at hx;cases hx;split at he
  ·rename_i j hj;split at he
   ·rename_i hc;simp only[mc.tj,ak,cd]at he;obtain⟨rfl,rfl⟩:=he;obtain⟨hi0,rfl⟩:=hc
    have hb:(qo true 0 0 vlo vhi none).run P w= .ok (0,0,0) w:=by
     unfold qo
     have hh:(vhi=none)∨∃v,vhi=some v∧∀c,(Wp v 0 c).run P w= .ok 0 w:=by
      rcases hhi with ⟨rfl,rfl⟩|⟨o,v,rfl,rfl,hv⟩
      ·exact .inl rfl
      simp only[Re]at hj;split at hj
      ·rename_i k q hq;rw[hq]at hv;cases hv;split at hj
       ·rename_i h0;simp only[ak]at hj;refine .inr ⟨_,rfl,fun c=>?_⟩;have:=Gy (P:=P) (k:=k) h0 (y:=0) (by omega) c w
        rwa[hj]at this
       cases hj
      cases hj
     have hl:(vlo=none)∨∃v,vlo=some v∧∀c,(Wp v 0 c).run P w= .ok 0 w:=by
      rcases hlo with ⟨rfl,rfl⟩|⟨o,v,rfl,rfl,hv⟩
      ·exact .inl rfl
      simp only[Vr]at hio;split at hio
      ·rename_i k q hq;rw[hq]at hv;cases hv;split at hio
       ·rename_i h0;simp only[ak]at hio;subst hio;simp only[jc]at hi0;refine .inr ⟨_,rfl,fun c=>?_⟩;have:=Gy (P:=P) (k:=k) h0 (y:=0) (by omega) c w
        rwa[hi0]at this
       cases hio
      cases hio
     rcases hh with rfl|⟨v1,rfl,e1⟩<;>rcases hl with rfl|⟨v2,rfl,e2⟩
     ·simp[cn]
     ·simp[cn,e2]
     ·simp[cn,e1]
     simp[cn,e1,e2]
    refine⟨.slice none 0 0,.d .ck,?_,rfl,rfl,i6.ck⟩;unfold zt;simp only[cn,underlying,run_program,bm,hu,ep];unfold aL3;simp only[cn,underlying,run_program,bm,hu,ep,hb,sn hn];rfl
   cases he
  cases he
 cases he
theorem jf.az0(h:jf B0 w0 nt G0 s G E a w){id sz n j m:Nat}{b b':B}(hb:s.dc id=some b)(hd:b.De=some (sz,n))(hd':b'.De=some (sz,j))(hmn:m≤E.n id)(hh:∀cells,Holds G E s cells b→Holds G E s cells b'):
  jf B0 w0 nt G0 {s with dc:=l7 s.dc id (some b'),av:=l7 s.av id (s.av id+1)} G {E with n:=l7 E.n id m} a w:=by
 have hne:∀i,l7 s.av id (s.av id+1) i=s.av i→i≠id:=by
  intro i hi e;subst e;rw[cu]at hi;omega
 have hm:Ia E {E with n:=l7 E.n id m} s {s with dc:=l7 s.dc id (some b'),av:=l7 s.av id (s.av id+1)}:=by
  refine⟨fun i=>?_,fun i sz n' hv rp=>?_,fun i b1 hv rp hva=>?_,fun i hv hp=>⟨hp,rfl⟩⟩
  ·show _≤l7 s.av id (s.av id+1) i;by_cases e:i=id
   ·subst e;rw[cu];omega
   rw[gj _ _ _ _ e];exact ay _
  ·have e:=hne i hv;simp only[PS.De,gj _ _ _ _ e]at rp;exact⟨n',rp,ay _,fun _=>⟨rfl,gj _ _ _ _ e⟩⟩
  have e:=hne i hv;simp only[gj _ _ _ _ e]at rp;exact⟨⟨b1,rp,hva⟩,rfl⟩
 refine⟨h.size,h.defers,h.base,h.below,h.gok,h.gle,h.J4,fun t=>iw.move (gq.la _) hm (h.tmp t),fun i b1 rp=>?_,fun i k bi bk hi hk hik=>?_,fun i es hi=>?_,h.Rg,fun p=>iw.move (gq.la _) hm (h.ctx p),h.tb⟩
 ·by_cases e:i=id
  ·subst e;simp only[cu,ak]at rp;subst rp;obtain⟨k1,k2,cells,et,k3,k4,k5⟩:=h.dc i _ hb
   have k5':Holds G E s cells b:=by cases b<;>exact k5
   have k6:=(hh cells k5').move (gq.la G) hm;unfold Tb;simp only[cu];refine⟨k1,k2,cells,et,k3,by omega,?_⟩;cases b'<;>exact k6
  simp only[gj _ _ _ _ e]at rp;have k:=h.dc i _ rp;exact k.move (gq.la _) hm rfl k.2.1 rfl (gj _ _ _ _ e)
 ·have un:∀i bi,l7 s.dc id (some b') i=some bi→∃b2,s.dc i=some b2:=by
   intro i bi hi;by_cases e:i=id
   ·subst e;exact⟨_,hb⟩
   rw[gj _ _ _ _ e]at hi;exact⟨bi,hi⟩
  obtain⟨b2,h2⟩:=un i bi hi;obtain⟨b3,h3⟩:=un k bk hk;exact h.inj i k b2 b3 h2 h3 hik
 obtain⟨h1,h2,ents,clock,h3,h4,h5,h6⟩:=h.mp i es hi;exact⟨h1,h2,ents,clock,h3,h4,fun i e x hx hy=>⟨(h5 i e x hx hy).1,iw.Dw (gq.la _) hm (h5 i e x hx hy).2⟩,h6⟩
theorem Holds.take{cells:Array Value}{sz j:Nat}{dm:List (List D)}(h:Holds G E s cells (.arr sz dm)):Holds G E s cells (.arr sz (dm.take j)):=by
 obtain⟨k5,k6,k7⟩:=h;refine⟨?_,fun q e hq=>?_,fun q e p x u hq hp hu=>?_⟩
 ·have:(dm.take j).length*sz≤dm.length*sz:=fh _ (avl _ _);omega
 ·rw[jv]at hq;split at hq
  ·exact k6 q e hq
  cases hq
 rw[jv]at hq;split at hq
 ·exact k7 q e p x u hq hp hu
 cases hq
theorem Holds.aDc{cells:Array Value}{sz j:Nat}{dm:List (List C)}(h:Holds G E s cells (.qi sz dm)):Holds G E s cells (.qi sz (dm.take j)):=by
 obtain⟨k5,k6,k7⟩:=h;refine⟨?_,fun q e hq=>?_,fun q e p x u hq hp hu=>?_⟩
 ·have:(dm.take j).length*sz≤dm.length*sz:=fh _ (avl _ _);omega
 ·rw[jv]at hq;split at hq
  ·exact k6 q e hq
  cases hq
 rw[jv]at hq;split at hq
 ·exact k7 q e p x u hq hp hu
 cases hq
theorem Ig{t e:TypeId}{n:Nat}(hu:P.underlying t=some (.slice e))(hn:lg P e=some n){k k':IntKind}{j:Int}(h0:0≤j){b:Option Addr}{len cap:Nat}(hc:j.toNat≤cap):
  (zt t (.slice b len cap) none (some (.int k j)) (some (.int k' j))).run P w= .ok (.slice (if j.toNat=0 then b else b.map (·.add 0)) j.toNat j.toNat) w:=by
 have hb:(qo true len cap none (some (.int k j)) (some (.int k' j))).run P w= .ok (0,j.toNat,j.toNat) w:=by
  unfold qo;simp only[cn,Gy h0 (show j≤(cap:Nat)by omega),bm,Gy h0 (show j≤(j.toNat:Nat)by omega),ep]
 unfold zt;simp only[cn,underlying,run_program,bm,hu,ep];unfold aL3;simp only[cn,underlying,run_program,bm,hu,ep,hb,sn hn,amp,Vk]
theorem abd(h:jf B0 w0 nt G0 s G E a w){t e:TypeId}{n:Nat}{x j k:nk}{vx vj vk:Value}(hu:P.underlying t=some (.slice e))(hn:lg P e=some n)
  (hx:iw G E s (x.ev s) vx)(hj:iw G E s (j.ev s) vj)(hk:iw G E s (k.ev s) vk){d:Nat}{dst:Option Nat}{ids:List Nat}{ef:mc}(he:(jy.slice3 n x j k).p9 d s=some (ids,ef)):
  sj P B0 nt w0 G0 a w dst (((zt t vx none (some vj) (some vk)).run P w).andThen fun v w=> .ok (.value v) w) (ef.app dst (s.uu ids)):=by
 simp only[jy.p9]at he;split at he
 ·rename_i ka p kb q e2 e3;rw[e2]at hj;rw[e3]at hk;cases hj;cases hk;split at he
  ·rename_i hpq;obtain⟨rfl,h0⟩:=hpq;generalize x.ev s=y at he hx
   cases y with
   |d z=>
    cases z with
    |gz sz l=>
     simp only[T8]at he;split at he
     ·rename_i hc;obtain⟨rfl,hl⟩:=hc;simp only[mc.tj,ak,cd]at he;obtain⟨rfl,rfl⟩:=he
      cases hx with
      |Vq=>
       rw[Ig hu hn h0 (by simp at hl;omega)]
       have hp:p.toNat=0:=by simp at hl;omega
       rw[hp];simp only[ne_eq,not_true_eq_false,and_false,bn,reduceIte,M5];exact sj.val h rfl i6.Vq
      | @Y2 _ a c=>
       rw[Ig hu hn h0 (by simp at hl;omega)]
       have hp:p.toNat=0:=by simp at hl;omega
       rw[hp];simp only[ne_eq,not_true_eq_false,and_false,bn,reduceIte,M5];exact sj.val h rfl i6.Y2
      | @gz _ _ b o c hc hs k1 k2=>
       rw[Ig hu hn h0 (by omega)];by_cases hp:p.toNat=0∧l≠[]
       ·rw[bd hp,hp.1];exact sj.val h rfl i6.Of
       rw[al hp]
       have hb:(if p.toNat=0 then(some ⟨b,o,none⟩:Option Addr)else(some ⟨b,o,none⟩:Option Addr).map (·.add 0))=some ⟨b,o,none⟩:=by
        split
        ·rfl
        simp only[ir,Ev,Af]
       rw[hb];refine sj.val h rfl ?_
       have len:(l.take p.toNat).length=p.toNat:=by simp;omega
       have get:∀(i:Nat) (e:List D),(l.take p.toNat)[i]? =some e→l[i]? =some e:=by
        intro i e hi;rw[jv]at hi;split at hi
        ·exact hi
        cases hi
       have:=i6.gz (G:=G) (sz:=sz) (l:=l.take p.toNat) (b:=b) (o:=o) (c:=p.toNat) (by rw[len];exact ay _) (fun i e hi=>hs i e (get i e hi)) (fun i q hi hq=>k1 i q (by omega) hq) (fun i e q x v hi hx hv=>k2 i e q x v (get i e hi) hx hv);rw[len]at this;exact this
     cases he
    |Of=>
     simp only[T8]at he;split at he
     ·rename_i hp;simp only[mc.tj,ak,cd]at he;obtain⟨rfl,rfl⟩:=he;cases hx;rename_i b o c;rw[Ig hu hn h0 (by omega),bd hp,hp];exact sj.val h rfl i6.Of
     cases he
    |ck=>
     simp only[T8]at he;split at he
     ·rename_i hp;simp only[mc.tj,ak,cd]at he;obtain⟨rfl,rfl⟩:=he;cases hx;rw[Ig hu hn h0 (by omega),bd hp,hp];exact sj.val h rfl i6.ck
     cases he
    |_=>cases he
   |ref id av n0=>
    simp only[T8]at he;split at he
    ·rename_i sz dm hle;split at he
     ·rename_i hc;obtain⟨rfl,hl,aJ3⟩:=hc;simp only[ak,cd]at he;obtain⟨rfl,rfl⟩:=he;obtain⟨v1,v2⟩:=yj hle;obtain⟨_,k2⟩:=hx.2 v1 _ _ (xj v2);obtain⟨cap,c1,c2,rfl⟩:=k2 hl;rw[Ig hu hn h0 (by omega)];obtain⟨_,_,_,a63,_,_⟩:=h.yl v2
      have hm0:p.toNat*sz≤E.n id:=by rw[c1];exact fh _ (by omega)
      have hf:=h.az0 (b':= .arr sz (dm.take p.toNat)) (j:=p.toNat) v2 rfl (by simp[B.De];omega) hm0 (fun _ q=>q.take);refine⟨_,_,w,G,_,_,.ref id (s.av id+1) p.toNat,rfl,.inl rfl,hf,?_,rfl⟩
      have ea:(if p.toNat=0 then some (⟨E.b id,0,none⟩:Addr)else(some (⟨E.b id,0,none⟩:Addr)).map (·.add 0))=some ⟨E.b id,0,none⟩:=by
       split
       ·rfl
       simp[Ev]
      rw[ea];have:=Be (G':=G) (s':={s with dc:=l7 s.dc id (some (.arr sz (dm.take p.toNat))),av:=l7 s.av id (s.av id+1)}) (E':={E with n:=l7 E.n id (p.toNat*sz)}) (id:=id) (sz:=sz) (n:=p.toNat) (len:=p.toNat) (cap:=p.toNat) (g:=E.b id) (cu _ _ _) (by simp[B.De];omega) rfl (cu _ _ _) rfl (ay _);simpa[cu]using this
     cases he
    cases he
   |_=>cases he
  cases he
 cases he
end
end Go.PI
namespace Go.PI
open Go Go.RowKit
section
variable{P:Program}{B0 nt:Nat}{w0 w w':World}{G0 G G':gq}{s s':PS}{E E':Env}{a:Act}
theorem abc(h:jf B0 w0 nt G0 s G E a w){t e:TypeId}{n:Nat}{x j:nk}{vx vj:Value}(hu:P.underlying t=some (.slice e))(hn:lg P e=some n)
  (hx:iw G E s (x.ev s) vx)(hj:iw G E s (j.ev s) vj){d:Nat}{dst:Option Nat}{ids:List Nat}{ef:mc}(he:(jy.Oe n x j).p9 d s=some (ids,ef)):
  sj P B0 nt w0 G0 a w dst (((zt t vx none (some vj) none).run P w).andThen fun v w=> .ok (.value v) w) (ef.app dst (s.uu ids)):=by
 have key:∀(b:Option Addr) (len cap:Nat) (k:IntKind) (p:Int),0≤p→p≤cap→(zt t (.slice b len cap) none (some (.int k p)) none).run P w= .ok (.slice (if cap=0 then b else b.map (·.add 0)) p.toNat cap) w:=by
  intro b len cap k p h0 hc
  have hb:(qo true len cap none (some (.int k p)) none).run P w= .ok (0,p.toNat,cap) w:=by
   unfold qo;simp only[cn,Gy h0 (show p≤(cap:Nat)by omega),bm,ep]
  unfold zt;simp only[cn,underlying,run_program,bm,hu,ep];unfold aL3;simp only[cn,underlying,run_program,bm,hu,ep,hb,sn hn,amp,Vk]
 simp only[jy.p9]at he;split at he
 ·rename_i id av m kk k hxe hje;rw[hxe]at hx;rw[hje]at hj;cases hj;split at he
  ·rename_i sz dm hle;split at he
   ·rename_i hc;simp only[ak,cd]at he;obtain⟨rfl,rfl⟩:=he;obtain⟨rfl,hl,h0,hkm⟩:=hc;obtain⟨v1,v2⟩:=yj hle;obtain⟨_,k2⟩:=hx.2 v1 _ _ (xj v2);obtain⟨cap,c1,c2,rfl⟩:=k2 hl;rw[key _ _ _ _ _ h0 (by omega)];have hf:=h.az0 (b':= .arr sz (dm.take k.toNat)) (j:=k.toNat) (m:=E.n id) v2 rfl (by simp[B.De];omega) (ay _) (fun _ q=>q.take);refine⟨_,_,w,G,_,_,.ref id (s.av id+1) k.toNat,rfl,.inl rfl,hf,?_,rfl⟩
    have ea:(if cap=0 then some (⟨E.b id,0,none⟩:Addr)else(some (⟨E.b id,0,none⟩:Addr)).map (·.add 0))=some ⟨E.b id,0,none⟩:=by
     split
     ·rfl
     simp[Ev]
    rw[ea];have:=Be (G':=G) (s':={s with dc:=l7 s.dc id (some (.arr sz (dm.take k.toNat))),av:=l7 s.av id (s.av id+1)}) (E':={E with n:=l7 E.n id (E.n id)}) (id:=id) (sz:=sz) (n:=k.toNat) (len:=k.toNat) (cap:=cap) (g:=E.b id) (cu _ _ _) (by simp[B.De];omega) rfl (by simp only[cu];exact c1) rfl (by omega);simpa[cu]using this
   cases he
  cases he
 ·rename_i kk k hxe hje;rw[hxe]at hx;rw[hje]at hj;cases hj;cases hx;split at he
  ·rename_i hk;simp only[mc.tj,ak,cd]at he;obtain⟨rfl,rfl⟩:=he;subst hk;rw[key none 0 0 kk 0 (by omega) (by omega)];exact sj.val h rfl i6.ck
  cases he
 cases he
theorem ado{t u e ty:TypeId}{i:TypeInfo}{z:Value}{ik k:IntKind}(ht:P.underlying t=some (.slice e))(hu:P.underlying u=some (.int ik))(hi:P.info? e=some i)(hz:i.zero=some z){args:Array Value}{Ew:Array TypeId}
  {n:Int}(ha0:args[0]? =some (.slice none 0 0))(ha1:args[1]? =some (.int k n))(h0:Ew[0]? =some t)(h1:Ew[1]? =some u)(hn:0<n)(hs:0<i.size)
  (hb:n*i.bytes≤2^47)(hbp:0<i.bytes):
  (yw Ew ty args).run P w= .ok (.slice (some ⟨w.heap.size,0,none⟩) n.toNat (grownCap w n.toNat 0 e))
   (w.drew.alloc (.cells (lj z.cells n.toNat++lj z.cells (grownCap w n.toNat 0 e-n.toNat)) e)):=by
 have hle:n≤2^47:=by
  have:n*1≤n*i.bytes:=Zo (by omega) (by omega);omega
 have hw:ab.wrap n=n:=dh n (by omega) (by omega)
 have aya:¬(n<0):=by omega
 have h48:¬(2^48<n*(i.bytes:Int)):=by omega
 have aHi:¬(281474976710656<n*(i.bytes:Int)):=by omega
 have hn0:¬(n.toNat*i.size=0):=by
  intro h;rcases aJk.1 h with h|h<;>omega
 have a63:¬(0+n.toNat≤0):=by omega
 have aCb:¬(9223372036854775807<((0+n.toNat:Nat):Int)):=by omega
 have hbn:n.toNat*i.bytes≤2^47:=by
  have:((n.toNat*i.bytes:Nat):Int)=n*i.bytes:=by rw[Int.natCast_mul,Int.toNat_of_nonneg (by omega)]
  omega
 have aCc:¬(281474976710656<aJt n.toNat 0*i.bytes):=by
  have:=growslice_fits (need:=n.toNat) (old:=0) (bytes:=i.bytes) (by omega) (by omega);omega
 have e2:n.toNat≠0:=by omega
 have e3:i.size≠0:=by omega
 have ro:∀w,(lq i.size 0 (.slice none 0 0)).run P w= .ok ([]:List Value).toArray w:=fun w=>run_firstCells_none w i.size 0 0 0;have ai:∀w,(asInt (.int k n)).run P w= .ok n w:=fun _=>rfl
 have e4:(max n 0:Int)=n:=by omega
 have aHh:¬(9223372036854775807<n):=by omega
 have hmx:¬(n≤0):=by omega
 unfold yw;rw[ha0,ha1,h0,h1];simp[run_underlying ht,run_underlying hu,sizeOf,typeInfo,zeroValue,hi,hz,ai,hw,aya,h48,aHi,e2,e3,aCb,aCc,aHh,e4,hmx,Question.forced,ro,newRow,grownCap];exact fun h=>absurd h hn0
theorem al1(h:jf B0 w0 nt G0 s G E a w){t u e ty:TypeId}{i:TypeInfo}{z:Value}{ik:IntKind}{zd:List D}(ht:P.underlying t=some (.slice e))(hu:P.underlying u=some (.int ik))(hi:P.info? e=some i)(hz:i.zero=some z)
  (hzd:Fw P e=some zd)(hzl:zd.length=i.size)(C9:0<i.size)(hbp:0<i.bytes){args:Array Value}{Ew:Array TypeId}{x y:nk}{vx vy:Value}(ha0:args[0]? =some vx)(ha1:args[1]? =some vy)(h0:Ew[0]? =some t)(h1:Ew[1]? =some u)
  (hx:iw G E s (x.ev s) vx)(hy:iw G E s (y.ev s) vy){d:Nat}{dst:Option Nat}{ids:List Nat}{ef:mc}(he:(jy.a3o i.size i.bytes zd x y).p9 d s=some (ids,ef)):
  sj P B0 nt w0 G0 a w dst (((yw Ew ty args).run P w).andThen fun v w=> .ok (.value v) w) (ef.app dst (s.uu ids)):=by
 simp only[jy.p9]at he;split at he
 ·rename_i k n hxe hye;rw[hxe]at hx;rw[hye]at hy;cases hx;cases hy;split at he
  ·rename_i hc;obtain⟨hn,hb⟩:=hc;simp only[ak,cd]at he;obtain⟨rfl,rfl⟩:=he;rw[ado (ty:=ty) ht hu hi hz ha0 ha1 h0 h1 hn C9 hb hbp];obtain⟨zv,hzv,_,hzc⟩:=Fv (P:=P) hzd h
   have hzz:zv=z:=by
    rw[hi]at hzv;simpa[hz]using hzv.symm
   subst hzz
   have Iu:zv.cells.size=i.size:=by have:=hzc.1;simp at this;omega
   have Ua:Holds G E s (lj zv.cells n.toNat++lj zv.cells (grownCap w n.toNat 0 e-n.toNat)) (.arr i.size (jb n.toNat zd)):=by
    refine⟨by simp[size_zeroCells,Iu,jn],fun q r hq=>?_,fun q r j x u hq hj hu=>?_⟩
    ·rw[R2]at hq;split at hq
     ·injection hq with hq;subst hq;exact hzl
     cases hq
    rw[R2]at hq;split at hq
    ·rename_i hqn
     injection hq with hq;subst hq
     have hj':j<i.size:=by have:=(aw.1 hj).1;omega
     have hlt:=a0c hqn hj';rw[Hi,bd (by rw[size_zeroCells,Iu];exact hlt)]at hu;unfold lj at hu;rw[Iu]at hu;simp only[Xu,avq,hlt,cz,ir,ak]at hu
     have em:(q*i.size+j)%i.size=j:=by rw[aKp,Nat.mul_add_mod];exact aaw hj'
     rw[em]at hu;refine hzc.2 j (.d x) u (by rw[cy,hj];rfl) ?_;rw[←hu,getElem!_pos _ _ (by rw[Iu];exact hj')];exact bh _
    cases hq
   have hf:=h.drew.new d (.arr i.size (jb n.toNat zd)) _ e Ua;have hge:=grownCap_ge w n.toNat 0 e;refine⟨_,_,_,G,_,_,.ref d (s.av d+1) n.toNat,rfl,.inl rfl,hf,?_,rfl⟩;have:=Be (G':=G) (s':={s with dc:=l7 s.dc d (some (.arr i.size (jb n.toNat zd))),av:=l7 s.av d (s.av d+1)})
    (E':={E with b:=l7 E.b d w.drew.heap.size,n:=l7 E.n d (lj zv.cells n.toNat++lj zv.cells (grownCap w n.toNat 0 e-n.toNat)).size}) (id:=d) (sz:=i.size) (n:=n.toNat) (len:=n.toNat) (cap:=grownCap w n.toNat 0 e) (g:=w.heap.size)
    (cu _ _ _) (by simp[B.De]) (cu _ _ _) (by
     show l7 E.n d _ d=_;rw[cu];simp only[T4,size_zeroCells,Iu];rw[←jn]
     congr 1
     omega) rfl hge
   have hv:l7 s.av d (s.av d+1) d=s.av d+1:=cu _ _ _;simpa[hv]using this
  cases he
 cases he
theorem akr(h:jf B0 w0 nt G0 s G E a w){t e ty:TypeId}{x:nk}{v:Value}{args:Array Value}{Ew:Array TypeId}(ha:args[0]? =some v)(hat:Ew[0]? =some t)(hu:P.underlying t=some (.slice e))
  (hx:iw G E s (x.ev s) v){d:Nat}{ids:List Nat}{ef:mc}(he:(jy.ade x).p9 d s=some (ids,ef)):
  ∃u y,(Builtin.cap_ Ew ty args).run P w= .ok u w∧ids=[]∧ef= .val y∧iw G E s y u:=by
 simp only[jy.p9]at he;split at he
 ·rename_i hxe;rw[hxe]at hx;cases hx;simp only[mc.tj,ak,cd]at he;obtain⟨rfl,rfl⟩:=he;refine⟨.int ab 0,.d (.int ab 0),?_,rfl,rfl,.int⟩;unfold Builtin.cap_;rw[ha,hat];simp[underlying,hu,goInt]
 cases he
theorem al0(h:jf B0 w0 nt G0 s G E a w){t e:TypeId}{len n:Nat}{x:nk}{v:Value}(hu:P.underlying t=some (.array len e))(hn:lg P e=some n)(hx:iw G E s (x.ev s) v)
  {d:Nat}{ids:List Nat}{ef:mc}(he:(jy.adn len n x).p9 d s=some (ids,ef)):
  ∃u y,(zt t v none none none).run P w= .ok u w∧ids=[]∧ef= .val y∧iw G E s y u:=by
 simp only[jy.p9]at he;split at he
 ·rename_i id av hxe;rw[hxe]at hx;split at he
  ·rename_i cs Iu;split at he
   ·simp only[mc.tj,ak,cd]at he;obtain⟨rfl,rfl⟩:=he;obtain⟨e1,e2⟩:=ve Iu;have:=hx.2 e1 ⟨_,e2,rfl⟩;subst this;refine⟨.slice (some ⟨E.b id,0,none⟩) len len,.Kr id av len n,?_,rfl,rfl,hx.1,fun _ _=>rfl⟩
    have hb:(qo false len len none none none).run P w= .ok (0,len,len) w:=by
     unfold qo;simp[cn]
    unfold zt;simp only[cn,underlying,run_program,bm,hu,ep,zu,hb,sn hn,amp,Vk,Ev,Af,ite_self]
   cases he
  cases he
 cases he
theorem akl(h:jf B0 w0 nt G0 s G E a w){t e:TypeId}{n:Nat}{x j k:nk}{vx vj vk:Value}(hu:P.underlying t=some (.slice e))(hn:lg P e=some n)
  (hx:iw G E s (x.ev s) vx)(hj:iw G E s (j.ev s) vj)(hk:iw G E s (k.ev s) vk){d:Nat}{ids:List Nat}{ef:mc}(he:(jy.Hx n x j k).p9 d s=some (ids,ef)):
  ∃u y,(zt t vx none (some vj) (some vk)).run P w= .ok u w∧ids=[]∧ef= .val y∧iw G E s y u:=by
 simp only[jy.p9]at he;split at he
 ·rename_i id av m ka p kb q e1 e2 e3;rw[e1]at hx;rw[e2]at hj;rw[e3]at hk;cases hj;cases hk;split at he
  ·rename_i hc;obtain⟨rfl,h0,hm,hel⟩:=hc;simp only[mc.tj,ak,cd]at he;obtain⟨rfl,rfl⟩:=he;obtain⟨v1,v2⟩:=Gh hel;obtain⟨k1,k2⟩:=hx.2 v1 _ _ v2;obtain⟨cap,c1,c2,rfl⟩:=k2 rfl;refine⟨_,.Hx id av m p.toNat,Ig hu hn h0 (by omega),rfl,rfl,by omega,hx.1,fun e sz m' hd=>?_⟩;rw[v2]at hd;simp only[ak,cd]at hd;obtain⟨rfl,rfl⟩:=hd;refine⟨ay _,fun _=>⟨⟨cap,c1,c2⟩,?_⟩⟩;split
   ·rfl
   simp[Ev]
  cases he
 cases he
theorem as9{lo:Option nk}{vlo:Option Value}(hlo:(lo=none∧vlo=none)∨∃o v,lo=some o∧vlo=some v∧iw G E s (o.ev s) v){io:Option Nat}(hi:Vr s lo=some io):
  (vlo=none∧io=none)∨∃v i,vlo=some v∧io=some i∧∀(y:Nat) (c:BoundsCode) (w:World),i≤y→(Wp v y c).run P w= .ok i w:=by
 rcases hlo with ⟨rfl,rfl⟩|⟨o,v,rfl,rfl,hv⟩
 ·simp only[Vr,ak]at hi;exact .inl ⟨rfl,hi.symm⟩
 simp only[Vr]at hi;split at hi
 ·rename_i k q hq;rw[hq]at hv;cases hv;split at hi
  ·rename_i h0;simp only[ak]at hi;exact .inr ⟨_,_,rfl,hi.symm,fun y c w hy=>Gy h0 (by omega) c w⟩
  cases hi
 cases hi
theorem afg{lo:Option nk}{vlo:Option Value}{n:Nat}(hlo:(lo=none∧vlo=none)∨∃o v,lo=some o∧vlo=some v∧iw G E s (o.ev s) v){j:Nat}(hi:Re s n lo=some j):
  (lo=none∧vlo=none∧j=n)∨∃v,lo≠none∧vlo=some v∧∀(y:Nat) (c:BoundsCode) (w:World),j≤y→(Wp v y c).run P w= .ok j w:=by
 rcases hlo with ⟨rfl,rfl⟩|⟨o,v,rfl,rfl,hv⟩
 ·simp only[Re,ak]at hi;exact .inl ⟨rfl,rfl,hi.symm⟩
 simp only[Re]at hi;split at hi
 ·rename_i k q hq;rw[hq]at hv;cases hv;split at hi
  ·rename_i h0;simp only[ak]at hi;subst hi;exact .inr ⟨_,by simp,rfl,fun y c w hy=>Gy h0 (by omega) c w⟩
  cases hi
 cases hi
theorem ae1{t e:TypeId}{n:Nat}(hu:P.underlying t=some (.slice e))(hn:lg P e=some n){id av m l C cap:Nat}(hv:s.av id=av)(hd:s.De id=some (n,m))(hE:E.n id=C*n)(h1:m≤cap)(h2:cap≤C)(h3:l≤m)(h0:0<m)
  {lo hi mx:Option nk}{vlo vhi vmx:Option Value}(hlo:(lo=none∧vlo=none)∨∃o v,lo=some o∧vlo=some v∧iw G E s (o.ev s) v)(hhi:(hi=none∧vhi=none)∨∃o v,hi=some o∧vhi=some v∧iw G E s (o.ev s) v)
  (hmx:(mx=none∧vmx=none)∨∃o v,mx=some o∧vmx=some v∧iw G E s (o.ev s) v){y:V}(hw:a73 s id av m l lo hi mx=some y):
  ∃u,(zt t (.slice (some ⟨E.b id,0,none⟩) l cap) vlo vhi vmx).run P w= .ok u w∧iw G E s y u:=by
 unfold a73 at hw;split at hw
 ·rename_i io j k q1 q2 q3;split at hw
  ·rename_i hc;obtain⟨c1,c2,rfl,c4⟩:=hc;simp only[ak]at hw;subst hw
   have hb:∃kk,k≤kk∧kk≤cap∧(qo true l cap vlo vhi vmx).run P w= .ok (io.getD 0,j,kk) w:=by
    rcases as9 (P:=P) hlo q1 with ⟨rfl,rfl⟩|⟨v,i,rfl,rfl,hr⟩<;>rcases afg (P:=P) hmx q3 with ⟨rfl,rfl,_⟩|⟨vm,hm0,rfl,hrm⟩<;>rcases afg (P:=P) hhi q2 with ⟨hh0,rfl,hjl⟩|⟨vh,hh0,rfl,hrh⟩
    ·exact⟨cap,h1,ay _,by unfold qo;simp[cn,hjl]⟩
    ·exact⟨cap,h1,ay _,by unfold qo;simp[cn,hrh cap _ w (by omega)]⟩
    ·exact absurd (c4 hh0) hm0
    ·exact⟨k,ay _,h1,by unfold qo;simp[cn,hrm cap _ w h1,hrh k _ w c2]⟩
    ·exact⟨cap,h1,ay _,by unfold qo;simp only[jc]at c1;simp[cn,hr l _ w (by omega),hjl]⟩
    ·exact⟨cap,h1,ay _,by unfold qo;simp only[jc]at c1;simp[cn,hrh cap _ w (by omega),hr j _ w c1]⟩
    ·exact absurd (c4 hh0) hm0
    exact⟨k,ay _,h1,by unfold qo;simp only[jc]at c1;simp[cn,hrm cap _ w h1,hrh k _ w c2,hr j _ w c1]⟩
   obtain⟨kk,hk1,hk2,hb⟩:=hb
   generalize io.getD 0=i at*
   refine⟨.slice (if kk=i then some ⟨E.b id,0,none⟩else some ⟨E.b id,i*n,none⟩) (j-i) (kk-i),?_,⟨by omega,h0⟩,aK6 hv.symm,fun _ sz m' hd'=>?_⟩
   ·unfold zt;simp only[cn,underlying,run_program,bm,hu,ep];unfold aL3;simp only[cn,underlying,run_program,bm,hu,ep,hb,sn hn,ir,Ev,gd]
   rw[hd]at hd';simp only[ak,cd]at hd';obtain⟨rfl,rfl⟩:=hd';refine⟨ay _,fun _=>⟨C,kk-i,if kk=i then 0 else i*n,hE,by omega,by omega,by omega,?_,?_⟩⟩
   ·by_cases hki:kk=i
    ·exact .inl (by omega)
    exact .inr (by rw[al hki])
   by_cases hki:kk=i
   ·rw[bd hki,bd hki]
   rw[al hki,al hki]
  cases hw
 cases hw
theorem ahq(h:jf B0 w0 nt G0 s G E a w){t e:TypeId}{n:Nat}{x:nk}{vx:Value}(hu:P.underlying t=some (.slice e))(hn:lg P e=some n)(hx:iw G E s (x.ev s) vx)
  {lo hi mx:Option nk}{vlo vhi vmx:Option Value}(hlo:(lo=none∧vlo=none)∨∃o v,lo=some o∧vlo=some v∧iw G E s (o.ev s) v)(hhi:(hi=none∧vhi=none)∨∃o v,hi=some o∧vhi=some v∧iw G E s (o.ev s) v)
  (hmx:(mx=none∧vmx=none)∨∃o v,mx=some o∧vmx=some v∧iw G E s (o.ev s) v){d:Nat}{ids:List Nat}{ef:mc}(he:(jy.Nx n x lo hi mx).p9 d s=some (ids,ef)):
  ∃u y,(zt t vx vlo vhi vmx).run P w= .ok u w∧ids=[]∧ef= .val y∧iw G E s y u:=by
 simp only[jy.p9]at he;split at he
 ·rename_i id av m hxe;rw[hxe]at hx;split at he
  ·rename_i hc;simp only[aq,mc.tj,cd]at he;obtain⟨y,hy,rfl,rfl⟩:=he;obtain⟨h0,hel⟩:=hc;obtain⟨v1,v2⟩:=Gh hel;obtain⟨_,k2⟩:=hx.2 v1 _ _ v2;obtain⟨cap,c1,c2,rfl⟩:=k2 rfl;obtain⟨u,hr,hv⟩:=ae1 (P:=P) (w:=w) hu hn v1 v2 c1 c2 (ay _) (ay _) h0 hlo hhi hmx hy;exact⟨u,y,hr,rfl,rfl,hv⟩
  cases he
 ·rename_i id av m o l hxe;rw[hxe]at hx;split at he
  ·rename_i hc;simp only[aq,mc.tj,cd]at he;obtain⟨y,hy,rfl,rfl⟩:=he;obtain⟨rfl,hel⟩:=hc;obtain⟨v1,v2⟩:=Gh hel;obtain⟨⟨n1,n2⟩,_,k1⟩:=hx;obtain⟨_,k2⟩:=k1 v1 _ _ v2;obtain⟨C,cap,off,c1,c2,c3,c4,c5,rfl⟩:=k2 rfl
   have agb:cap≠0:=fun h0=>by rw[h0]at c2;exact aLj.2 c2 (by rw[Af];exact n2)
   have X8:off=0:=by rw[c5.resolve_left agb,amp]
   subst X8;obtain⟨u,hr,hv⟩:=ae1 (P:=P) (w:=w) (cap:=cap) hu hn v1 v2 c1 (by omega) (by omega) (by omega) n2 hlo hhi hmx hy;exact⟨u,y,hr,rfl,rfl,hv⟩
  cases he
 cases he
theorem a4j(h:jf B0 w0 nt G0 s G E a w){x:nk}{vx:Value}(hx:iw G E s (x.ev s) vx){d:Nat}{dst:Option Nat}{ids:List Nat}{ef:mc}(he:(jy.trim x).p9 d s=some (ids,ef)):
  sj P B0 nt w0 G0 a w dst (.ok (.value vx) w) (ef.app dst (s.uu ids)):=by
 simp only[jy.p9]at he;split at he
 ·rename_i id av n o l hxe;rw[hxe]at hx;split at he
  ·rename_i sz dm hle;split at he
   ·rename_i hc;simp only[ak,cd]at he;obtain⟨rfl,rfl⟩:=he;obtain⟨rfl,rfl⟩:=hc;obtain⟨v1,v2⟩:=yj hle;obtain⟨⟨n1,n2⟩,_,k1⟩:=hx;obtain⟨_,k2⟩:=k1 v1 _ _ (xj v2);obtain⟨C,cap,off,c1,c2,c3,c4,c5,rfl⟩:=k2 rfl
    have agb:cap≠0:=fun h0=>by rw[h0]at c2;exact aLj.2 c2 (by rw[Af];exact n2)
    have X8:off=0:=by rw[c5.resolve_left agb,amp]
    subst X8
    have hm0:cap*sz≤E.n id:=by rw[c1];exact fh _ (by omega)
    have hl:(dm.take l).length=l:=by simp;omega
    have hf:=h.az0 (b':= .arr sz (dm.take l)) (j:=l) v2 rfl (by simp[B.De];omega) hm0 (fun _ q=>q.take);refine⟨_,_,w,G,_,_,.ref id (s.av id+1) l,rfl,.inl rfl,hf,?_,rfl⟩;have:=Be (G':=G) (s':={s with dc:=l7 s.dc id (some (.arr sz (dm.take l))),av:=l7 s.av id (s.av id+1)}) (E':={E with n:=l7 E.n id (cap*sz)}) (id:=id) (sz:=sz) (n:=l) (len:=l) (cap:=cap) (g:=E.b id) (cu _ _ _) (by simp[B.De];omega) (by simp[cu]) (by simp[cu]) rfl (by omega);simpa[cu]using this
   cases he
  cases he
 cases he
theorem ahp{zv:Value}{sz n:Nat}{zd:List D}(Iu:zv.cells.size=sz)(hzl:zd.length=sz)(hzc:O8 G E s (zd.map .d) zv.cells):Holds G E s (lj zv.cells n) (.arr sz (jb n zd)):=by
 refine⟨by simp[size_zeroCells,Iu],fun q r hq=>?_,fun q r j x u hq hj hu=>?_⟩
 ·rw[R2]at hq;split at hq
  ·injection hq with hq;subst hq;exact hzl
  cases hq
 rw[R2]at hq;split at hq
 ·rename_i hqn
  injection hq with hq;subst hq
  have hj':j<sz:=by have:=(aw.1 hj).1;omega
  have hlt:=a0c hqn hj';unfold lj at hu;rw[Iu]at hu;simp only[Xu,avq,hlt,cz,ir,ak]at hu
  have em:(q*sz+j)%sz=j:=by rw[aKp,Nat.mul_add_mod];exact aaw hj'
  rw[em]at hu;refine hzc.2 j (.d x) u (by rw[cy,hj];rfl) ?_;rw[←hu,getElem!_pos _ _ (by rw[Iu];exact hj')];exact bh _
 cases hq
theorem an3{zv:Value}{sz n:Nat}{zd:List D}(Iu:zv.cells.size=sz)(hzl:zd.length=sz)(hzc:O8 G E s (zd.map .d) zv.cells)(ho:zd.all D.one=true):∀v∈(lj zv.cells n).toList,v.oneCell'=true:=by
 intro v hv;obtain⟨k,hk,rfl⟩:=gf.1 hv
 have hk':k<n*sz:=by simpa[size_zeroCells,Iu]using hk
 have a2w:0<sz:=by
  rcases a8b sz with h0|h0
  ·rw[h0]at hk';simp at hk'
  exact h0
 have hm:k%sz<sz:=a8a _ a2w
 have e:(lj zv.cells n).toList[k]=zv.cells[k%sz]'(by rw[Iu];exact hm):=by
  simp only[lj,ab8,Array.getElem_map,Array.getElem_range,Iu];exact getElem!_pos _ _ _
 rw[e];have hx:zd[k%sz]? =some (zd[k%sz]'(by omega)):=ax _;have:=hzc.2 (k%sz) (.d (zd[k%sz]'(by omega))) _ (by rw[cy,hx];rfl) (bh (by rw[Iu];exact hm));exact i6.afi this (dj.1 ho _ (df _))
theorem apy(h:jf B0 w0 nt G0 s G E a w){t e ty:TypeId}{i:TypeInfo}{z:Value}{zd:List D}(ht:P.underlying t=some (.slice e))(hi:P.info? e=some i)(hz:i.zero=some z)(hzz:z.cells.size=i.size)
  (hzd:Fw P e=some zd)(hzl:zd.length=i.size){args:Array Value}{Ew:Array TypeId}{x:nk}{vx:Value}(ha0:args[0]? =some vx)(h0:Ew[0]? =some t)(hx:iw G E s (x.ev s) vx)
  {d:Nat}{dst:Option Nat}{ids:List Nat}{ef:mc}(he:(jy.clr zd x).p9 d s=some (ids,ef)):
  sj P B0 nt w0 G0 a w dst (((aD6 Ew ty args).run P w).andThen fun v w=> .ok (.value v) w) (ef.app dst (s.uu ids)):=by
 simp only[jy.p9]at he;split at he
 ·rename_i id av n o l hxe;rw[hxe]at hx;split at he
  ·rename_i sz dm hle;split at he
   ·rename_i hc;simp only[ak,cd]at he;obtain⟨rfl,rfl⟩:=he;obtain⟨rfl,hzs,Bm⟩:=hc
    obtain rfl:sz=i.size:=by omega
    obtain⟨v1,v2⟩:=yj hle;obtain⟨⟨n1,n2⟩,_,k1⟩:=hx;obtain⟨_,k2⟩:=k1 v1 _ _ (xj v2);obtain⟨C,cap,off,c1,c2,c3,c4,c5,rfl⟩:=k2 rfl;obtain⟨zv,hzv,hzr,hzc⟩:=Fv (P:=P) hzd h
    have aGn:zv=z:=by
     rw[hi]at hzv;simpa[hz]using hzv.symm
    subst aGn;obtain⟨cells,et,hh,hn,hcl,hw⟩:=h.yl v2;have aH0:=hcl.1;rcases a8b l with hl0|hl0
    ·subst hl0
     have e1:dm.take o++jb 0 zd++dm.drop (o+0)=dm:=by simp
     have e2:l7 s.dc id (some (.arr i.size dm))=s.dc:=by
      funext k
      by_cases hk:k=id
      ·subst hk;rw[cu,v2]
      rw[gj _ _ _ _ hk]
     have hr:(aD6 Ew ty args).run P w= .ok (.tuple #[]) w:=by
      unfold aD6;rw[ha0,h0];simp[run_underlying ht]
     rw[hr,e1];refine⟨_,.tuple #[],w,G,E,s,.no,rfl,.inl rfl,h,trivial,?_⟩;simp only[mc.app,PS.uu,e2]
    have X8:off=o*i.size:=c5.resolve_left (fun q=>absurd hl0 (by rw[q]at c4;exact aLj.2 c4));subst X8
    have aDx:(lj zv.cells l).toList.length=l*i.size:=by simp[size_zeroCells,hzz]
    have Ox:o*i.size+(lj zv.cells l).toList.length≤cells.size:=by
     rw[aDx,←jn];exact ij (fh _ n1) aH0
    have tn:=run_storeCells_at P (E.b id) (o*i.size) et (lj zv.cells l).toList 0 cells w hh (by simpa using Ox) (an3 hzz hzl hzc Bm);simp only[Af]at tn
    have hr:(aD6 Ew ty args).run P w= .ok (.tuple #[]) (w.setRow (E.b id) (cells.toList.take (o*i.size)++(lj zv.cells l).toList++cells.toList.drop (o*i.size+(lj zv.cells l).toList.length)).toArray):=by
     unfold aD6;rw[ha0,h0];obtain⟨l',rfl⟩:∃l',l=l'+1:=⟨l-1,by omega⟩;simp[run_underlying ht,hzr,tn]
    have hh2:=hcl.aqr (k:=o) (ys:=jb l zd) (news:=(lj zv.cells l).toList) (by simpa using n1) (by rw[aDx];simp) (by simpa using ahp (n:=l) hzz hzl hzc)
    have hlen:(dm.take o++jb l zd++dm.drop (o+(jb l zd).length)).length=dm.length:=by simp;omega
    have hal:Alike (.arr i.size dm) (.arr i.size (dm.take o++jb l zd++dm.drop (o+(jb l zd).length))):=Alike.arr (by omega);have hf:=h.set v2 hal (Ao.setRow hh _) (by simp only[Wo,db,er,yu,qu];simp only[qu]at Ox;omega) hh2;rw[hr];simp only[aJb]at hf;exact⟨_,.tuple #[],_,G,E,_,.no,rfl,.inl rfl,hf,trivial,rfl⟩
   cases he
  cases he
 cases he
end
end Go.PI
namespace Go.PI
open Go Go.RowKit
section
variable{P:Program}{B0 nt:Nat}{w0 w w':World}{G0 G G':gq}{s s':PS}{E E':Env}{a:Act}
theorem az3(G:gq)(w:World)(em:Bool):∀(n:Nat) (t:TypeId) (l:List LK),Bu P n t=some l→∀m,n≤m→∀g,B9 P t=some g→∀(us:Array Value),us.size=l.length→
  (an2 em m t (Fq g us)).run P w= .ok () w:=by
 intro n
 induction n with
 |zero=>intro t l h;cases h
 |succ n ih=>
  intro t l h m hm g hg us C9;obtain⟨m,rfl⟩:∃k,m=k+1:=⟨m-1,by omega⟩
  have single:∀(k:LK) (d:TypeDesc),P.underlying t=some d→k.fits d=true→(an2 em (m+1) t (Fq g us)).run P w= .ok () w:=by
   intro k d hu hd;generalize Fq g us=v;unfold an2;simp only[cn,underlying,run_program,bm,hu,ep];cases d<;>simp[LK.fits]at hd<;>cases v<;>rfl
  have h0:=h;simp only[Bu]at h;split at h
  ·rename_i hu;split at h
   ·injection h with h;exact single .bool _ hu rfl
   cases h
  ·rename_i k hu;split at h
   ·injection h with h;exact single .int _ hu rfl
   cases h
  ·rename_i hu;split at h
   ·injection h with h;exact single .str _ hu rfl
   cases h
  ·rename_i len e hu;split at h
   ·rename_i le hle;split at h
    ·rename_i hs
     injection h with h
     subst h
     have hgt:g=true:=by unfold B9 at hg;rw[hu]at hg;simpa using hg.symm
     subst hgt;obtain⟨g',k1,k2,k3,_⟩:=ayu (G:=G) (w:=w) n e le hle n (ay _)
     have hul:us.size=len*le.length:=by simpa using C9
     simp only[Fq,cz];unfold an2;simp only[cn,underlying,run_program,bm,hu,ep];simp only[Std.Legacy.Range.forIn_eq_forIn_range',Std.Legacy.Range.size,Vk,Nat.add_one_sub_one,Nat.div_one]
     have each:∀i∈al6 0 len,i<len:=by
      intro i hi;simp[List.mem_range']at hi;omega
     generalize al6 0 len=is at each
     induction is with
     |nil=>simp
     |cons j is ih'=>
      have hj:j*le.length+le.length≤us.size:=by
       have:=each j (by simp);rw[hul];have:(j+1)*le.length≤len*le.length:=fh _ this;rw[jn,Bt]at this;exact this
      have p1:=Lg (w:=w) k1 k2 k3 hj;have p2:=ih e le hle m (by omega) g' k2 (us.extract (j*le.length) (j*le.length+le.length)) (by simp;omega);simp only[List.forIn_cons,cn,sn k1,bm,p1,p2,ep];exact ih' (fun y hy=>each y (by simp[hy]))
    cases h
   cases h
  ·rename_i fs hu;split at h
   ·split at h
    ·rename_i lf hlf;split at h
     ·injection h with h
      subst h
      have hgt:g=true:=by unfold B9 at hg;rw[hu]at hg;simpa using hg.symm
      subst hgt;simp only[Fq,cz];unfold an2;simp only[cn,underlying,run_program,bm,hu,ep];rw[←Array.forIn_toList]
      have key:∀(L:List Field) (off:Nat) (l:List LK),Gf P (Bu P n) L off=some l→off+l.length≤us.size→
        ∀f∈L,f.name≠ "_"∧∃g',(part f.type us f.offset).run P w= .ok (Fq g' (us.extract f.offset (f.offset+(P.cellsOf f.type)))) w∧
         ∃lf,Bu P n f.type=some lf∧B9 P f.type=some g'∧(us.extract f.offset (f.offset+(P.cellsOf f.type))).size=lf.length:=by
       intro L
       induction L with
       |nil=>intro off l _ _ f hf;cases hf
       |cons f0 r ihr=>
        intro off l hl hlen f hf;simp only[Gf]at hl;split at hl
        ·rename_i hn;split at hl
         ·rename_i l1 hl1;split at hl
          ·rename_i hs1;split at hl
           ·rename_i mr hmr
            injection hl with hl
            subst hl;simp only[db]at hlen;rcases fb.1 hf with rfl|hf
            ·obtain⟨g',k1,k2,k3,_⟩:=ayu (G:=G) (w:=w) n _ l1 hl1 n (ay _)
             have hc:P.cellsOf f.type=l1.length:=by
              unfold lg at k1;simp only[aq]at k1;obtain⟨i,hi,he⟩:=k1;simp[aFk,hi,he]
             rw[hc,hn.2];exact⟨hn.1,g',Lg k1 k2 k3 (by omega),l1,hl1,k2,by simp;omega⟩
            exact ihr _ _ hmr (by omega) f hf
           cases hl
          cases hl
         cases hl
        cases hl
      have key:=key fs.toList 0 lf hlf (by omega);generalize fs.toList=L at key
      induction L with
      |nil=>simp
      |cons f L ih'=>
       obtain⟨hn,g',p1,l1,hl1,k2,hs1⟩:=key f (by simp);have p2:=ih f.type l1 hl1 m (by omega) g' k2 _ hs1;simp only[List.forIn_cons,cn,hn,ne_eq,not_false_eq_true,cz,bm,p1,p2,ep];exact ih' (fun y hy=>key y (by simp[hy]))
     cases h
    cases h
   cases h
  cases h
def It{α:Type}(kk:KK)(k:D):List (D×α)→Nat→Option (Option Nat)
 |[],_=>some none
 |(a,_)::r,i=>match Ez kk k a with
  |some true=>some (some i)
  |some false=>It kk k r (i+1)
  |none=>none
theorem aaf{α:Type}{kk:KK}{k:D}:∀{ds:List (D×α)} {r:Option α} (i:Nat),Hs kk k ds=some r→(r=none∧It kk k ds i=some none)∨∃j e,It kk k ds i=some (some (i+j))∧ds[j]? =some e∧r=some e.2:=by
 intro ds
 induction ds with
 |nil=>intro r i h;simp only[Hs]at h;split at h<;>cases h;exact .inl ⟨rfl,rfl⟩
 |cons e ds ih=>
  obtain⟨a,b⟩:=e;intro r i h;simp only[Hs]at h;split at h
  ·rename_i hk
   injection h with h
   subst h;exact .inr ⟨0,(a,b),by simp[It,hk],rfl,rfl⟩
  ·rename_i hk;rcases ih (i+1) h with ⟨h1,h2⟩|⟨j,e,h1,h2,h3⟩
   ·exact .inl ⟨h1,by simp[It,hk,h2]⟩
   exact .inr ⟨j+1,e,by simp only[It,hk,h1];congr 2;omega,by simpa using h2,h3⟩
  cases h
theorem atc{α:Type}{kk:KK}{k:D}{v:α}:∀{ds ds':List (D×α)} (i:Nat),Nh kk k v ds=some ds'→(ds'=ds++[(k,v)]∧It kk k ds i=some none)∨
  ∃j e,It kk k ds i=some (some (i+j))∧ds[j]? =some e∧Ez kk k e.1=some true∧ds'=ds.set j (k,v):=by
 intro ds
 induction ds with
 |nil=>intro ds' i h;simp only[Nh]at h;split at h<;>cases h;exact .inl ⟨rfl,rfl⟩
 |cons e ds ih=>
  obtain⟨a,b⟩:=e;intro ds' i h;simp only[Nh]at h;split at h
  ·rename_i hk
   injection h with h
   subst h;exact .inr ⟨0,(a,b),by simp[It,hk],rfl,hk,rfl⟩
  ·rename_i hk;simp only[aq]at h;obtain⟨d1,h,rfl⟩:=h;rcases ih (i+1) h with ⟨h1,h2⟩|⟨j,e,h1,h2,h3,h4⟩
   ·exact .inl ⟨by simp[h1],by simp[It,hk,h2]⟩
   exact .inr ⟨j+1,e,by simp only[It,hk,h1];congr 2;omega,by simpa using h2,h3,by simp[h4]⟩
  cases h
theorem Y6{k:LK}{d:TypeDesc}(hd:k.fits d=true){x y:D}{b:Bool}(he:Ow k x y=some b){u v:Value}(hx:i6 G x u)(hy:i6 G y v):aIw d u v=some b:=by
 unfold Ow at he;split at he
 ·split at he
  ·rename_i h;subst h
   injection he with he
   subst he;cases hx;cases hy;cases d<;>simp[LK.fits]at hd;simp[aIw]
  cases he
 ·injection he with he
  subst he;cases hx;cases hy;cases d<;>simp[LK.fits]at hd;simp[aIw]
 ·injection he with he
  subst he;cases hx;cases hy;cases d<;>simp[LK.fits]at hd;simp[aIw]
 cases he
theorem W8{k:LK}{x y:D}(he:Ow k x y=some true){u v:Value}(hx:i6 G x u)(hy:i6 G y v)(n:Nat):an0 n v u=true:=by
 unfold Ow at he;split at he
 ·split at he
  ·rename_i h;subst h;simp only[ak,beq_iff_eq]at he;subst he;cases hx;cases hy;cases n<;>simp[an0]
  cases he
 ·simp only[ak]at he;have he:=(MapKept.bytes_beq _ _).1 he;subst he;cases hx;cases hy;cases n<;>simp[an0,MapKept.bytes_beq]
 ·simp only[ak,beq_iff_eq]at he;subst he;cases hx;cases hy;cases n<;>simp[an0]
 cases he
theorem abj{n:Nat}:∀{ks:List LK} {xs ys:List D},Bc ks xs ys=some true→∀{us vs:List Value},us.length=xs.length→vs.length=ys.length→
  (∀(i:Nat) (x:D) (u:Value),xs[i]? =some x→us[i]? =some u→i6 G x u)→(∀(i:Nat) (x:D) (u:Value),ys[i]? =some x→vs[i]? =some u→i6 G x u)→
  ((vs.zip us).all fun(x,y)=>an0 n x y)=true:=by
 intro ks
 induction ks with
 |nil=>intro xs ys h us vs h1 h2;cases xs<;>cases ys<;>simp_all [Bc]
 |cons k ks ih=>
  intro xs ys h us vs h1 h2 r1 r2
  cases xs with
  |nil=>simp[Bc]at h
  |cons a xs=>
   cases ys with
   |nil=>simp[Bc]at h
   |cons c ys=>
    simp only[Bc]at h;split at h
    ·rename_i p q e1 e2;simp only[ak,da]at h;obtain⟨rfl,rfl⟩:=h
     match us,vs,h1,h2 with
     |u::us,v::vs,h1,h2=>
      simp only[List.zip_cons_cons,W4,da]
      exact⟨W8 e1 (r1 0 a u rfl rfl) (r2 0 c v rfl rfl) n,
       ih e2 (by simpa using h1) (by simpa using h2) (fun i x u hx hu=>r1 (i+1) x u (by simpa using hx) (by simpa using hu)) (fun i x u hx hu=>r2 (i+1) x u (by simpa using hx) (by simpa using hu))⟩
    cases h
theorem Y7{kk:KK}{x y:D}(he:Ez kk x y=some true){u v:Value}(hx:i6 G x u)(hy:i6 G y v):an0 10000 v u=true:=by
 unfold Ez at he;split at he
 ·exact W8 he hx hy _
 ·cases hx with
  |agg l1 h1=>
   cases hy with
   |agg l2 h2=>
    obtain⟨k1,k2⟩:=Rc he;rename_i us vs;have hall:=abj (n:=9999) he (us:=us.toList) (vs:=vs.toList) (by simpa using l1) (by simpa using l2) (fun i x u hx hu=>h1 i x u hx (by simpa using hu)) (fun i x u hx hu=>h2 i x u hx (by simpa using hu));unfold an0;simp only[da,beq_iff_eq];exact⟨by omega,hall⟩
 cases he
theorem a9o{t:TypeId}{k:LK}(h:R5 P t=some (.one k)):∃d,P.underlying t=some d∧k.fits d=true∧Bu P 8 t=some [k]∧B9 P t=some false:=by
 unfold R5 at h;split at h
 ·rename_i k' h1 h2
  injection h with h
  injection h with h
  subst h;have h3:=h1;simp only[Bu]at h1;split at h1
  ·rename_i hu;split at h1<;>simp at h1;subst h1;exact⟨_,hu,rfl,h3,h2⟩
  ·rename_i hu;split at h1<;>simp at h1;subst h1;exact⟨_,hu,rfl,h3,h2⟩
  ·rename_i hu;split at h1<;>simp at h1;subst h1;exact⟨_,hu,rfl,h3,h2⟩
  ·rename_i hu;unfold B9 at h2;rw[hu]at h2;cases h2
  ·rename_i hu;unfold B9 at h2;rw[hu]at h2;cases h2
  cases h1
 ·cases h
 cases h
theorem a9n{t:TypeId}{ks:List LK}(h:R5 P t=some (.row ks)):∃d,P.underlying t=some d∧(∀u v,aIw d u v=none)∧Bu P 8 t=some ks∧B9 P t=some true:=by
 unfold R5 at h;split at h
 ·cases h
 ·rename_i h1 h3
  injection h with h
  injection h with h
  subst h;unfold B9 at h3;split at h3
  ·rename_i hu;exact⟨_,hu,fun u v=>by cases u<;>cases v<;>rfl,h1,by unfold B9;rw[hu]⟩
  ·rename_i hu;exact⟨_,hu,fun u v=>by cases u<;>cases v<;>rfl,h1,by unfold B9;rw[hu]⟩
  ·cases h3
  cases h3
 cases h
theorem Sf{kk:KK}{x y:D}{b:Bool}(h:Ez kk x y=some b):Pq kk x=true:=by
 unfold Ez at h;split at h
 ·rfl
 ·obtain⟨h1,_⟩:=Rc h;simp[Pq,h1]
 cases h
theorem a5p{α:Type}{kk:KK}{k:D}:∀{ds:List (D×α)} {r:Option α},Hs kk k ds=some r→Pq kk k=true
 |[],_,h=>by simp only[Hs]at h;split at h<;>simp_all
 |(a,b)::ds,r,h=>by
  simp only[Hs]at h;split at h
  ·rename_i hk;exact Sf hk
  ·rename_i hk;exact Sf hk
  cases h
theorem aoe{α:Type}{kk:KK}{k:D}{v:α}:∀{ds r:List (D×α)},Nh kk k v ds=some r→Pq kk k=true
 |[],_,h=>by simp only[Nh]at h;split at h<;>simp_all
 |(a,b)::ds,r,h=>by
  simp only[Nh]at h;split at h
  ·rename_i hk;exact Sf hk
  ·rename_i hk;exact Sf hk
  cases h
theorem a0b{kk:KK}{t:TypeId}(h:R5 P t=some kk){k:D}{v:Value}(hv:i6 G k v)(hf:Pq kk k=true)(em:Bool):
  (an2 em 10000 t v).run P w= .ok () w:=by
 have hk:(∃ks xs,kk= .row ks∧k= .agg xs∧xs.length=ks.length)∨∃l,kk= .one l:=by
  unfold Pq at hf;split at hf
  ·exact .inr ⟨_,rfl⟩
  ·exact .inl ⟨_,_,rfl,rfl,by simpa using hf⟩
  cases hf
 rcases hk with ⟨ks,xs,rfl,rfl,hl⟩|⟨l,rfl⟩
 ·obtain⟨d,hu,_,h1,h2⟩:=a9n h
  cases hv with
  |agg l1 h3=>exact az3 G w em 8 t ks h1 10000 (by omega) true h2 _ (by omega)
 obtain⟨d,hu,hd,_,_⟩:=a9o h;unfold an2;simp only[cn,underlying,run_program,bm,hu,ep];cases d<;>simp[LK.fits]at hd<;>cases v<;>rfl
theorem agp{α:Type}{k:LK}{d:TypeDesc}(hd:k.fits d=true){kd:D}{kv:Value}(hk:i6 G kd kv):∀{ds:List (D×α)} {es:List MapEntry} {i:Nat} {r:Option Nat},It (.one k) kd ds i=some r→es.length=ds.length→
  (∀(j:Nat) (e:D×α) (x:MapEntry),ds[j]? =some e→es[j]? =some x→i6 G e.1 x.key)→
  aIy d kv es i=some (r.map fun j=>(j,((es[j-i]?).map (·.val)).getD undef)):=by
 intro ds
 induction ds with
 |nil=>intro es i r h hl hr;cases es with
  |nil=>simp only[It,ak]at h;subst h;rfl
  |cons _ _=>cases hl
 |cons e ds ih=>
  obtain⟨a,b⟩:=e;intro es i r h hl hr
  cases es with
  |nil=>cases hl
  |cons x es=>
   have h0:=hr 0 (a,b) x rfl rfl;simp only[It]at h;split at h
   ·rename_i hq
    injection h with h
    subst h;simp[aIy,Y6 hd hq hk h0]
   ·rename_i hq;simp only[aIy,Y6 hd hq hk h0];rw[ih h (by simpa using hl) (fun j e x he hx=>hr (j+1) e x (by simpa using he) (by simpa using hx))]
    cases r with
    |none=>rfl
    |some j=>
     have hj:i+1≤j:=by
      clear hl hr ih hq h0
      have:∀(ds:List (D×α)) (i j:Nat),It (.one k) kd ds i=some (some j)→i≤j:=by
       intro ds
       induction ds with
       |nil=>intro i j h;cases h
       |cons e ds ih=>
        intro i j h;simp only[It]at h;split at h
        ·injection h with h;injection h with h;omega
        ·have:=ih _ _ h;omega
        cases h
      exact this _ _ _ h
     obtain⟨m,rfl⟩:∃m,j=i+1+m:=⟨j-(i+1),by omega⟩
     have e1:i+1+m-i=m+1:=by omega
     have e2:i+1+m-(i+1)=m:=by omega
     simp[e1,e2]
   cases h
theorem am2{α:Type}{kk:KK}{kd:D}:∀{ds:List (D×α)} {i j:Nat},It kk kd ds i=some (some j)→i≤j:=by
 intro ds
 induction ds with
 |nil=>intro i j h;cases h
 |cons e ds ih=>
  intro i j h;simp only[It]at h;split at h
  ·injection h with h;injection h with h;omega
  ·have:=ih h;omega
  cases h
theorem a6r{α:Type}{ks:List LK}{t:TypeId}(hd:Bu P 8 t=some ks)(hg:B9 P t=some true){kd:D}{kv:Value}(hk:i6 G kd kv):∀{ds:List (D×α)} {es:List MapEntry} {i:Nat} {r:Option Nat},It (.row ks) kd ds i=some r→es.length=ds.length→
  (∀(j:Nat) (e:D×α) (x:MapEntry),ds[j]? =some e→es[j]? =some x→i6 G e.1 x.key)→
  (aAb t kv es i).run P w= .ok (r.map fun j=>(j,((es[j-i]?).map (·.val)).getD undef)) w:=by
 have eq:∀{a:D} {v:Value} {b:Bool},Ez (.row ks) kd a=some b→i6 G a v→(aJj t kv v).run P w= .ok b w:=by
  intro a v b he ha;obtain⟨g,k1,k2,k3,k4⟩:=ayu (G:=G) (w:=w) 8 t ks hd aL6 (by decide);rw[hg]at k2
  injection k2 with k2
  subst k2;unfold Ez at he;split at he
  ·rename_i hh;cases hh
  ·rename_i hh
   injection hh with hh
   subst hh
   cases hk with
   |agg l1 h1=>
    cases ha with
    |agg l2 h2=>exact k4 _ _ _ _ b ⟨l1,h1⟩ ⟨l2,h2⟩ he
  cases he
 intro ds
 induction ds with
 |nil=>intro es i r h hl hr;cases es with
  |nil=>simp only[It,ak]at h;subst h;simp[aAb]
  |cons _ _=>cases hl
 |cons e ds ih=>
  obtain⟨a,b⟩:=e;intro es i r h hl hr
  cases es with
  |nil=>cases hl
  |cons x es=>
   have h0:=hr 0 (a,b) x rfl rfl;simp only[It]at h;split at h
   ·rename_i hq
    injection h with h
    subst h;simp[aAb,eq hq h0]
   ·rename_i hq;simp only[aAb,cn,eq hq h0,bm,fw,bn];rw[ih h (by simpa using hl) (fun j e x he hx=>hr (j+1) e x (by simpa using he) (by simpa using hx))]
    cases r with
    |none=>rfl
    |some j=>
     have hj:=am2 h;obtain⟨m,rfl⟩:∃m,j=i+1+m:=⟨j-(i+1),by omega⟩
     have e1:i+1+m-i=m+1:=by omega
     have e2:i+1+m-(i+1)=m:=by omega
     simp[e1,e2]
   cases h
theorem Ul{α:Type}{kk:KK}{t:TypeId}(h:R5 P t=some kk){kd:D}{kv:Value}(hk:i6 G kd kv){ds:List (D×α)}{es:List MapEntry}{r:Option Nat}(hi:It kk kd ds 0=some r)(hl:es.length=ds.length)
  (hr:∀(j:Nat) (e:D×α) (x:MapEntry),ds[j]? =some e→es[j]? =some x→i6 G e.1 x.key):
  (Instr.findKey t kv es).run P w= .ok (r.map fun j=>(j,((es[j]?).map (·.val)).getD undef)) w:=by
 unfold Instr.findKey
 cases kk with
 |one k=>
  obtain⟨d,hu,hd,_,_⟩:=a9o h;simp only[cn,underlying,run_program,bm,hu,ep,agp hd hk hi hl hr,Vk]
 |row ks=>
  obtain⟨d,hu,hn,h1,h2⟩:=a9n h;simp only[cn,underlying,run_program,bm,hu,ep]
  cases es with
  |nil=>
   cases ds with
   |nil=>simp only[It,ak]at hi;subst hi;simp[aIy]
   |cons _ _=>cases hl
  |cons x es=>
   simp only[aIy,hn];rw[a6r h1 h2 hk hi hl hr];simp only[Vk]
end
section
variable{P:Program}{B0 nt:Nat}{w0 w w':World}{G0 G G':gq}{s s':PS}{E E':Env}{a:Act}
theorem asw(h:jf B0 w0 nt G0 s G E a w){x:V}{es:List (D×C)}(hx:Cy s x=some es){v:Value}(hv:iw G E s x v):
  ∃ents:Array MapEntry,ents.size=es.length∧(∀(i:Nat) (e:D×C) (x:MapEntry),es[i]? =some e→ents[i]? =some x→i6 G e.1 x.key∧yq G E s e.2 x.val)∧
   ((v= .map none∧ents= #[])∨∃r clock,v= .map (some r)∧w.heap[r]? =some (.map ents clock)):=by
 unfold Cy at hx;split at hx
 ·injection hx with hx
  subst hx;cases hv;exact⟨#[],rfl,fun i e x he _=>by simp at he,.inl ⟨rfl,rfl⟩⟩
 ·injection hx with hx
  subst hx
  cases hv with
  | @map _ r fs h0 hl h1 h2=>
   obtain⟨ents,clock,k1,k2⟩:=h.gok.mv _ _ h0
   have C9:ents.size=fs.length:=by rw[←k2];simp
   refine⟨ents,by simp only[ag];omega,fun i e x he hx=>?_,.inr ⟨r,clock,rfl,k1⟩⟩
   have hf:fs[i]? =some (x.key,x.val):=by rw[←k2];simp[hx]
   simp only[cy,aq]at he;obtain⟨e',he',rfl⟩:=he;exact⟨h1 i e' _ he' hf,h2 i e' _ he' hf⟩
 ·rename_i id av;unfold PS.ents at hx;split at hx
  ·rename_i nh;obtain⟨_,hk⟩:=hv;obtain⟨_,_,ents,clock,k1,k2,k3,_⟩:=h.mp id es hx;exact⟨ents,k2,k3,.inr ⟨_,clock,hk nh (by rw[hx];rfl),k1⟩⟩
  cases hx
 cases hx
def By(w:World)(r:Nat)(o:Obj):World:={w with heap:=w.heap.setIfInBounds r o}
theorem Og{r:Nat}{ents:Array MapEntry}{clock:Nat}(h:w.heap[r]? =some (.map ents clock))(o:Obj):(setObj r o).run P w= .ok () (By w r o):=by
 simp[setObj,Sem.run,h,By]
theorem Ao.By{r:Nat}{o0:Obj}(h:w.heap[r]? =some o0)(o:Obj):Ao w (By w r o) r o:=by
 have hlt:=(iu.1 h).1;exact⟨rfl,rfl,rfl,rfl,by simp[PI.By],fun k hk=>by simp[PI.By,aAd,aLn hk],by simp[PI.By,hlt]⟩
theorem axp{cs:List C}{vs:Array Value}(hl:vs.size=cs.length)(h:∀(i:Nat) (c:C) (u:Value),cs[i]? =some c→vs[i]? =some u→yq G E s c u):iw G E s (mkt cs) (.tuple vs):=by
 unfold mkt
 cases hd:Lo cs with
 |some ds=>
  have e:=Ry hd;subst e;exact i6.Ar (by simpa using hl) fun i x v hx hv=>h i (.d x) v (by simp[hx]) hv
 |none=>exact Kk.2 ⟨_,rfl,hl,h⟩
theorem ayv{x:V}{c:C}{v:Value}(hc:x.ent s=some c)(hv:iw G E s x v):yq G E s c v:=by
 cases x with
 |d y=>simp only[V.ent,ak]at hc;subst hc;exact hv
 |ref i u l=>simp only[V.ent]at hc;split at hc<;>simp at hc;subst hc;exact hv
 |l9 i u=>simp only[V.ent]at hc;split at hc<;>simp at hc;subst hc;exact hv
 |ie i u o=>simp only[V.ent]at hc;split at hc<;>simp at hc;subst hc;exact hv
 |_=>cases hc
theorem a19.push{ents:Array MapEntry}{clock:Nat}(h:a19 ents clock)(k v:Value):a19 (ents.push {key:=k,val:=v,born:=clock}) (clock+1):=by
 obtain⟨h1,h2⟩:=h;refine⟨fun i x hx=>?_,fun i j x y hx hy e=>?_⟩
 ·rw[a2o]at hx;split at hx
  ·injection hx with hx;subst hx;exact Nat.lt_succ_self _
  exact Nat.lt_succ_of_lt (h1 i x hx)
 rw[a2o]at hx hy;split at hx
 ·split at hy
  ·omega
  injection hx with hx;subst hx
  have:=h1 j y hy;simp at e;omega
 split at hy
 ·injection hy with hy;subst hy
  have:=h1 i x hx;simp at e;omega
 exact h2 i j x y hx hy e
theorem a19.modify{ents:Array MapEntry}{clock:Nat}(h:a19 ents clock)(j:Nat){f:MapEntry→MapEntry}(hf:∀e,(f e).born=e.born):a19 (ents.modify j f) clock:=by
 obtain⟨h1,h2⟩:=h
 have get:∀(i:Nat) (x:MapEntry),(ents.modify j f)[i]? =some x→∃y:MapEntry,ents[i]? =some y∧x.born=y.born:=by
  intro i x hx;rw[Di]at hx;split at hx
  ·simp only[aq]at hx;obtain⟨y,hy,rfl⟩:=hx;exact⟨y,hy,hf y⟩
  exact⟨x,hx,rfl⟩
 refine⟨fun i x hx=>?_,fun i k x y hx hy e=>?_⟩
 ·obtain⟨z,hz,e⟩:=get i x hx;rw[e];exact h1 i z hz
 obtain⟨z,hz,e1⟩:=get i x hx;obtain⟨z',hz',e2⟩:=get k y hy;exact h2 i k z z' hz hz' (by omega)
theorem ace(h:jf B0 w0 nt G0 s G E a w){t kt e:TypeId}{z:Value}{zd:D}{kk:KK}(hu:P.underlying t=some (.map kt e))(hz:(P.info? e).bind (·.zero)=some z)(hzd:Xm z=some zd)(hkk:R5 P kt=some kk)
  {x i:nk}{vx vi:Value}{ok:Bool}(hx:iw G E s (x.ev s) vx)(hi:iw G E s (i.ev s) vi){d:Nat}{ids:List Nat}{ef:mc}(he:(jy.lookup kk zd x i ok).p9 d s=some (ids,ef)):
  ∃u y,(aL4 t vx vi ok).run P w= .ok u w∧ids=[]∧ef= .val y∧iw G E s y u:=by
 simp only[jy.p9]at he;split at he
 ·rename_i es k hes hk;rw[hk]at hi;split at he
  ·rename_i r hr;simp only[mc.tj,ak,cd]at he;obtain⟨rfl,rfl⟩:=he;obtain⟨ents,C9,hrel,hv⟩:=asw h hes hx
   have hzr:(zeroValue e).run P w= .ok z w:=by
    cases hif:P.info? e with
    |none=>rw[hif]at hz;cases hz
    |some i=>
     rw[hif]at hz;simp only[Pa]at hz;simp[zeroValue,typeInfo,hif,hz]
   have hzv:i6 G zd z:=h.ev (x:= .const z) (o:= .c zd) (by simp[x8,hzd]);have hch:=a0b (w:=w) hkk hi (a5p hr) ents.isEmpty
   have run:∀idx,It kk k es 0=some idx→(aL4 t vx vi ok).run P w= .ok (match idx with
     |some j=>if ok then .tuple #[((ents.toList[j]?).map (·.val)).getD undef,.bool true]else((ents.toList[j]?).map (·.val)).getD undef
     |none=>if ok then .tuple #[z,.bool false]else z) w:=by
    intro idx acm;have hf:=Ul (P:=P) (w:=w) hkk hi acm (es:=ents.toList) (by simpa using C9) (fun j e x he hx=>(hrel j e x he (by simpa using hx)).1);unfold aL4;rcases hv with ⟨rfl,rfl⟩|⟨r',clock,rfl,aEk⟩
    ·simp only[cn,underlying,run_program,bm,hu,ep,hch,hf];cases idx<;>simp[hzr]
    simp only[cn,underlying,run_program,bm,hu,ep,Ge aEk,hch,hf];cases idx<;>simp[hzr]
   have pair:∀{x:C} {v:Value} (b:Bool),yq G E s x v→iw G E s (if ok then mkt [x,.d (.bool b)]else x.toV) (if ok then .tuple #[v,.bool b]else v):=by
    intro x v b hx
    cases ok with
    |false=>exact hx
    |true=>
     refine axp rfl fun i y u hy hu=>?_
     match i with
     |0=>simp at hy hu;subst hy hu;exact hx
     |1=>simp at hy hu;subst hy hu;exact i6.bool
     |i+2=>simp at hy
   rcases aaf 0 hr with ⟨rfl,h2⟩|⟨j,e',h1,h2,rfl⟩
   ·refine⟨_,_,run _ h2,rfl,rfl,?_⟩;exact pair false hzv
   refine⟨_,_,run _ h1,rfl,rfl,?_⟩
   have hj:j<ents.size:=by have:=(aw.1 h2).1;omega
   have:=(hrel j e' ents[j] h2 (bh hj)).2;simp only[gd]
   have ev:((ents.toList[j]?).map (·.val)).getD undef=ents[j].val:=by simp[hj]
   rw[ev];exact pair true this
  cases he
 cases he
theorem aj4(h:jf B0 w0 nt G0 s G E a w){t kt e:TypeId}{kk:KK}(hu:P.underlying t=some (.map kt e))(hkk:R5 P kt=some kk)
  {x k v:nk}{vx vk vv:Value}(hx:iw G E s (x.ev s) vx)(hk:iw G E s (k.ev s) vk)(hv:iw G E s (v.ev s) vv){d:Nat}{dst:Option Nat}{ids:List Nat}{ef:mc}(he:(jy.X0 kk x k v).p9 d s=some (ids,ef)):
  sj P B0 nt w0 G0 a w dst (((avo t vx vk vv).run P w).andThen fun _ w=> .ok .skip w) (ef.app dst (s.uu ids)):=by
 simp only[jy.p9]at he;split at he
 ·rename_i id av kd vd hxe hke hve;rw[hke]at hk;have hv:=ayv hve hv;split at he
  ·rename_i es hes;simp only[aq,cd]at he;obtain⟨es',X6,rfl,rfl⟩:=he;rw[hxe]at hx;unfold PS.ents at hes;split at hes
   ·rename_i nh;obtain⟨_,hm⟩:=hx;have hvx:=hm nh (by rw[hes];rfl);subst hvx;obtain⟨_,_,ents,clock,k1,k2,k3,k4⟩:=h.mp id es hes;have hch:=a0b (w:=w) hkk hk (aoe X6) false;have find:=fun idx (hi:It kk kd es 0=some idx)=>Ul (P:=P) (w:=w) hkk hk hi (es:=ents.toList) (by simpa using k2) (fun j e x he hx=>(k3 j e x he (by simpa using hx)).1)
    have fin:∀(aao:Array MapEntry) (ada:Nat),(avo t (.map (some (E.m id))) vk vv).run P w= .ok () (By w (E.m id) (.map aao ada))→aao.size=es'.length→
      (∀(i:Nat) (e:D×C) (x:MapEntry),es'[i]? =some e→aao[i]? =some x→i6 G e.1 x.key∧yq G E s e.2 x.val)→a19 aao ada→
      sj P B0 nt w0 G0 a w dst (((avo t (.map (some (E.m id))) vk vv).run P w).andThen fun _ w=> .ok .skip w) (mc.app dst (s.uu []) (.Zu id es')):=by
     intro aao ada K3 hl hr hbo;rw[K3];exact⟨.skip,undef,_,G,E,_,.no,rfl,.inr ⟨rfl,rfl⟩,h.Zu hes (Ao.By k1 _) hl hr hbo,trivial,rfl⟩
    rcases atc 0 X6 with ⟨rfl,h2⟩|⟨j,e',h1,h2,h3,rfl⟩
    ·refine fin (ents.push {key:=vk,val:=vv,born:=clock}) (clock+1) ?_ (by simp[k2]) (fun i e x he hx=>?_) (k4.push _ _)
     ·unfold avo;simp only[cn,underlying,run_program,bm,hu,ep,Ge k1,hch,find _ h2,avk,Og k1]
     by_cases hi:i<es.length
     ·rw[mj hi]at he;rw[a2o,al (by omega)]at hx;exact k3 i e x he hx
     rw[ly (by omega)]at he
     have hi0:i-es.length=0:=by have:=(aw.1 he).1;simp at this;omega
     rw[hi0]at he;simp only[dv,ak]at he;subst he;rw[a2o,bd (by omega)]at hx
     injection hx with hx
     subst hx;exact⟨hk,hv⟩
    have hj:j<ents.size:=by have:=(aw.1 h2).1;omega
    refine fin (ents.modify j fun e=>{e with key:=vk,val:=vv}) clock ?_ (by simp[k2]) (fun i e x he hx=>?_) (k4.modify j fun _=>rfl)
    ·unfold avo;have hs:=Y7 h3 hk (k3 j e' ents[j] h2 (bh hj)).1
     have tn:(an1 (((ents[j]?).map (·.key)).getD vk) vk).run P w= .ok vk w:=by
      unfold an1;simp only[bh hj,ir,jc,hs,cz,ep]
     simp only[cn,underlying,run_program,bm,hu,ep,Ge k1,hch,find _ h1,ir,gd,tn,Og k1]
    rw[so]at he;rw[Di]at hx;by_cases J3:j=i
    ·subst J3;rw[bd rfl,bd (by omega)]at he;simp only[cz,aq,ak]at he hx;obtain⟨y,_,rfl⟩:=hx;subst he;exact⟨hk,hv⟩
    rw[al J3]at he;rw[al J3]at hx;exact k3 i e x he hx
   cases hes
  cases he
 cases he
theorem afr(h:jf B0 w0 nt G0 s G E a w){t:TypeId}{d:Nat}{dst:Option Nat}{ids:List Nat}{ef:mc}(he:jy.Hq.p9 d s=some (ids,ef)):
  sj P B0 nt w0 G0 a w dst (((Instr.makeMap t none).run P w).andThen fun v w=> .ok (.value v) w) (ef.app dst (s.uu ids)):=by
 simp only[jy.p9,ak,cd]at he;obtain⟨rfl,rfl⟩:=he;have run:(Instr.makeMap t none).run P w= .ok (.map (some w.heap.size)) (w.alloc (.map #[] 0)):=rfl;rw[run];refine⟨_,_,_,G,_,_,.l9 d (s.av d+1),rfl,.inl rfl,h.a2s d,?_,rfl⟩;refine⟨by simp[cu,PS.uu],fun _ _=>by simp[cu]⟩
end
section
variable{P:Program}{B0 nt:Nat}{w0 w w':World}{G0 G G':gq}{s s':PS}{E E':Env}{a:Act}
theorem Rj(S:Sem Value):(do pure (amo (←S)):Sem Next).run P w=(S.run P w).andThen fun v w=> .ok (.value v) w:=by
 simp only[cn,ep]
theorem afv(S:Sem Unit):(do S;pure Next.skip:Sem Next).run P w=(S.run P w).andThen fun _ w=> .ok .skip w:=by
 simp only[cn,ep]
theorem sj.lift(h:jf B0 w0 nt G0 s G E a w){S:Sem Value}{u:Value}{y:V}{dst:Option Nat}(hr:S.run P w= .ok u w)(hv:iw G E s y u):
  sj P B0 nt w0 G0 a w dst ((do pure (amo (←S)):Sem Next).run P w) (mc.app dst (s.uu []) (.val y)):=by
 rw[Rj,hr];exact sj.val h rfl hv
theorem tf{v:V}{ids:List Nat}{e:mc}(h:some (mc.tj v)=some (ids,e)):ids=[]∧e= .val v:=by
 simp only[mc.tj,ak,cd]at h;exact⟨h.1.symm,h.2.symm⟩
theorem Bf{α:Type}{x:Option α}{f:α→V}{ids:List Nat}{e:mc}(h:x.map (fun v=>mc.tj (f v))=some (ids,e)):∃v,x=some v∧ids=[]∧e= .val (f v):=by
 simp only[aq]at h;obtain⟨v,h1,h2⟩:=h;obtain⟨h3,h4⟩:=tf (congrArg some h2);exact⟨v,h1,h3,h4⟩
theorem aue(h:jf B0 w0 nt G0 s G E a w){t:TypeId}{n:Nat}{x:nk}{v:Value}(hv:iw G E s (x.ev s) v){d:Nat}{dst:Option Nat}{ids:List Nat}{ef:mc}(he:(jy.box n x).p9 d s=some (ids,ef)):
  sj P B0 nt w0 G0 a w dst ((do pure (amo (←Instr.box t v)):Sem Next).run P w) (ef.app dst (s.uu ids)):=by
 simp only[jy.p9]at he;split at he
 ·rename_i cs Iu;split at he
  ·simp only[ak,cd]at he;obtain⟨rfl,rfl⟩:=he;obtain⟨k1,k2⟩:=Rv Iu hv;have hf:=h.new d (.loc cs) v.cells t ⟨k1.symm,k2⟩;refine⟨_,_,_,G,_,_,.ie d (s.av d+1) 0,rfl,.inl rfl,hf,?_,rfl⟩;exact⟨by simp[cu,PS.uu],fun _ _=>by simp[cu]⟩
  cases he
 cases he
theorem akb(h:jf B0 w0 nt G0 s G E a w){t:TypeId}{z:List D}(hz:Fw P t=some z){d:Nat}{dst:Option Nat}{ids:List Nat}{ef:mc}(he:(jy.alloc z).p9 d s=some (ids,ef)):
  sj P B0 nt w0 G0 a w dst ((do pure (amo (←aKz t true (.tuple #[]))):Sem Next).run P w) (ef.app dst (s.uu ids)):=by
 simp only[jy.p9,ak,cd]at he;obtain⟨rfl,rfl⟩:=he;obtain⟨zv,_,hzr,hzc⟩:=Fv hz h;have hf:=h.new d (.loc (z.map .d)) zv.cells t ⟨hzc.1.symm,hzc.2⟩
 have run:(aKz t true (.tuple #[])).run P w= .ok (.pointer (some ⟨w.heap.size,0,none⟩)) (w.alloc (.cells zv.cells t)):=by
  unfold aKz;simp only[cn,hzr,bm];rfl
 rw[Rj,run];refine⟨_,_,_,G,_,_,.ie d (s.av d+1) 0,rfl,.inl rfl,hf,?_,rfl⟩;exact⟨by simp[cu,PS.uu],fun _ _=>by simp[cu]⟩
theorem ah1(h:jf B0 w0 nt G0 s G E a w){t:TypeId}{z:List D}(hz:Fw P t=some z){d:Nat}{dst:Option Nat}{ids:List Nat}{ef:mc}(he:(jy.A9 z.length).p9 d s=some (ids,ef)):
  sj P B0 nt w0 G0 a w dst ((do pure (amo (←aKz t true (.tuple #[]))):Sem Next).run P w) (ef.app dst (s.uu ids)):=by
 simp only[jy.p9,ak,cd]at he;obtain⟨rfl,rfl⟩:=he;obtain⟨zv,_,hzr,hzc⟩:=Fv hz h;have hf:=h.new d (.Sd z.length) zv.cells t (by have:=hzc.1;simp at this;exact this.symm)
 have run:(aKz t true (.tuple #[])).run P w= .ok (.pointer (some ⟨w.heap.size,0,none⟩)) (w.alloc (.cells zv.cells t)):=by
  unfold aKz;simp only[cn,hzr,bm];rfl
 rw[Rj,run];refine⟨_,_,_,G,_,_,.ie d (s.av d+1) 0,rfl,.inl rfl,hf,?_,rfl⟩;exact⟨by simp[cu,PS.uu],fun _ _=>by simp[cu]⟩
theorem aka(h:jf B0 w0 nt G0 s G E a w){f:Nat}{first j2:Array Operand}{os:List nk}(hf:first.size=0)(hc:J7 j2.toList=some os){d:Nat}{dst:Option Nat}{ids:List Nat}{ef:mc}(he:(jy.Mh f os).p9 d s=some (ids,ef)):
  sj P B0 nt w0 G0 a w dst ((do pure (amo (←aKf (.func f) (first.map a.eval) (j2.map a.eval))):Sem Next).run P w) (ef.app dst (s.uu ids)):=by
 have e0:first.map a.eval= #[]:=by
  have:first= #[]:=by simpa using hf
  subst this;simp
 rw[e0];obtain⟨j2⟩:=j2;simp only at hc
 have key:∀(vs:List Value) (y:V),j2.map a.eval=vs→ids=[]→ef= .val y→iw G E s y (.func (.func f) #[] vs.toArray)→sj P B0 nt w0 G0 a w dst ((do pure (amo (←aKf (.func f) #[] (j2.toArray.map a.eval))):Sem Next).run P w) (ef.app dst (s.uu ids)):=by
  intro vs y e1 e2 e3 hv;subst e2 e3;exact sj.lift h (u:= .func (.func f) #[] vs.toArray) (by simp[aKf,←e1]) hv
 have ptr:∀{x:Operand} {t id av:Nat},x8 x=some (.t t)→s.tmp t= .ie id av 0→iw G E s (.ie id av 0) (a.eval x):=by
  intro x t id av h1 h2;have:=h.ev h1;simp only[nk.ev,h2]at this;exact this
 simp only[jy.p9]at he;split at he
 ·rename_i x0 t0
  match j2,hc with
  |[c0],hc=>
   simp only[J7]at hc;split at hc
   ·rename_i a0 l0 h0 h1;simp only[J7,ak]at h1;subst h1;simp only[ak,ab2,and_true]at hc;subst hc;split at he
    ·rename_i id av ht;obtain⟨e1,e2⟩:=tf he;refine key [a.eval c0] _ rfl e1 e2 ?_;obtain⟨p1,p2⟩:=ptr h0 ht;refine⟨fun p hp=>?_,fun hall=>?_⟩
     ·simp at hp;subst hp;exact p1
     have:=p2 (hall (id,av) (by simp)).1 (hall (id,av) (by simp)).2;simp[this]
    ·rename_i x ht;obtain⟨e1,e2⟩:=tf he;refine key [a.eval c0] _ rfl e1 e2 ?_;have:=h.ev h0;simp only[nk.ev,ht]at this;refine i6.oq rfl fun i y u hy hu=>?_
     match i with
     |0=>simp at hy hu;subst hy hu;exact this
     |i+1=>simp at hy
    cases he
   cases hc
  |[],hc=>simp[J7]at hc
  |c0::c1::r,hc=>
   simp only[J7]at hc;split at hc
   ·rename_i a0 l0 h0 h1;simp only[ak,ab2]at hc;obtain⟨_,rfl⟩:=hc;split at h1<;>cases h1
   cases hc
 ·rename_i x0 t0 t1
  match j2,hc with
  |[c0,c1],hc=>
   simp only[J7]at hc;split at hc
   ·rename_i a0 l0 h0 h1;split at h1
    ·rename_i a1 l1 h2 h3;simp only[ak]at h1 h3;subst h3 h1;simp only[ak,ab2,and_true]at hc;obtain⟨rfl,rfl⟩:=hc;split at he
     ·rename_i id av id' a8e ht ht';obtain⟨e1,e2⟩:=tf he;refine key [a.eval c0,a.eval c1] _ rfl e1 e2 ?_;obtain⟨p1,p2⟩:=ptr h0 ht;obtain⟨p3,p4⟩:=ptr h2 ht';refine⟨fun p hp=>?_,fun hall=>?_⟩
      ·simp at hp;rcases hp with rfl|rfl
       ·exact p1
       exact p3
      have q1:=p2 (hall (id,av) (by simp)).1 (hall (id,av) (by simp)).2;have q2:=p4 (hall (id',a8e) (by simp)).1 (hall (id',a8e) (by simp)).2;simp[q1,q2]
     ·rename_i x y ht ht';obtain⟨e1,e2⟩:=tf he;refine key [a.eval c0,a.eval c1] _ rfl e1 e2 ?_;have q1:=h.ev h0;simp only[nk.ev,ht]at q1;have q2:=h.ev h2;simp only[nk.ev,ht']at q2;refine i6.oq rfl fun i y u hy hu=>?_
      match i with
      |0=>simp at hy hu;subst hy hu;exact q1
      |1=>simp at hy hu;subst hy hu;exact q2
      |i+2=>simp at hy
     cases he
    cases h1
   cases hc
  |[],hc=>simp[J7]at hc
  |[c0],hc=>
   simp only[J7]at hc;split at hc
   ·rename_i a0 l0 h0 h1;simp only[ak]at h1;subst h1;simp at hc
   cases hc
  |c0::c1::c2::r,hc=>
   simp only[J7]at hc;split at hc
   ·rename_i a0 l0 h0 h1;simp only[ak,ab2]at hc;obtain⟨_,rfl⟩:=hc;split at h1
    ·rename_i h3;simp only[ak,ab2]at h1;obtain⟨_,rfl⟩:=h1;split at h3<;>cases h3
    cases h1
   cases hc
 ·match j2,hc with
  |[],hc=>
   obtain⟨e1,e2⟩:=tf he;exact key [] _ rfl e1 e2 (i6.oq rfl (by simp))
  |c0::r,hc=>
   simp only[J7]at hc;split at hc<;>cases hc
 cases he
end
section
variable{P:Program}{B0 nt:Nat}{w0 w w':World}{G0 G G':gq}{s s':PS}{E E':Env}{a:Act}
theorem aan{op:BinOp}(hop:op= .eql∨op= .neq){t:TypeId}{ks:List LK}(hl:Bu P 8 t=some ks)(hg:B9 P t=some true)(hq:P.eqGuardType P.depth t=false){xs ys:List D}{b:Bool}(he:Bc ks xs ys=some b)
  {u v:Value}(hx:i6 G (.agg xs) u)(hy:i6 G (.agg ys) v)(ox oy:Operand):
  (do eqGuard op t ox oy u v;binOp op t u v:Sem Value).run P w= .ok (.bool (if decide (op= .neq)then !b else b)) w:=by
 obtain⟨g,k1,k2,k3,k4⟩:=ayu (G:=G) (w:=w) 8 t ks hl aL6 (by decide);rw[hg]at k2
 injection k2 with k2
 subst k2
 cases hx with
 |agg l1 h1=>
  cases hy with
  |agg l2 h2=>
   rename_i us vs;have hr:=k4 us vs xs ys b ⟨l1,h1⟩ ⟨l2,h2⟩ he;simp only[Fq,cz]at hr
   have hgd:(eqGuard op t ox oy (.agg us) (.agg vs)).run P w= .ok () w:=by
    unfold eqGuard;rcases hop with rfl|rfl<;>simp[hq]
   rcases hop with rfl|rfl
   ·simp only[cn,hgd,bm,binOp,aJj,hr];simp
   simp only[cn,hgd,bm,binOp,aJj,hr];simp
theorem akw:∀{l:List Operand} {os:List nk},J7 l=some os→os.length=l.length∧∀(i:Nat) (x:Operand) (o:nk),l[i]? =some x→os[i]? =some o→x8 x=some o:=by
 intro l
 induction l with
 |nil=>intro os h;simp only[J7,ak]at h;subst h;exact⟨rfl,by simp⟩
 |cons x r ih=>
  intro os h;simp only[J7]at h;split at h
  ·rename_i o l' h1 h2
   injection h with h
   subst h;obtain⟨k1,k2⟩:=ih h2;refine⟨by simp[k1],fun i y o' hy ho=>?_⟩
   cases i with
   |zero=>simp at hy ho;subst hy ho;exact h1
   |succ i=>simp at hy ho;exact k2 i y o' hy ho
  cases h
theorem aje{x:V}{v:Value}(hb:isNil s .fn x=some false)(hv:iw G E s x v):∃f p q,v= .func (.func f) p q:=by
 cases x with
 |d z=>cases z with
  |oq f j2=>cases hv;exact⟨_,_,_,rfl⟩
  |_=>simp[isNil]at hb
 |oq f ids=>
  simp only[isNil]at hb;split at hb
  ·rename_i hl;simp only[V.live,dj]at hl;obtain⟨_,k⟩:=hv;refine⟨_,_,_,k fun p hp=>?_⟩;obtain⟨cs,Iu⟩:=ke.1 (hl p hp);obtain⟨e1,e2⟩:=ve Iu;exact⟨e1,_,e2,rfl⟩
  cases hb
 |_=>simp[isNil]at hb
theorem ad1:∀{ps:List (Nat×Nat×List C)} {cs out:List C},Mo cs ps=some out→out.length=cs.length:=by
 intro ps
 induction ps with
 |nil=>intro cs out h;simp only[Mo,ak]at h;subst h;rfl
 |cons p ps ih=>
  intro cs out h;obtain⟨o,n,xs⟩:=p;simp only[Mo]at h;split at h
  ·rename_i hc;rw[ih h,r8 _ _ _ (by omega)]
  cases h
theorem akn(h:jf B0 w0 nt G0 s G E a w){t e:TypeId}{n sz:Nat}{z:List D}{ps:Array (Nat×Operand)}{qs:List (Nat×Nat×nk)}(hu:P.underlying t=some (.slice e))(C9:lg P e=some sz)(hz:Fw P e=some z)
  (hn:n*sz≤2^20)(hzl:z.length=sz)(h0:0<sz)(hq:Qy sz ps.toList=some qs){d:Nat}{dst:Option Nat}{ids:List Nat}{ef:mc}(he:(jy.a0x n sz z qs).p9 d s=some (ids,ef)):
  sj P B0 nt w0 G0 a w dst (((ab5 t n (ps.map fun(p:Nat×Operand)=>(p.1,a.eval p.2))).run P w).andThen fun v w=> .ok (.value v) w) (ef.app dst (s.uu ids)):=by
 simp only[jy.p9]at he;split at he
 ·rename_i pc hp;split at he
  ·rename_i cs hf;split at he
   ·rename_i Bm;simp only[ak,cd]at he;obtain⟨rfl,rfl⟩:=he;obtain⟨zv,hzv,hzr,hzc⟩:=Fv hz h
    have hzs:zv.cells.size=sz:=by have:=hzc.1;simp at this;omega
    have hzero:O8 G E s (((jb n z).flatten).map .d) ((aLe (n*sz)).map ((if n*sz=0 then(#[]:Array Value)else zv.cells)[· %(if n*sz=0 then(#[]:Array Value)else zv.cells).size]!)):=by
     by_cases hn0:n*sz=0
     ·have hn':n=0:=by
       rcases aJk.1 hn0 with h|h
       ·exact h
       omega
      subst hn';simp[O8]
     rw[al hn0];have:=a9k h hzc (n:=n) (by omega);rw[hzl]at this;exact this
    obtain⟨q1,q2⟩:=Un hq
    obtain⟨r1,r2⟩:=a03 h (get:=fun j _=>some (j*sz,sz)) q1 (fun i p q hp hq=>by
     obtain⟨⟨h1,h2⟩,hc⟩:=q2 i p q hp hq
     exact⟨by simp[h1,←h2],hc⟩) hp
    obtain⟨vs,hv1,hv2⟩:=Z8 (place:=fun j=>some (j*sz,sz)) (ev:=a.eval) r1 (fun i p q hp hq=>by
     obtain⟨k1,k2⟩:=r2 i p q hp hq
     exact⟨by simpa using k1,k2⟩) hf hzero
    have hlen:=ad1 hf;simp only[ag,aJy,List.map_replicate,aIq,hzl]at hlen
    have hdl:cs.length=n*sz:=by simpa using hlen
    obtain⟨c1,c2⟩:=a7l sz n cs hdl
    have hvs:vs.size=n*sz:=by have:=hv2.1;omega
    have hh:Holds G E s vs (.qi sz (chunks sz n cs)):=by
     refine⟨by rw[c1,hvs];exact ay _,fun i e hi=>(c2 i e hi).1,fun i e j x u hi hj hu=>?_⟩;obtain⟨k1,k2⟩:=c2 i e hi
     have hjl:j<sz:=by have:=(aw.1 hj).1;omega
     rw[k2 j hjl]at hj;exact hv2.2 (i*sz+j) x u hj hu
    have run:(ab5 t n (ps.map fun(p:Nat×Operand)=>(p.1,a.eval p.2))).run P w= .ok (.slice (some ⟨w.heap.size,0,none⟩) n n) (w.alloc (.cells vs e)):=by
     unfold ab5;simp only[cn,underlying,run_program,bm,hu,ep,sn C9];rw[al (by omega)]
     have hps:(ps.map fun(p:Nat×Operand)=>(p.1,a.eval p.2)).toList=ps.toList.map fun p=>(p.1,a.eval p.2):=by simp
     by_cases hn0:n*sz=0
     ·rw[bd hn0];simp only[bd hn0]at hv1;simp only[cn,ep,bm,hps,hv1];rfl
     rw[al hn0];simp only[al hn0]at hv1;simp only[cn,hzr,ep,bm,hps,hv1];rfl
    have hf':=h.new d _ vs e hh;rw[run];refine⟨_,_,_,G,_,_,.ref d (s.av d+1) n,rfl,.inl rfl,hf',?_,rfl⟩;have:=Be (G':=G) (s':={s with dc:=l7 s.dc d (some (.qi sz (chunks sz n cs))),av:=l7 s.av d (s.av d+1)})
     (E':={E with b:=l7 E.b d w.heap.size,n:=l7 E.n d vs.size}) (id:=d) (sz:=sz) (n:=(chunks sz n cs).length) (len:=n) (cap:=n) (g:=w.heap.size) (cu _ _ _) rfl (cu _ _ _) (by
      show l7 E.n d _ d=_
      rw[cu,hvs]) c1 (ay _)
    have hv:l7 s.av d (s.av d+1) d=s.av d+1:=cu _ _ _;simpa[hv]using this
   cases he
  cases he
 cases he
theorem Wi(h:jf B0 w0 nt G0 s G E a w){t:TypeId}{id m j id2 off:Nat}{sz:Nat}{b nb:B}{cs:List C}(hs:lg P t=some 1)(hb:s.dc id=some b)(hd:b.De=some (sz,m))(hd':nb.De=some (sz,j))(hj:j≤m)(hiv:nb.isVar=false)
  (hh:∀cells,Holds G E s cells b→Holds G E s cells nb)(hc:s.cs id2 (s.av id2)=some cs)(X8:off+1≤cs.length){v:Value}(hv:iw G E s (.Hx id (s.av id) m j) v){cap:Nat}(agb:E.n id=cap*sz)(hmc:m≤cap):
  ∃w' E',(storeVar t ⟨E.b id2,off,none⟩ v).run P w= .ok () w'∧
   jf B0 w0 nt G0 {s with dc:=l7 (l7 s.dc id (some nb)) id2 (some (.loc (patch cs off [.ref id (s.av id+1) j]))),av:=l7 s.av id (s.av id+1)} G E' a w':=by
 obtain⟨_,e2⟩:=ve hc
 have hne:id2≠id:=by
  intro e;subst e;rw[hb]at e2
  injection e2 with e2
  subst e2;cases hd
 obtain⟨_,_,k⟩:=hv;obtain⟨_,hv'⟩:=k rfl sz m ((xj hb).trans hd);obtain⟨_,hve⟩:=hv' rfl;subst hve;clear hv' k;have h1:=h.az0 (b':=nb) (j:=j) (m:=j*sz) hb hd hd' (by rw[agb];exact fh _ (by omega)) hh
 have e2':l7 s.dc id (some nb) id2=some (.loc cs):=by rw[gj _ _ _ _ hne];exact e2
 obtain⟨cells,et,Ku,hn,hhc,hw⟩:=h1.yl (id:=id2) e2';obtain⟨hl,hcr⟩:=hhc;have Iu:(aL5 (some ⟨E.b id,0,none⟩) j j).cells= #[aL5 (some ⟨E.b id,0,none⟩) j j]:=rfl
 have hpl:off+[C.ref id (s.av id+1) j].length≤cs.length:=by simpa using X8
 have hpv:off+(aL5 (some ⟨E.b id,0,none⟩) j j).cells.toList.length≤cells.toList.length:=by rw[Iu];simp;omega
 have run:=Ny (P:=P) (v:= .slice (some ⟨E.b id,0,none⟩) j j) (o:=off) hs (by rw[Iu];rfl) Ku (by omega) (fun u hu=>by rw[Iu]at hu;simp at hu;subst hu;rfl)
 have O4:=h1.set e2' (b':= .loc (patch cs off [.ref id (s.av id+1) j])) .loc (Ao.setRow Ku (patch cells.toList off (aL5 (some ⟨E.b id,0,none⟩) j j).cells.toList).toArray) (by simp[r8 _ _ _ hpv];exact hn) ⟨by simp[r8 _ _ _ hpl,r8 _ _ _ hpv,hl],fun q c u hq hu=>by
  rw[Dv _ _ _ hpl]at hq;rw[Ab,Dv _ _ _ hpv]at hu;rw[Iu]at hu;simp only[cj,du,gd]at hq hu;split at hq
  ·rename_i hin
   have hq0:q-off=0:=by omega
   rw[bd hin,hq0]at hu;rw[hq0]at hq;simp at hq hu;subst hq hu;have:=Be (G':=G) (s':={s with dc:=l7 s.dc id (some nb),av:=l7 s.av id (s.av id+1)}) (E':={E with n:=l7 E.n id (j*sz)}) (id:=id) (sz:=sz) (n:=j) (len:=j) (cap:=j) (g:=E.b id) (cu _ _ _) hd' rfl (cu _ _ _) rfl (ay _);have hv:l7 s.av id (s.av id+1) id=s.av id+1:=cu _ _ _;simp only[hv]at this;exact this
  rename_i hin;rw[al hin]at hu
  exact hcr q c u hq (by simpa using hu)⟩
 exact⟨_,_,run,O4⟩
theorem a7g(h:jf B0 w0 nt G0 s G E a w){t:TypeId}{n:Nat}{x y:V}{ad v:Value}{ids:List Nat}{ef:mc}{dst:Option Nat}(hs:lg P t=some n)(he:yk s n x y=some (ids,ef))(hx:iw G E s x v)(hy:iw G E s y ad):
  sj P B0 nt w0 G0 a w dst (((aFp t ad v).run P w).andThen fun _ w=> .ok .skip w) (ef.app dst (s.uu ids)):=by
 cases x with
 |Hx id av m j=>
  cases y with
  |ie id2 aAi off=>
   have ptr:∀cs,s.cs id2 aAi=some cs→ad= .pointer (some ⟨E.b id2,off,none⟩)∧s.cs id2 (s.av id2)=some cs:=by
    intro cs hc;obtain⟨e1,e2⟩:=ve hc;exact⟨hy.2 e1 ⟨_,e2,rfl⟩,by rw[e1];exact hc⟩
   have go:∀{w':World} {E':Env} {s2:PS},ad= .pointer (some ⟨E.b id2,off,none⟩)→(storeVar t ⟨E.b id2,off,none⟩ v).run P w= .ok () w'→jf B0 w0 nt G0 s2 G E' a w'→
     sj P B0 nt w0 G0 a w dst (((aFp t ad v).run P w).andThen fun _ w=> .ok .skip w) (s2.put dst .no):=by
    intro w' E' s2 ha hr hf;subst ha;unfold aFp;simp only[cn,zu,bm,hr];exact⟨_,_,_,G,E',_,.no,rfl,.inr ⟨rfl,rfl⟩,hf,trivial,rfl⟩
   have room:∀sz dm,s.De id=some (sz,dm)→s.av id=av→dm=m→∃cap,E.n id=cap*sz∧m≤cap:=fun sz dm hd hv hl=>((hx.2.2 hv sz dm hd).2 hl).1;simp only[yk]at he;split at he
   ·rename_i sz dm cs hb hc;split at he
    ·rename_i hcond;obtain⟨rfl,nh,hlen,X8⟩:=hcond;simp only[ak,cd]at he;obtain⟨rfl,rfl⟩:=he;obtain⟨ha,hc'⟩:=ptr cs hc;subst nh;obtain⟨cap,c1,c2⟩:=room sz dm.length (xj hb) rfl hlen
     obtain⟨w',E',r1,r2⟩:=Wi h hs hb (b:= .arr sz dm) (nb:= .arr sz (dm.take j)) (m:=m) (j:=j) (by simp[B.De,hlen]) (by have:=hx.1;simp[B.De];omega) hx.1 rfl (fun _ q=>q.take) hc' X8 hx c1 c2
     exact go ha r1 r2
    cases he
   ·rename_i sz dm cs hb hc;split at he
    ·rename_i hcond;obtain⟨rfl,nh,hlen,X8⟩:=hcond;simp only[ak,cd]at he;obtain⟨rfl,rfl⟩:=he;obtain⟨ha,hc'⟩:=ptr cs hc;subst nh;obtain⟨cap,c1,c2⟩:=room sz dm.length (xj hb) rfl hlen
     obtain⟨w',E',r1,r2⟩:=Wi h hs hb (b:= .qi sz dm) (nb:= .qi sz (dm.take j)) (m:=m) (j:=j) (by simp[B.De,hlen]) (by have:=hx.1;simp[B.De];omega) hx.1 rfl (fun _ q=>q.aDc) hc' X8 hx c1 c2
     exact go ha r1 r2
    cases he
   cases he
  |_=>cases he
 |_=>cases he
theorem ai2(h:jf B0 w0 nt G0 s G E a w){t:TypeId}{x:Operand}{lo hi mx:Option Operand}{kp cv:Bool}{d:Nat}{r:jy}{dst:Option Nat}(hc:Sw P kp cv t x lo hi mx=some r){ids:List Nat}{ef:mc}(he:r.p9 d s=some (ids,ef)):
  sj P B0 nt w0 G0 a w dst ((do pure (amo (←zt t (a.eval x) (lo.map a.eval) (hi.map a.eval) (mx.map a.eval))):Sem Next).run P w) (ef.app dst (s.uu ids)):=by
 have opt:∀{x:Option Operand} {y:Option nk},a7o x=some y→(y=none∧x.map a.eval=none)∨∃o v,y=some o∧x.map a.eval=some v∧iw G E s (o.ev s) v:=by
  intro x y hxy
  cases x with
  |none=>injection hxy with hxy;exact .inl ⟨hxy.symm,rfl⟩
  |some v=>
   simp only[a7o,aq]at hxy;obtain⟨o,ho,rfl⟩:=hxy;exact .inr ⟨o,_,rfl,rfl,h.ev ho⟩
 unfold Sw at hc;split at hc
 ·rename_i e hu;split at hc
  ·split at hc
   ·rename_i n y lo' D0 mx' hn hy hlo hhi hmx
    injection hc with hc
    subst hc;obtain⟨u,v,hr,rfl,rfl,hv⟩:=ahq h hu hn (h.ev hy) (opt hlo) (opt hhi) (opt hmx) he;exact sj.lift h hr hv
   cases hc
  split at hc
  ·rename_i n y hn hy;split at hc
   ·rename_i j;simp only[aq]at hc;obtain⟨j',hj,rfl⟩:=hc;have:=abc (dst:=dst) h hu hn (h.ev hy) (h.ev hj) he;rw[←Rj]at this;exact this
   split at hc
   ·rename_i lo' D0 hlo hhi
    injection hc with hc
    subst hc;obtain⟨u,v,hr,rfl,rfl,hv⟩:=aeh h hu hn (h.ev hy) (opt hlo) (opt hhi) he;exact sj.lift h hr hv
   cases hc
  ·rename_i n y k hn hy;split at hc
   ·rename_i j k' hk;simp only[aq]at hc;obtain⟨j',hj,rfl⟩:=hc;split at he
    ·obtain⟨u,v,hr,rfl,rfl,hv⟩:=akl h hu hn (h.ev hy) (h.ev hj) (h.ev hk) he;exact sj.lift h hr hv
    have:=abd (dst:=dst) h hu hn (h.ev hy) (h.ev hj) (h.ev hk) he;rw[←Rj]at this;exact this
   cases hc
  cases hc
 ·rename_i ln e hu;split at hc
  ·rename_i n y hn hy
   injection hc with hc
   subst hc;obtain⟨u,v,hr,rfl,rfl,hv⟩:=al0 h hu hn (h.ev hy) he;exact sj.lift h hr hv
  cases hc
 cases hc
theorem au7(h:jf B0 w0 nt G0 s G E a w){o:Oper}{im kp cv:Bool}{cm d:Nat}{r:jy}(hc:cOp P im kp cv cm o.op=some r){ids:List Nat}{ef:mc}(he:r.p9 d s=some (ids,ef)):
  sj P B0 nt w0 G0 a w o.dst ((execOp a.eval o).run P w) (ef.app o.dst (s.uu ids)):=by
 unfold execOp;generalize o.op=op at hc⊢;cases op<;>dsimp only
 case makeInterface t x=>
  simp only[cOp,ak]at hc;subst hc;cases he
 case panic x=>
  simp only[cOp,ak]at hc;subst hc;cases he
 case move x=>
  simp only[cOp]at hc;simp only[aq]at hc;obtain⟨y,hy,rfl⟩:=hc
  cases kp with
  |false=>
   obtain⟨rfl,rfl⟩:=tf he;exact sj.val h rfl (h.ev hy)
  |true=>exact a4j h (h.ev hy) he
 case assign x=>
  simp only[cOp]at hc;simp only[aq]at hc;obtain⟨y,hy,rfl⟩:=hc
  cases kp with
  |false=>
   obtain⟨rfl,rfl⟩:=tf he;exact sj.val h rfl (h.ev hy)
  |true=>exact a4j h (h.ev hy) he
 case pick c x y=>
  simp only[cOp]at hc;split at hc
  ·rename_i c' x' y' h1 h2 h3
   injection hc with hc
   subst hc;have hb:=h.ev h1;simp only[jy.p9]at he;split at he
   ·rename_i hcv;rw[hcv]at hb;obtain⟨rfl,rfl⟩:=tf he;generalize hcc:a.eval c=vc at hb⊢;cases hb;exact sj.val h (by simp[asBool]) (h.ev h2)
   ·rename_i hcv;rw[hcv]at hb;obtain⟨rfl,rfl⟩:=tf he;generalize hcc:a.eval c=vc at hb⊢;cases hb;exact sj.val h (by simp[asBool]) (h.ev h3)
   cases he
  cases hc
 case alloc t=>
  simp only[cOp]at hc;simp only[aq]at hc;obtain⟨z,hz,rfl⟩:=hc;exact akb h hz he
 case box t x=>
  simp only[cOp]at hc;split at hc
  ·rename_i n y h1 h2
   injection hc with hc
   subst hc;exact aue h (h.ev h2) he
  cases hc
 case load t x=>
  simp only[cOp]at hc;split at hc
  ·rename_i n g y h1 h2 h3;split at hc
   ·rename_i hg
    injection hc with hc
    subst hc;simp only[jy.p9]at he;obtain⟨v,hl,rfl,rfl⟩:=Bf (f:=id) he;obtain⟨u,hr,hv⟩:=X3 h h1 h2 hg hl (h.ev h3);exact sj.lift h hr hv
   cases hc
  cases hc
 case store t x y=>
  simp only[cOp]at hc;split at hc
  ·rename_i n x' y' h1 h2 h3
   injection hc with hc
   subst hc;simp only[jy.p9]at he;split at he
   ·rename_i cs Iu;obtain⟨k1,k2⟩:=Rv Iu (h.ev h3)
    obtain⟨w',id,b,hr,heq,hf⟩:=a1e h h1 he (h.ev h2) k1 k2 (fun Bm u hu=>by
     obtain⟨i,hi,hiu⟩:=gf.1 hu
     have D0:i<(a.eval y).cells.size:=by simpa using hi
     have hic:i<cs.length:=by omega
     have k3:=k2 i cs[i] u (ax hic) (by rw[←hiu];simp[D0])
     exact yq.afi k3 (dj.1 Bm _ (df hic)))
    simp only[cd]at heq;obtain⟨rfl,rfl⟩:=heq;rw[afv,hr];exact⟨_,_,_,G,E,_,.no,rfl,.inr ⟨rfl,rfl⟩,hf,trivial,rfl⟩
   rw[afv];exact a7g h h1 he (h.ev h3) (h.ev h2)
  cases hc
 case nilCheck x=>
  simp only[cOp]at hc;simp only[aq]at hc;obtain⟨y,hy,rfl⟩:=hc;have hv:=h.ev hy;simp only[jy.p9]at he;split at he
  ·rename_i hb;obtain⟨rfl,rfl⟩:=tf he;obtain⟨k,_⟩:=a5x hb hv;obtain⟨ad,e1,e2⟩:=k rfl
   cases ad with
   |none=>cases e2
   |some p=>
    rw[e1]at hv⊢;exact sj.val h rfl hv
  ·rename_i hb _;obtain⟨rfl,rfl⟩:=tf he;obtain⟨f,p,q,e1⟩:=aje hb hv;rw[e1]at hv⊢;exact sj.val h rfl hv
  cases he
 case fieldAddr t x i=>
  simp only[cOp]at hc;split at hc
  ·rename_i fs y hu hy;split at hc
   ·rename_i f hf;split at hc
    ·rename_i n hn;split at hc
     ·cases hc
     rename_i h0
     injection hc with hc
     subst hc;simp only[jy.p9]at he;obtain⟨v,hl,rfl,rfl⟩:=Bf (f:=id) he;obtain⟨u,hr,hv⟩:=apj hu hf hn h0 hl (h.ev hy);exact sj.lift h hr hv
    cases hc
   cases hc
  cases hc
 case indexAddr t x i=>
  simp only[cOp]at hc;split at hc
  ·rename_i len e y j hu hy hj;simp only[aq]at hc;obtain⟨n,hn,rfl⟩:=hc;simp only[jy.p9]at he;split at he
   ·rename_i k m hm;have hi:=h.ev hj;rw[hm]at hi;split at he
    ·rename_i hb;obtain⟨v,hl,rfl,rfl⟩:=Bf (f:=id) he;generalize a.eval i=vi at hi⊢;cases hi;obtain⟨u,hr,hv⟩:=ajl hu hn hb.1 hb.2 hl (h.ev hy);exact sj.lift h hr hv
    cases he
   cases he
  ·rename_i e y j hu hy hj;simp only[aq]at hc;obtain⟨n,hn,rfl⟩:=hc;simp only[jy.p9]at he;split at he
   ·rename_i k m hm;have hi:=h.ev hj;rw[hm]at hi;obtain⟨v,hl,rfl,rfl⟩:=Bf (f:=id) he;generalize a.eval i=vi at hi⊢;cases hi;obtain⟨u,hr,hv⟩:=aji h hu hn hl (h.ev hy);exact sj.lift h hr hv
   cases he
  cases hc
 case index t x i=>
  simp only[cOp]at hc;split at hc
  ·rename_i y j hu hy hj
   injection hc with hc
   subst hc;simp only[jy.p9]at he;split at he
   ·rename_i b k m hb hm;have hx:=h.ev hy;have hi:=h.ev hj;rw[hb]at hx;rw[hm]at hi;split at he
    ·rename_i u hu';obtain⟨rfl,rfl⟩:=tf he;generalize a.eval i=vi at hi⊢;generalize a.eval x=vx at hx⊢;cases hi;cases hx;exact sj.lift h (ajk hu hu') i6.int
    cases he
   cases he
  ·rename_i len e y j hu hy hj;split at hc
   ·rename_i n g hn hg;split at hc
    ·rename_i h1
     injection hc with hc
     subst hc;simp only[jy.p9]at he;split at he
     ·rename_i ds k m hd hm;have hx:=h.ev hy;have hi:=h.ev hj;rw[hd]at hx;rw[hm]at hi;split at he
      ·rename_i hb;obtain⟨rfl,rfl⟩:=tf he;generalize a.eval i=vi at hi⊢;generalize a.eval x=vx at hx⊢;cases hi
       cases hx with
       | @agg _ vs hl hr=>
        obtain⟨u,hu',hv⟩:=ajh (P:=P) (w:=w) (G:=G) (E:=E) (s:=s) (cs:=ds.map .d) (vs:=vs) (k:=k) (i:=m) hu hn hg h1 hb.1 hb.2.1 (by simpa using hb.2.2) (by simpa using hl) (fun q c u hq hu=>by
         simp only[cy,aq]at hq;obtain⟨x,hx,rfl⟩:=hq
         exact hr q x u hx hu)
        rw[←aA9,←Lr,←a3y]at hv;exact sj.lift h hu' hv
      cases he
     cases he
    cases hc
   cases hc
  cases hc
 case field t x i=>
  simp only[cOp]at hc;split at hc
  ·rename_i fs y hu hy;split at hc
   ·rename_i f hf;split at hc
    ·rename_i n g hn hg;split at hc
     ·rename_i h1
      injection hc with hc
      subst hc;have hx:=h.ev hy;simp only[jy.p9]at he;split at he
      ·rename_i ds hds;rw[hds]at hx;split at he
       ·rename_i hl;obtain⟨rfl,rfl⟩:=tf he;generalize a.eval x=vx at hx⊢
        cases hx with
        | @agg _ vs C9 hr=>
         obtain⟨u,hru,hv⟩:=a6o (G:=G) (E:=E) (s:=s) (w:=w) (cs:=ds.map .d) hu hf hn hg h1 (by simpa using hl) (by simpa using C9) (fun i c u hc hu=>by
          simp only[cy,aq]at hc;obtain⟨z,hz,rfl⟩:=hc
          exact hr i z u hz hu)
         refine sj.lift h hru ?_;rw[a3y,Lr,aA9];exact hv
       cases he
      ·rename_i cs Iu;rw[Iu]at hx;split at he
       ·rename_i hl;obtain⟨rfl,rfl⟩:=tf he;obtain⟨vs,e1,C9,hr⟩:=F4.1 hx;rw[e1];obtain⟨u,hru,hv⟩:=a6o (G:=G) (E:=E) (s:=s) (w:=w) (cs:=cs) hu hf hn hg h1 hl C9 hr;exact sj.lift h hru hv
       cases he
      cases he
     cases hc
    cases hc
   cases hc
  cases hc
 case binOp op t x y yt=>
  simp only[cOp]at hc;split at hc
  ·rename_i p q hp hq;have hx:=h.ev hp;have hy:=h.ev hq
   have nil:∀(k:TK) (d:TypeDesc),P.underlying t=some d→k.fits d=true→a14 op x y k p q=some r→
     sj P B0 nt w0 G0 a w o.dst ((do pure (amo (←(do eqGuard op t x y (a.eval x) (a.eval y);binOp op t (a.eval x) (a.eval y):Sem Value))):Sem Next).run P w) (ef.app o.dst (s.uu ids)):=by
    intro k d hu hf hcn;obtain⟨z,v,hr,rfl,rfl,hv⟩:=afy hcn hu hf hx hy he;exact sj.lift h hr hv
   have bin:r= .bin op p q→sj P B0 nt w0 G0 a w o.dst ((do pure (amo (←(do eqGuard op t x y (a.eval x) (a.eval y);binOp op t (a.eval x) (a.eval y):Sem Value))):Sem Next).run P w) (ef.app o.dst (s.uu ids)):=by
    intro hr;subst hr;simp only[jy.p9]at he;split at he
    ·rename_i d1 d2 e1 e2;obtain⟨v,hl,rfl,rfl⟩:=Bf he;rw[e1]at hx;rw[e2]at hy;obtain⟨z,hr,hv⟩:=aq6 (P:=P) (w:=w) hl hx hy t x y;exact sj.lift h hr hv
    cases he
   split at hc
   ·injection hc with hc;exact bin hc.symm
   ·injection hc with hc;exact bin hc.symm
   ·rename_i hu;split at hc
    ·rename_i hop
     injection hc with hc
     subst hc;simp only[jy.p9]at he;split at he
     ·rename_i b1 b2 e1 e2;rw[e1]at hx;rw[e2]at hy;obtain⟨rfl,rfl⟩:=tf he;generalize a.eval x=vx at hx⊢;generalize a.eval y=vy at hy⊢;cases hx;cases hy;exact sj.lift h (aq7 hop hu b1 b2 x y) i6.bool
     cases he
    cases hc
   ·rename_i hu;exact nil _ _ hu rfl hc
   ·rename_i hu;exact nil _ _ hu rfl hc
   ·rename_i hu;exact nil _ _ hu rfl hc
   ·rename_i hu;exact nil _ _ hu rfl hc
   ·rename_i hu;split at hc
    ·rename_i ks hks;split at hc
     ·rename_i hcond
      injection hc with hc
      subst hc;simp only[jy.p9]at he;split at he
      ·rename_i xs ys e1 e2;obtain⟨b,hb,rfl,rfl⟩:=Bf he;rw[e1]at hx;rw[e2]at hy;exact sj.lift h (aan hcond.1 hks (by unfold B9;rw[hu]) hcond.2 hb hx hy x y) i6.bool
      cases he
     cases hc
    cases hc
   ·rename_i hu;split at hc
    ·rename_i ks hks;split at hc
     ·rename_i hcond
      injection hc with hc
      subst hc;simp only[jy.p9]at he;split at he
      ·rename_i xs ys e1 e2;obtain⟨b,hb,rfl,rfl⟩:=Bf he;rw[e1]at hx;rw[e2]at hy;exact sj.lift h (aan hcond.1 hks (by unfold B9;rw[hu]) hcond.2 hb hx hy x y) i6.bool
      cases he
     cases hc
    cases hc
   cases hc
  cases hc
 case unOp op t x=>
  simp only[cOp]at hc;simp only[aq]at hc;obtain⟨y,hy,rfl⟩:=hc;obtain⟨z,v,hr,e1,hv⟩:=aql (P:=P) (w:=w) (h.ev hy) he;simp only[mc.tj,cd]at e1;obtain⟨rfl,rfl⟩:=e1;exact sj.lift h hr hv
 case convert t u x=>
  simp only[cOp]at hc;split at hc
  ·rename_i k0 k y h0 h1 hy
   injection hc with hc
   subst hc;simp only[jy.p9]at he;split at he
   ·rename_i k' n hn;have hx:=h.ev hy;rw[hn]at hx;obtain⟨rfl,rfl⟩:=tf he;generalize a.eval x=vx at hx⊢;cases hx;exact sj.lift h (ako h0 h1 n) i6.int
   cases he
  ·rename_i y h0 h1 hy
   injection hc with hc
   subst hc;simp only[jy.p9]at he;split at he
   ·rename_i b hb;have hx:=h.ev hy;rw[hb]at hx;obtain⟨rfl,rfl⟩:=tf he;generalize a.eval x=vx at hx⊢;cases hx;exact sj.lift h (ah7 h0 h1 b) i6.str
   cases he
  cases hc
 case build t ps=>
  simp only[cOp]at hc
  have fin:∀(z:List D) (qs:List (Nat×Nat×nk)),r= .build z qs→(∀pc cs,K0 s qs=some pc→Mo (z.map .d) pc=some cs→∃us,(aKy t (ps.map fun(p:Nat×Operand)=>(p.1,a.eval p.2))).run P w= .ok (.agg us) w∧O8 G E s cs us)→
    sj P B0 nt w0 G0 a w o.dst ((do pure (amo (←aKy t (ps.map fun(p:Nat×Operand)=>(p.1,a.eval p.2)))):Sem Next).run P w) (ef.app o.dst (s.uu ids)):=by
   intro z qs hr hk;subst hr;simp only[jy.p9]at he;split at he
   ·rename_i pc hpc;split at he
    ·rename_i cs Iu;obtain⟨rfl,rfl⟩:=tf he;obtain⟨us,hr,hv⟩:=hk pc cs hpc Iu;exact sj.lift h hr (aly hv)
    cases he
   cases he
  split at hc
  ·rename_i fs z hu hz;split at hc
   ·rename_i hall;simp only[aq]at hc;obtain⟨qs,hq,rfl⟩:=hc;exact fin z qs rfl fun pc cs h1 h2=>adi h hu hz hall hq h1 h2
   cases hc
  ·rename_i len e z hu hz;split at hc
   ·rename_i n hn;simp only[aq]at hc;obtain⟨qs,hq,rfl⟩:=hc;exact fin z qs rfl fun pc cs h1 h2=>adk h hu hz hn hq h1 h2
   cases hc
  cases hc
 case buildSlice t n ps=>
  simp only[cOp]at hc;split at hc
  ·rename_i e hu;split at hc
   ·rename_i sz z h1 h2;split at hc
    ·rename_i hb;simp only[aq]at hc;obtain⟨qs,hq,rfl⟩:=hc;rw[Rj];split at he
     ·exact akn h hu h1 h2 hb.1 hb.2.1 hb.2.2 hq he
     exact aky h hu h1 h2 hb.1 hb.2.1 hb.2.2 hq he
    cases hc
   cases hc
  cases hc
 case slice t x lo hi mx=>
  simp only[cOp]at hc;exact ai2 h hc he
 case makeMap t r'=>
  cases r' with
  |some _=>simp[cOp]at hc
  |none=>
   simp only[cOp]at hc;split at hc
   ·injection hc with hc
    subst hc;rw[Rj];exact afr h he
   cases hc
 case lookup t x i ok=>
  simp only[cOp]at hc;split at hc
  ·rename_i kt e hu;split at hc
   ·rename_i z y j kk hz hy hj hk;simp only[aq]at hc;obtain⟨zd,hzd,rfl⟩:=hc;obtain⟨u,v,hr,rfl,rfl,hv⟩:=ace h hu hz hzd hk (h.ev hy) (h.ev hj) he;exact sj.lift h hr hv
   cases hc
  cases hc
 case mapUpdate t m k v=>
  simp only[cOp]at hc;split at hc
  ·rename_i kt e m' k' v' hu hm hk hv;simp only[aq]at hc;obtain⟨kk,hkk,rfl⟩:=hc;rw[afv];exact aj4 h hu hkk (h.ev hm) (h.ev hk) (h.ev hv) he
  cases hc
 case makeFunc f first j2=>
  cases f with
  |func f=>
   simp only[cOp]at hc;split at hc
   ·rename_i h0;simp only[aq]at hc;obtain⟨os,ho,rfl⟩:=hc;exact aka h h0 ho he
   cases hc
  |_=>simp[cOp]at hc
 case extract x i=>
  simp only[cOp]at hc;simp only[aq]at hc;obtain⟨y,hy,rfl⟩:=hc;simp only[jy.p9]at he;split at he
  ·rename_i vs hvs;have hx:=h.ev hy;rw[hvs]at hx;obtain⟨z,hz,rfl,rfl⟩:=Bf he;obtain⟨u,hr,hv⟩:=a9g (P:=P) (w:=w) hz hx;exact sj.lift h hr hv
  ·rename_i cs Iu;have hx:=h.ev hy;rw[Iu]at hx;obtain⟨z,hz,rfl,rfl⟩:=Bf he;obtain⟨vs,e1,e2,e3⟩:=Kk.1 hx;rw[e1]
   have hlt:i<vs.size:=by have:=(aw.1 hz).1;omega
   refine sj.lift h (u:=vs[i]) ?_ (e3 i z _ hz (bh hlt));unfold aK2;simp[hlt]
  cases he
 case call c=>
  obtain⟨callee,args,Ew⟩:=c
  cases callee with
  |invoke x n=>simp[cOp]at hc
  |value f=>
   cases f with
   |func f=>
    simp only[cOp]at hc
    repeat' split at hc
    all_goals(first|(injection hc with hc;subst hc;cases he;done)|cases hc)
   |tmp t=>
    simp only[cOp]at hc
    repeat' split at hc
    all_goals(first|(injection hc with hc;subst hc;cases he;done)|cases hc)
   |const v=>
    simp only[cOp]at hc
    repeat' split at hc
    all_goals(first|(injection hc with hc;subst hc;cases he;done)|cases hc)
   |global g=>
    simp only[cOp]at hc
    repeat' split at hc
    all_goals(first|(injection hc with hc;subst hc;cases he;done)|cases hc)
  |builtin b=>
   have arg:∀{i:Nat} {x:Operand},args[i]? =some x→(args.map a.eval)[i]? =some (a.eval x):=fun h=>by simp[h]
   have two:∀{x y:Operand},args.toList=[x,y]→(args.map a.eval).toList=[a.eval x,a.eval y]:=fun h=>by simp[h]
   cases b with
   |len=>
    simp only[cOp]at hc;split at hc
    ·rename_i t x ht hx
     have lens:∀(k:TK) (d:TypeDesc) (y:nk),P.underlying t=some d→k.fits d=true→x8 x=some y→r= .len k y→
       sj P B0 nt w0 G0 a w o.dst ((do let d←resolve a.eval ⟨.builtin .len,args,Ew⟩ o.type;invoke d.target d.args:Sem Next).run P w) (ef.app o.dst (s.uu ids)):=by
      intro k d y hu hf hy hr;subst hr;simp only[jy.p9]at he;obtain⟨n,hn,rfl,rfl⟩:=Bf he;have K3:=aoy (P:=P) (w:=w) h (ty:=o.type) (arg hx) ht hu hf hn (h.ev hy);exact sj.lift h K3 i6.int
     split at hc
     ·rename_i n e hu
      injection hc with hc
      subst hc;obtain⟨rfl,rfl⟩:=tf he
      have K3:(aKv Ew o.type (args.map a.eval)).run P w= .ok (.int ab n) w:=by
       unfold aKv;simp only[ht,arg hx,cn,underlying,run_program,bm,hu,ep];rfl
      exact sj.lift h K3 i6.int
     ·rename_i y hu hy;injection hc with hc;exact lens _ _ y hu rfl hy hc.symm
     ·rename_i y hu hy;injection hc with hc;exact lens _ _ y hu rfl hy hc.symm
     ·rename_i y hu hy;injection hc with hc;exact lens _ _ y hu rfl hy hc.symm
     cases hc
    cases hc
   |cap=>
    simp only[cOp]at hc;split at hc
    ·rename_i t x ht hx;split at hc
     ·rename_i e y hu hy
      injection hc with hc
      subst hc;obtain⟨u,v,hr,rfl,rfl,hv⟩:=akr (P:=P) (ty:=o.type) h (arg hx) ht hu (h.ev hy) he;exact sj.lift h hr hv
     cases hc
    cases hc
   |clear=>
    simp only[cOp]at hc;split at hc
    ·rename_i t x ht hx;split at hc
     ·rename_i e y hu hy;split at hc
      ·rename_i i zd hi hzd;split at hc
       ·rename_i hb
        injection hc with hc
        subst hc;obtain⟨hz,hzl⟩:=hb;simp only[aq]at hz;obtain⟨z,hz,hzz⟩:=hz;have:=apy (P:=P) (dst:=o.dst) (ty:=o.type) h hu hi hz hzz hzd hzl (arg hx) ht (h.ev hy) he;rw[←Rj]at this;exact this
       cases hc
      cases hc
     cases hc
    cases hc
   |append=>
    simp only[cOp]at hc;split at hc
    ·rename_i t u x y ht hu hx hy;split at hc
     ·rename_i e ik x' y' h1 h2 h3 h4;split at hc
      ·rename_i i zd hi hzd;split at hc
       ·rename_i hb
        injection hc with hc
        subst hc;obtain⟨z,hz,hzz⟩:=aq.1 hb.1;have:=al1 (dst:=o.dst) (ty:=o.type) h h1 h2 hi hz hzd hb.2.1 hb.2.2.1 hb.2.2.2.1 (arg hx) (arg hy) ht hu (h.ev h3) (h.ev h4) he;rw[←Rj]at this;exact this
       cases hc
      cases hc
     ·rename_i e e' x' y' h1 h2 h3 h4;split at hc
      ·rename_i i hi;split at hc
       ·rename_i hb
        injection hc with hc
        subst hc;obtain⟨z,hz,hzz⟩:=aq.1 hb.1;have:=aq8 (dst:=o.dst) (ty:=o.type) h h1 h2 hi hz hb.2.1 hb.2.2.1 hzz (arg hx) (arg hy) ht hu (h.ev h3) (h.ev h4) he;rw[←Rj]at this;exact this
       cases hc
      cases hc
     cases hc
    cases hc
   |min=>
    simp only[cOp]at hc;split at hc
    ·rename_i x y hxy;split at hc
     ·rename_i x' y' hx hy
      injection hc with hc
      subst hc;simp only[jy.p9]at he;split at he
      ·rename_i k m k' n e1 e2;obtain⟨rfl,rfl⟩:=tf he;have hx:=h.ev hx;have hy:=h.ev hy;rw[e1]at hx;rw[e2]at hy
       have K3:(Builtin.min_ Ew o.type (args.map a.eval)).run P w= .ok (.int k (if n<m then n else m)) w:=by
        unfold Builtin.min_;rw[two hxy];generalize a.eval x=vx at hx⊢;generalize a.eval y=vy at hy⊢;cases hx;cases hy;rfl
       exact sj.lift h K3 i6.int
      cases he
     cases hc
    cases hc
   |max=>
    simp only[cOp]at hc;split at hc
    ·rename_i x y hxy;split at hc
     ·rename_i x' y' hx hy
      injection hc with hc
      subst hc;simp only[jy.p9]at he;split at he
      ·rename_i k m k' n e1 e2;obtain⟨rfl,rfl⟩:=tf he;have hx:=h.ev hx;have hy:=h.ev hy;rw[e1]at hx;rw[e2]at hy
       have K3:(Builtin.max_ Ew o.type (args.map a.eval)).run P w= .ok (.int k (if n>m then n else m)) w:=by
        unfold Builtin.max_;rw[two hxy];generalize a.eval x=vx at hx⊢;generalize a.eval y=vy at hy⊢;cases hx;cases hy;rfl
       exact sj.lift h K3 i6.int
      cases he
     cases hc
    cases hc
   |_=>simp[cOp]at hc
 all_goals(simp[cOp]at hc)
end
section
variable{P:Program}{B0 nt:Nat}{w0 w w':World}{G0 G G':gq}{s s':PS}{E E':Env}{a:Act}
theorem jf.aF7{f:Nat}(h:jf B0 w0 nt G0 s G E a w){args:List V}{vs cvs:Array Value}{j2:List D}{own:Bool}(C9:vs.size=args.length)(hcz:cvs.size=j2.length)
  (hv:∀(i:Nat) (x:V) (v:Value),args[i]? =some x→vs[i]? =some v→iw G E s x v)(hcv:∀(i:Nat) (x:D) (v:Value),j2[i]? =some x→cvs[i]? =some v→i6 (full w) x v)
  (hcg:own=false→∀(i:Nat) (x:D) (v:Value),j2[i]? =some x→cvs[i]? =some v→i6 G x v)
  {ds:List D}{r:D}(hs:Hk s args=some ds)(hf:P7 P s.ctx f (ds++j2) r)(hr:r.flat=true∨(own=false∧args.all V.isD=true)):
  Calls P f (vs++cvs) w fun e w'=>∃v G',e= .returned v∧jf B0 w0 nt G0 s G' E a w'∧iw G' E s (.d r) v:=by
 obtain⟨hl,hk⟩:=anc hs
 have app:∀{H:gq},(∀(i:Nat) (x:D) (v:Value),ds[i]? =some x→vs[i]? =some v→i6 H x v)→(∀(i:Nat) (x:D) (v:Value),j2[i]? =some x→cvs[i]? =some v→i6 H x v)→
   ∀(i:Nat) (x:D) (v:Value),(ds++j2)[i]? =some x→(vs++cvs)[i]? =some v→i6 H x v:=by
  intro H h1 h2 i x v hx hvv;by_cases hi:i<ds.length
  ·rw[mj hi]at hx;rw[ow (by omega)]at hvv;exact h1 i x v hx hvv
  rw[ly (by omega)]at hx;rw[a4h (by omega)]at hvv;rw[C9,←hl]at hvv;exact h2 _ x v hx hvv
 by_cases hall:own=false∧args.all V.isD=true
 ·have hd:∀(i:Nat) (x:D) (v:Value),ds[i]? =some x→vs[i]? =some v→i6 G x v:=by
   intro i x v hx hvv
   have hi:i<args.length:=by have:=(aw.1 hx).1;omega
   have hx':args[i]? =some args[i]:=ax hi;have h1:=hk i _ x hx' hx;have h2:=hv i _ v hx' hvv;have h3:=dj.1 hall.2 args[i] (df hi)
   generalize args[i]=y at*
   cases y with
   |d z=>simp only[snap,ak]at h1;subst h1;exact h2
   |_=>cases h3
  refine(hf.2 G w (vs++cvs) (fun i d v e=>by have:=h.ctx i;rw[e]at this;exact this) (fun i=>(h.tb i).below h.base h.below) h.gok (by simp;omega) (app hd (hcg hall.1))).mono ?_
  rintro e w' ⟨v,G',he,hle,Ps,hok,ajt,hrel⟩;exact⟨v,G',he,h.a7q ajt hle hok Ps.1 Ps.2,hrel⟩
 have atm:r.flat=true:=hr.resolve_right hall
 have hd:∀(i:Nat) (x:D) (v:Value),ds[i]? =some x→vs[i]? =some v→i6 (full w) x v:=by
  intro i x v hx hvv
  have hi:i<args.length:=by have:=(aw.1 hx).1;omega
  have hx':args[i]? =some args[i]:=ax hi;exact h.a4l (hk i _ x hx' hx) (hv i _ v hx' hvv)
 refine(hf.2 (full w) w (vs++cvs) (fun i d v e=>by have:=h.ctx i;rw[e]at this;exact h.a4l (x:= .d d) rfl this) (fun i=>(h.tb i).below h.base h.below) (GOk.ayo w) (by simp;omega) (app hd hcv)).mono ?_
 rintro e w' ⟨v,G',he,hle,Ps,hok,ajt,hrel⟩;refine⟨v,join G G' w.heap.size,he,h.a7q ajt ⟨fun b o v hc=>?_,fun b es hc=>?_⟩ ⟨fun b o v hc=>?_,fun b es hc=>?_⟩ (fun b o hb=>?_) (fun b hb=>?_),i6.flat atm hrel⟩
 ·show(if b<w.heap.size then G.cv b o else G'.cv b o)=_;rw[bd (h.gok.lt hc)];exact hc
 ·show(if b<w.heap.size then G.mv b else G'.mv b)=_;rw[bd (h.gok.ltm hc)];exact hc
 ·change(if b<w.heap.size then G.cv b o else G'.cv b o)=_ at hc;split at hc
  ·rename_i hb;exact(ajt.cell (p:=⟨b,o,none⟩) hb).trans (h.gok.cv b o v hc)
  exact hok.cv b o v hc
 ·change(if b<w.heap.size then G.mv b else G'.mv b)=_ at hc;split at hc
  ·rename_i hb;obtain⟨ents,clock,h1,h2⟩:=h.gok.mv b es hc;exact⟨ents,clock,(ajt.block b hb).trans h1,h2⟩
  exact hok.mv b es hc
 ·show(if b<w.heap.size then G.cv b o else G'.cv b o)=_;rw[bd hb]
 show(if b<w.heap.size then G.mv b else G'.mv b)=_;rw[bd hb]
theorem jf.bump(h:jf B0 w0 nt G0 s G E a w){id g:Nat}{cs:List C}(hb:s.dc id=some (.loc cs))(hv:a.tmps.getD g undef= .pointer (some ⟨E.b id,0,none⟩)):
  jf B0 w0 nt G0 {s with tmp:=l7 s.tmp g (.ie id (s.av id+1) 0),av:=l7 s.av id (s.av id+1)} G E a w:=by
 have hm:Ia E E s {s with tmp:=l7 s.tmp g (.ie id (s.av id+1) 0),av:=l7 s.av id (s.av id+1)}:=by
  refine⟨fun i=>?_,fun i sz Tp hv rp=>⟨Tp,rp,ay _,fun _=>⟨rfl,rfl⟩⟩,fun i b1 hv rp hva=>⟨⟨b1,rp,hva⟩,rfl⟩,fun i hv hp=>⟨hp,rfl⟩⟩;show _≤l7 s.av id (s.av id+1) i;by_cases e:i=id
  ·subst e;rw[cu];omega
  rw[gj _ _ _ _ e];exact ay _
 refine⟨h.size,h.defers,h.base,h.below,h.gok,h.gle,h.J4,fun t=>?_,fun i b hi=>?_,h.inj,fun i es hi=>?_,h.Rg,fun p=>iw.move (gq.la _) hm (h.ctx p),h.tb⟩
 ·by_cases e:t=g
  ·subst e;show iw G E _ (l7 s.tmp t _ t) _;rw[cu];exact⟨by simp[cu],fun _ _=>hv⟩
  show iw G E _ (l7 s.tmp g _ t) _;rw[gj _ _ _ _ e];exact iw.move (gq.la _) hm (h.tmp t)
 ·have k:=h.dc i b hi;exact k.move (gq.la _) hm rfl k.2.1 rfl rfl
 obtain⟨h1,h2,ents,clock,h3,h4,h5,h6⟩:=h.mp i es hi;exact⟨h1,h2,ents,clock,h3,h4,fun i e x hx hy=>⟨(h5 i e x hx hy).1,iw.Dw (gq.la _) hm (h5 i e x hx hy).2⟩,h6⟩
theorem Ao.refl{g:Nat}{o:Obj}(h:w.heap[g]? =some o):Ao w w g o:=⟨rfl,rfl,rfl,rfl,rfl,fun _ _=>rfl,h⟩
theorem apq(h:jf B0 w0 nt G0 s G E a w){t:TypeId}{n g:Nat}{xo:nk}{v:Value}(hs:lg P t=some n)(hx:iw G E s (xo.ev s) v){d:Nat}{ids:List Nat}{ef:mc}(he:(jy.init g n xo).p9 d s=some (ids,ef)):
  sj P B0 nt w0 G0 a w none ((do aFp t (a.tmps.getD g undef) v;pure Next.skip:Sem Next).run P w) (ef.app none (s.uu ids)):=by
 simp only[jy.p9]at he;split at he
 ·rename_i id av m cs ht hb Iu;split at he
  ·rename_i hc;obtain⟨hid,rfl,rfl,hlen,Bm⟩:=hc;simp only[ak,cd]at he;obtain⟨rfl,rfl⟩:=he;generalize s.base+g=id0 at hid hb ht⊢;subst hid;have hp:=h.tmp g;rw[ht]at hp;have had:=hp.2 rfl ⟨_,hb,rfl⟩;have k0:=h.dc id _ hb;obtain⟨_,_,cells,et,k3,k4,k5⟩:=k0;have k5':m=cells.size:=k5
   have h1:=h.set hb (b':= .loc (jb m (.d .any))) ⟨rfl,fun _ _ h'=>by simp[B.De]at h'⟩ (Ao.refl k3) k4 ⟨by simp[k5'],fun j c u hc hu=>by
    rw[R2]at hc;split at hc
    ·injection hc with hc;subst hc;exact i6.any
    cases hc⟩
   have hm:Ia E E s {s with dc:=l7 s.dc id (some (.loc (jb m (.d .any))))}:=by
    refine⟨fun i=>ay _,fun i sz Tp _ rp=>?_,fun i b1 _ rp hva=>?_,fun i _ hp=>⟨hp,rfl⟩⟩
    ·by_cases e:i=id
     ·subst e;simp[PS.De,B.De,cu]at rp
     simp only[PS.De,gj _ _ _ _ e]at rp;exact⟨Tp,rp,ay _,fun _=>⟨rfl,rfl⟩⟩
    by_cases e:i=id
    ·subst e;exact⟨⟨_,hb,rfl⟩,rfl⟩
    simp only[gj _ _ _ _ e]at rp;exact⟨⟨b1,rp,hva⟩,rfl⟩
   obtain⟨c1,c2⟩:=Rv Iu hx
   have ato:∀i av,PS.Jb {s with dc:=l7 s.dc id (some (.loc (jb m (.d .any))))} i av=s.Jb i av:=by
    intro i av;unfold PS.Jb;by_cases e:i=id
    ·subst e;simp[cu,hb,B.De]
    simp[gj _ _ _ _ e]
   have aE3:cs.all (C.one {s with dc:=l7 s.dc id (some (.loc (jb m (.d .any))))})=true:=by
    rw[dj]at Bm⊢;intro c hc;have:=Bm c hc
    cases c with
    |d x=>exact this
    |ref i v l=>simp only[C.one,V.live,ato]at this⊢;exact this
    |l9 i v=>exact this
    |ptr i v o=>
     simp only[C.one,V.live,PS.cs]at this⊢;by_cases e:i=id
     ·subst e;simp only[hb]at this;simp at this
     simp only[gj _ _ _ _ e];exact this
   have tn:za {s with dc:=l7 s.dc id (some (.loc (jb m (.d .any))))} m cs (.ie id (s.av id) 0)=some ([],.set id (.loc cs)):=by
    have e1:PS.cs {s with dc:=l7 s.dc id (some (.loc (jb m (.d .any))))} id (s.av id)=some (jb m (.d .any)):=by
     simp[PS.cs,cu]
    simp only[za,e1];rw[bd ⟨aE3,hlen,by simp⟩]
    have:patch (jb m (C.d .any)) 0 cs=cs:=by simp[patch,hlen]
    rw[this]
   obtain⟨w',id',b,hr,heq,hf⟩:=a1e h1 hs tn (ad:=a.tmps.getD g undef) (v:=v) ⟨ay _,fun _ _=>had⟩ c1 (fun j c u hj hu=>iw.Dw (gq.la _) hm (c2 j c u hj hu)) (fun _ u hu=>by
    obtain⟨i,hi,hiu⟩:=gf.1 hu
    have D0:i<v.cells.size:=by simpa using hi
    have hic:i<cs.length:=by omega
    have k3:=c2 i cs[i] u (ax hic) (by rw[←hiu];simp[D0])
    exact yq.afi k3 (dj.1 Bm _ (df hic)))
   simp only[cd,mc.set.injEq,true_and]at heq;obtain⟨rfl,rfl⟩:=heq;rw[afv,hr];have h2:=hf.bump (id:=id) (g:=g) (cs:=cs) (by simp[cu]) had;refine⟨_,_,_,G,E,_,.no,rfl,.inr ⟨rfl,rfl⟩,h2,trivial,?_⟩
   have e:l7 (l7 s.dc id (some (B.loc (jb m (C.d .any))))) id (some (B.loc cs))=l7 s.dc id (some (B.loc cs)):=by
    funext i
    by_cases e:i=id
    ·subst e;simp[cu]
    simp[gj _ _ _ _ e]
   simp only[mc.app,PS.uu,PS.put,e]
  cases he
 cases he
end
section
variable{P:Program}{B0 nt:Nat}{w0 w w':World}{G0 G G':gq}{s s':PS}{E E':Env}{a:Act}
def Fits(P:Program)(nt:Nat)(an:Ann)(ops:Array Oper)(o:Oper)(ri:RI):Prop:=
 ∃r0,a7n P nt an ops o=some r0∧(ri=r0∨(∃z,r0.op= .alloc z∧ri={r0 with op:= .A9 z.length})∨∃n g x,r0.op= .store n (.t g) x∧r0.dst=none∧ri={r0 with op:= .init g n x})
def Lq(B0 nt:Nat)(w0:World)(G0:gq)(K:PS→Prop)(a:Act)(w:World):Prop:=∃s G E,K s∧jf B0 w0 nt G0 s G E a w
theorem Xo{an:Ann}{ops:Array Oper}{o:Oper}{r0:RI}(h:a7n P nt an ops o=some r0):
  cOp P (an.imm.contains (o.dst.getD 0)) (an.kp.contains (o.dst.getD 0)) (an.cv.contains (o.dst.getD 0)) (if an.ce.contains (o.dst.getD 0)then 2 else if an.cf.contains (o.dst.getD 0)then 1 else if an.cr.contains (o.dst.getD 0)then 3 else 0) o.op=some r0.op∧r0.dst=o.dst∧o.dst.all (· <nt)=true∧
   ((o.guard=none∧r0.guard=none)∨∃j b t,o.guard=some (j,b)∧r0.guard=some (t,b)∧(ops[j]?).bind (·.dst)=some t)∧
   r0.after=(o.after.toList.filter (aJh .any)).map (·.on):=by
 unfold a7n at h;split at h
 ·cases h
 rename_i r hr;split at h
 ·rename_i hg;split at h
  ·rename_i hd;injection h with h;subst h;exact⟨hr,rfl,hd,.inl ⟨hg,rfl⟩,rfl⟩
  cases h
 rename_i j b hg;split at h
 ·rename_i t ht;split at h
  ·rename_i hd;injection h with h;subst h;exact⟨hr,rfl,hd,.inr ⟨j,b,t,hg,rfl,ht⟩,rfl⟩
  cases h
 cases h
theorem Fits.spec{an:Ann}{ops:Array Oper}{o:Oper}{ri:RI}(h:Fits P nt an ops o ri):
  ri.dst=o.dst∧o.dst.all (· <nt)=true∧((o.guard=none∧ri.guard=none)∨∃j b t,o.guard=some (j,b)∧ri.guard=some (t,b)∧(ops[j]?).bind (·.dst)=some t)∧
   ri.after=(o.after.toList.filter (aJh .any)).map (·.on):=by
 obtain⟨r0,hc,rfl|⟨z,_,rfl⟩|⟨n,g,x,_,_,rfl⟩⟩:=h<;>exact(Xo hc).2
theorem Ck(h:jf B0 w0 nt G0 s G E a w){an:Ann}{ops:Array Oper}{o:Oper}{ri:RI}(hf:Fits P nt an ops o ri){b:Bool}(hw:wanted ri s=some b):aJv o (yielded ops a.tmps)=b:=by
 obtain⟨_,_,hg,_⟩:=hf.spec;unfold wanted at hw;unfold aJv;rcases hg with ⟨h1,h2⟩|⟨j,c,t,h1,h2,h3⟩
 ·rw[h2]at hw;rw[h1];simpa using hw
 rw[h2]at hw;rw[h1];simp only at hw⊢;split at hw
 ·rename_i x hx
  injection hw with hw
  have hv:=h.tmp t;rw[hx]at hv;unfold yielded;rw[h3];simp only[Pa]
  have acn:a.tmps[t]? =some (.bool x):=by
   generalize hq:a.tmps.getD t undef=q at hv;cases hv;rw[jd]at hq
   cases hz:a.tmps[t]? with
   |none=>rw[hz]at hq;cases hq
   |some y=>rw[hz]at hq;simp at hq;rw[hq]
  rw[acn];subst hw;cases x<;>cases c<;>rfl
 ·rename_i hx
  injection hw with hw
  subst hw;have hv:=h.tmp t;rw[hx]at hv;unfold yielded;rw[h3];simp only[Pa]
  cases hz:a.tmps[t]? with
  |none=>rfl
  |some y=>
   rw[jd,hz]at hv;simp only[jc]at hv;cases hv;rfl
 cases hw
theorem sj.wp{o:Oper}{s':PS}{K:PS→Prop}{next:Act→World→Prop}{Q:Exit→Act→World→Prop}(hd:o.dst.all (· <nt)=true)
  (h:sj P B0 nt w0 G0 a w o.dst ((execOp a.eval o).run P w) s')(hK:K s')(hn:∀a w,Lq B0 nt w0 G0 K a w→next a w):o.wp P a w next Q:=by
 obtain⟨n,v,w',G',E',st,x,hr,hnv,hf,hv,rfl⟩:=h;unfold aLz;rw[hr];rcases hnv with rfl|⟨rfl,rfl⟩
 ·exact hn _ _ ⟨_,G',E',hK,hf.a8m hd hv⟩
 exact hn _ _ ⟨_,G',E',hK,hf.a8m hd hv⟩
theorem Kg{f:Nat}(hf:zf P f=true)(args:Array Value):(callFunc f args).run P w= .ok (.enter f args) w:=by
 unfold zf at hf;split at hf
 ·rename_i fn hfn;simp only[da,bne_iff_ne,ne_eq]at hf;unfold callFunc
  have h2:fn.body≠none:=by intro h;have:=hf.2;rw[h]at this;cases this
  simp[hfn,hf.1,h2]
 cases hf
theorem amb(h:jf B0 w0 nt G0 s G E a w){o:Oper}{K:PS→Prop}{next:Act→World→Prop}{Q:Exit→Act→World→Prop}(hd:o.dst.all (· <nt)=true){f:Nat}{args:List V}{j2:List D}{own:Bool}{vs cvs:Array Value}
  (tn:Ey P f args j2 own o.dst s K)(K3:zf P f=true→(execOp a.eval o).run P w= .ok (.enter f (vs++cvs)) w)(C9:vs.size=args.length)(hcz:cvs.size=j2.length)
  (hv:∀(i:Nat) (x:V) (v:Value),args[i]? =some x→vs[i]? =some v→iw G E s x v)(hcv:∀(i:Nat) (x:D) (v:Value),j2[i]? =some x→cvs[i]? =some v→i6 (full w) x v)
  (hcg:own=false→∀(i:Nat) (x:D) (v:Value),j2[i]? =some x→cvs[i]? =some v→i6 G x v)(hn:∀a w,Lq B0 nt w0 G0 K a w→next a w):o.wp P a w next Q:=by
 obtain⟨ds,r,hs,hf,hr,hK⟩:=tn;unfold aLz;rw[K3 hf.1,aJi];refine(h.aF7 C9 hcz hv hcv hcg hs hf hr).mono ?_;rintro e w' ⟨v,G',rfl,hf',hv'⟩;exact hn _ _ ⟨_,G',E,hK,hf'.a8m hd hv'⟩
theorem P6(h:jf B0 w0 nt G0 s G E a w){args:Array Operand}{l:List nk}(hl:J7 args.toList=some l):
  (args.map a.eval).size=(l.map (·.ev s)).length∧∀(i:Nat) (x:V) (v:Value),(l.map (·.ev s))[i]? =some x→(args.map a.eval)[i]? =some v→iw G E s x v:=by
 obtain⟨k1,k2⟩:=akw hl;refine⟨by simp[k1],fun i x v hx hv=>?_⟩;simp only[cy,aq]at hx;simp only[Xu,aq]at hv;obtain⟨y,hy,rfl⟩:=hx;obtain⟨z,hz,rfl⟩:=hv;exact h.ev (k2 i z y (by simpa using hz) hy)
theorem aqv(h:jf B0 w0 nt G0 s G E a w){x:V}{g:Nat}{j2:List D}(hs:snap s x=some (.oq g j2)){v:Value}(hv:iw G E s x v):
  ∃cvs:Array Value,v= .func (.func g) #[] cvs∧cvs.size=j2.length∧(∀(i:Nat) (x:D) (v:Value),j2[i]? =some x→cvs[i]? =some v→i6 (full w) x v)∧
   ((!x.isD)=false→∀(i:Nat) (x:D) (v:Value),j2[i]? =some x→cvs[i]? =some v→i6 G x v):=by
 have hf:=h.a4l hs hv
 cases hf with
 | @oq _ _ vs hl hr=>
  refine⟨vs,rfl,hl,hr,fun hx=>?_⟩
  cases x with
  |d z=>
   simp only[snap,ak]at hs;subst hs
   cases hv with
   |oq hl' hr'=>exact hr'
  |_=>cases hx
theorem aq2{im kp cv:Bool}{cm:Nat}{op:Op}{z:List D}(h:cOp P im kp cv cm op=some (.alloc z)):∃t,op= .alloc t∧Fw P t=some z:=by
 unfold cOp at h;split at h
 all_goals(first|(simp only[aq]at h;obtain⟨y,hy,hh⟩:=h;first|(cases hh;exact⟨_,rfl,hy⟩)|cases hh)|skip)
 all_goals(repeat' split at h)
 all_goals(first|unfold a14 at h|unfold Sw at h|skip)
 all_goals(repeat' split at h)
 all_goals(first|cases h|simp[aq]at h)
theorem aq1{im kp cv:Bool}{cm:Nat}{op:Op}{n g:Nat}{xo:nk}(h:cOp P im kp cv cm op=some (.store n (.t g) xo)):∃t ad x,op= .store t ad x∧lg P t=some n∧x8 ad=some (.t g)∧x8 x=some xo:=by
 unfold cOp at h;split at h
 case h_9 t ad x=>
  split at h
  ·rename_i n' a' x' h1 h2 h3;cases h;exact⟨t,ad,x,rfl,h1,h2,h3⟩
  cases h
 all_goals(first|(simp only[aq]at h;obtain⟨y,hy,hh⟩:=h;cases hh)|skip)
 all_goals(repeat' split at h)
 all_goals(first|unfold a14 at h|unfold Sw at h|skip)
 all_goals(repeat' split at h)
 all_goals(first|cases h|simp[aq]at h)
theorem Ze{im kp cv:Bool}{cm:Nat}{op:Op}{f:Nat}{l:List nk}{r:jy}(h:cOp P im kp cv cm op=some r)(hr:r= .call f l∨r= .zg f l∨r= .Wj f l∨r= .qz f l):∃args Ew,op= .call ⟨.value (.func f),args,Ew⟩∧J7 args.toList=some l:=by
 rcases hr with rfl|rfl|rfl|rfl
 all_goals
  unfold cOp at h;split at h
  all_goals(first|(simp only[aq]at h;obtain⟨y,hy,hh⟩:=h;cases hh;done)|skip)
  all_goals(repeat' split at h)
  all_goals(first|unfold a14 at h|unfold Sw at h|skip)
  all_goals(repeat' split at h)
  all_goals(first|(cases h;exact⟨_,_,rfl,by assumption⟩)|cases h|simp[aq]at h)
theorem a13{im kp cv:Bool}{cm:Nat}{op:Op}{f:nk}{l:List nk}{r:jy}(h:cOp P im kp cv cm op=some r)(hr:r= .xy f l∨r= .No f l∨r= .P4 f l):∃x args Ew,op= .call ⟨.value x,args,Ew⟩∧x8 x=some f∧J7 args.toList=some l:=by
 rcases hr with rfl|rfl|rfl
 all_goals
  unfold cOp at h;split at h
  all_goals(first|(simp only[aq]at h;obtain⟨y,hy,hh⟩:=h;cases hh;done)|skip)
  all_goals(repeat' split at h)
  all_goals(first|unfold a14 at h|unfold Sw at h|skip)
  all_goals(repeat' split at h)
  all_goals(first|(cases h;exact⟨_,_,_,rfl,by assumption,by assumption⟩)|cases h|simp[aq]at h)
theorem aup{im kp cv:Bool}{cm:Nat}{op:Op}{kk:KK}{sz by_:Nat}{x k y:nk}{ts:List Nat}(h:cOp P im kp cv cm op=some (.a0r kk sz by_ x k y ts)):False:=by
 unfold cOp at h;split at h
 all_goals(first|(simp only[aq]at h;obtain⟨y,hy,hh⟩:=h;cases hh;done)|skip)
 all_goals(repeat' split at h)
 all_goals(first|unfold a14 at h|unfold Sw at h|skip)
 all_goals(repeat' split at h)
 all_goals(first|cases h|(simp[aq]at h;done)|(simp only[aq]at h;obtain⟨y,hy,hh⟩:=h;first|cases hh|(split at hh<;>cases hh)))
theorem Gr(s:PS)(i av:Nat):Aa s s i av:=⟨rfl,rfl,rfl,rfl,rfl,fun _ _ _=>rfl⟩
theorem anh(s:PS)(v:V):Ja s s v:=by
 cases v with
 |agg cs=>intro c _;cases c<;>first|trivial|exact Gr _ _ _
 |Ar cs=>intro c _;cases c<;>first|trivial|exact Gr _ _ _
 |oq f ids=>exact fun p _=>⟨Gr _ _ _,fun cs _ c _=>by cases c<;>first|trivial|exact Gr _ _ _⟩
 |ie i v o=>exact⟨Gr _ _ _,fun cs _ c _=>by cases c<;>first|trivial|exact Gr _ _ _⟩
 |Kr i v l n=>exact⟨Gr _ _ _,fun cs _ c _=>by cases c<;>first|trivial|exact Gr _ _ _⟩
 |d x=>trivial
 |no=>trivial
 |_=>exact Gr _ _ _
theorem a71(h:jf B0 w0 nt G0 s G E a w){o:Oper}{K:PS→Prop}{next:Act→World→Prop}{Q:Exit→Act→World→Prop}(hd:o.dst.all (· <nt)=true){f:Nat}{args:List V}{m':Mem}{r:V}{vs:Array Value}
  (hE:qm P f s.mem args m' r)(hK:K ((s.j6 m').put o.dst r))(K3:zf P f=true→(execOp a.eval o).run P w= .ok (.enter f vs) w)(C9:vs.size=args.length)
  (hv:∀(i:Nat) (x:V) (v:Value),args[i]? =some x→vs[i]? =some v→iw G E s x v)(hn:∀a w,Lq B0 nt w0 G0 K a w→next a w):o.wp P a w next Q:=by
 unfold aLz;rw[K3 hE.1,aJi];refine(hE.2 s B0 w0 nt G0 G E a w vs rfl h C9 hv).mono ?_;rintro e w' ⟨v,G',E',rfl,hf',hv'⟩;exact hn _ _ ⟨_,G',E',hK,hf'.a8m hd hv'⟩
theorem aa2(h:jf B0 w0 nt G0 s G E a w){o:Oper}{K:PS→Prop}{next:Act→World→Prop}{Q:Exit→Act→World→Prop}(hd:o.dst.all (· <nt)=true){f:Nat}{args:List V}{R:Mem→V→Prop}{vs:Array Value}
  (hE:Df P f s args R)(hK:∀m' r,R m' r→K ((s.j6 m').put o.dst r))(K3:zf P f=true→(execOp a.eval o).run P w= .ok (.enter f vs) w)(C9:vs.size=args.length)
  (hv:∀(i:Nat) (x:V) (v:Value),args[i]? =some x→vs[i]? =some v→iw G E s x v)(hn:∀a w,Lq B0 nt w0 G0 K a w→next a w):o.wp P a w next Q:=by
 unfold aLz;rw[K3 hE.1,aJi];refine(hE.2 B0 w0 nt G0 G E a w vs h C9 hv).mono ?_;rintro e w' ⟨v,G',E',m',r,rfl,hR,hf',hv'⟩;exact hn _ _ ⟨_,G',E',hK m' r hR,hf'.a8m hd hv'⟩
theorem Ty(h:jf B0 w0 nt G0 s G E a w){an:Ann}{ops:Array Oper}{o:Oper}{ri:RI}(hf:Fits P nt an ops o ri){K:PS→Prop}{next:Act→World→Prop}{Q:Exit→Act→World→Prop}
  (tn:H6 P ri s K)(hn:∀a w,Lq B0 nt w0 G0 K a w→next a w):o.wp P a w next Q:=by
 obtain⟨aco,hd,_,_⟩:=hf.spec;obtain⟨r0,hc,hri⟩:=hf;obtain⟨hop,_,_,_,_⟩:=Xo hc
 have p9:(match ri.op.p9 (s.base+ri.dst.getD 0) s with|some (ids,e)=>K (e.app ri.dst (s.uu ids))|none=>False)→o.wp P a w next Q:=by
  intro hh;split at hh
  ·rename_i ids e he;rw[aco]at he hh;rcases hri with rfl|⟨z,hz,rfl⟩|⟨n,g,x,hz,hdn,rfl⟩
   ·exact(au7 h hop he).wp hd hh hn
   ·rw[hz]at hop;obtain⟨t,ho,ht⟩:=aq2 hop;refine sj.wp hd (s':=mc.app o.dst (s.uu ids) e) ?_ hh hn;unfold execOp;rw[ho];exact ah1 h ht he
   rw[hz]at hop;obtain⟨t,ad,x',ho,hs,had,hx⟩:=aq1 hop;refine sj.wp hd (s':=mc.app o.dst (s.uu ids) e) ?_ hh hn;unfold execOp;rw[ho]
   have e1:a.eval ad=a.tmps.getD g undef:=by
    cases ad with
    |tmp t=>simp only[x8,ak,nk.t.injEq]at had;subst had;rfl
    |const v=>simp[x8]at had
    |func f=>simp[x8]at had
    |global g=>cases had
   dsimp only
   rw[e1];have aHb:o.dst=none:=aco.symm.trans hdn;rw[aHb]at he⊢;exact apq h hs (h.ev hx) he
  exact hh.elim
 unfold H6 at tn
 have opc:∀(q:jy),(∀n,q≠ .A9 n)→(∀g n x,q≠ .init g n x)→ri.op=q→r0.op=q:=by
  intro q h1 h2 hq;rcases hri with rfl|⟨z,_,rfl⟩|⟨n,g,x,_,_,rfl⟩
  ·exact hq
  ·exact absurd hq.symm (h1 _)
  exact absurd hq.symm (h2 _ _ _)
 have go:∀{f:Nat} {as:Array Operand} {Ew:Array TypeId},o.op= .call ⟨.value (.func f),as,Ew⟩→zf P f=true→(execOp a.eval o).run P w= .ok (.enter f (as.map a.eval)) w:=by
  intro f as Ew ho hcb;unfold execOp;rw[ho];simp only[cn,resolve,Act.eval,aAc,ep,bm,invoke];rw[Kg hcb];simp
 split at tn
 ·rename_i hg;have X7:=opc _ (by simp) (by simp) hg;rw[X7]at hop;exact(aup hop).elim
 ·rename_i f args Eg;have X7:=opc _ (by simp) (by simp) Eg;obtain⟨as,Ew,ho,hl⟩:=Ze hop (.inr (.inr (.inr X7)));obtain⟨k1,k2⟩:=P6 h hl;rw[aco]at tn;obtain⟨R,hE,hK⟩:=tn;exact aa2 h hd hE hK (go ho) k1 k2 hn
 ·rename_i f args Eg;have X7:=opc _ (by simp) (by simp) Eg;obtain⟨fx,as,Ew,ho,hfx,hl⟩:=a13 hop (.inr (.inr X7));obtain⟨k1,k2⟩:=P6 h hl;split at tn
  ·rename_i g j2 hev;rw[aco]at tn;obtain⟨R,hE,hK⟩:=tn;have hfv:=h.ev hfx;rw[hev]at hfv;have hfv:i6 G (.oq g j2) (a.eval fx):=hfv;generalize hfe:a.eval fx=fv at hfv
   cases hfv with
   | @oq _ _ cvs hcl hcr=>
    refine aa2 h hd hE hK (vs:=as.map a.eval++cvs) (fun hcb=>?_) (by simp at k1⊢;omega) (fun i x v hx hv=>?_) hn
    ·unfold execOp;rw[ho];simp only[cn,resolve,hfe,aAc,ep,bm,invoke];rw[Kg hcb];simp
    by_cases hi:i<(args.map (·.ev s)).length
    ·rw[mj hi]at hx;rw[ow (by omega)]at hv;exact k2 i x v hx hv
    rw[ly (by omega)]at hx;rw[a4h (by omega)]at hv;rw[k1]at hv;simp only[cy,aq]at hx;obtain⟨y,hy,rfl⟩:=hx;exact hcr _ y v hy hv
  exact tn.elim
 ·rename_i f args Eg;have X7:=opc _ (by simp) (by simp) Eg;obtain⟨as,Ew,ho,hl⟩:=Ze hop (.inr (.inl X7));obtain⟨k1,k2⟩:=P6 h hl;rw[aco]at tn;obtain⟨m',r,hE,hK⟩:=tn;exact a71 h hd hE hK (go ho) k1 k2 hn
 ·rename_i f args Eg;have X7:=opc _ (by simp) (by simp) Eg;obtain⟨as,Ew,ho,hl⟩:=Ze hop (.inr (.inr (.inl X7)));obtain⟨k1,k2⟩:=P6 h hl;rw[aco]at tn;obtain⟨r,hF,hK⟩:=tn;exact a71 h hd (hF s fun x _=>anh s x) hK (go ho) k1 k2 hn
 ·rename_i f args Eg;have X7:=opc _ (by simp) (by simp) Eg;obtain⟨fx,as,Ew,ho,hfx,hl⟩:=a13 hop (.inr (.inl X7));obtain⟨k1,k2⟩:=P6 h hl;split at tn
  ·rename_i g j2 hev;rw[aco]at tn;obtain⟨m',r,hE,hK⟩:=tn;have hfv:=h.ev hfx;rw[hev]at hfv;have hfv:i6 G (.oq g j2) (a.eval fx):=hfv;generalize hfe:a.eval fx=fv at hfv
   cases hfv with
   | @oq _ _ cvs hcl hcr=>
    refine a71 h hd hE hK (vs:=as.map a.eval++cvs) (fun hcb=>?_) (by simp at k1⊢;omega) (fun i x v hx hv=>?_) hn
    ·unfold execOp;rw[ho];simp only[cn,resolve,hfe,aAc,ep,bm,invoke];rw[Kg hcb];simp
    by_cases hi:i<(args.map (·.ev s)).length
    ·rw[mj hi]at hx;rw[ow (by omega)]at hv;exact k2 i x v hx hv
    rw[ly (by omega)]at hx;rw[a4h (by omega)]at hv;rw[k1]at hv;simp only[cy,aq]at hx;obtain⟨y,hy,rfl⟩:=hx;exact hcr _ y v hy hv
  exact tn.elim
 ·rename_i f args Eg;have X7:=opc _ (by simp) (by simp) Eg;obtain⟨as,Ew,ho,hl⟩:=Ze hop (.inl X7);obtain⟨k1,k2⟩:=P6 h hl;rw[aco]at tn;exact amb h hd (vs:=as.map a.eval) (cvs:= #[]) tn (fun hcb=>by rw[go ho hcb];simp) k1 rfl k2 (fun i x v hx _=>by simp at hx) (fun _ i x v hx _=>by simp at hx) hn
 ·rename_i f args Eg;have X7:=opc _ (by simp) (by simp) Eg;obtain⟨fx,as,Ew,ho,hfx,hl⟩:=a13 hop (.inl X7);obtain⟨k1,k2⟩:=P6 h hl;split at tn
  ·rename_i g j2 hsn;rw[aco]at tn;obtain⟨cvs,e1,hcz,hcv,hcg⟩:=aqv h hsn (h.ev hfx);refine amb h hd (vs:=as.map a.eval) (cvs:=cvs) tn (fun hcb=>?_) k1 hcz k2 hcv hcg hn;unfold execOp;rw[ho];simp only[cn,resolve,e1,aAc,ep,bm,invoke];rw[Kg hcb];simp
  exact tn.elim
 exact p9 tn
end
section
variable{P:Program}{s s':PS}
theorem Zi{α:Type}{l:List α}{p q:α→Bool}(h:∀x∈l,p x=q x):l.all p=l.all q:=by
 induction l with
 |nil=>rfl
 |cons x r ih=>simp only[W4,h x (by simp),ih fun y hy=>h y (by simp[hy])]
theorem Vc{v:V}(h:Ja s s' v):v.live s'=v.live s:=by
 cases v with
 |ref i v l=>simp only[V.live,h.Jb]
 |l9 i v=>simp only[V.live,h.ents]
 |ie i v o=>simp only[V.live,h.1.cs]
 |Hw i v l j o=>simp only[V.live,h.Jb]
 |oq f ids=>
  simp only[V.live]
  exact Zi fun p hp=>by rw[(h p hp).1.cs]
 |Kr i v l n=>simp only[V.live,h.1.cs]
 |Hx i v m j=>simp only[V.live,h.Jb]
 |win i v m o l=>simp only[V.live,h.Jb]
 |_=>rfl
theorem afh{c:C}(h:I0 s s' c):c.one s'=c.one s:=by
 cases c with
 |d x=>rfl
 |ref i v l=>exact Vc (v:= .ref i v l) h
 |l9 i v=>exact Vc (v:= .l9 i v) h
 |ptr i v o=>simp only[C.one,V.live,h.cs]
theorem P2{v:V}(h:Ja s s' v):v.cells s'=v.cells s:=by
 cases v with
 |ref i v l=>simp only[V.cells,h.Jb]
 |l9 i v=>simp only[V.cells,h.ents]
 |ie i v o=>simp only[V.cells,h.1.cs]
 |d x=>cases x<;>rfl
 |_=>rfl
theorem Xn{v:V}(h:Ja s s' v){cs:List C}(hc:v.cells s=some cs):∀c∈cs,I0 s s' c:=by
 cases v with
 |d x=>cases x<;>simp[V.cells]at hc<;>(try subst hc)<;>intro c hcm<;>simp at hcm<;>(first|subst hcm|(obtain⟨y,_,rfl⟩:=hcm))<;>trivial
 |ref i v l=>
  simp only[V.cells]at hc;split at hc
  ·split at hc
   ·injection hc with hc;subst hc;intro c hcm;simp at hcm;subst hcm;exact h
   cases hc
  cases hc
 |l9 i v=>
  simp only[V.cells]at hc;split at hc
  ·injection hc with hc;subst hc;intro c hcm;simp at hcm;subst hcm;exact h
  cases hc
 |ie i v o=>
  simp only[V.cells]at hc;split at hc
  ·injection hc with hc;subst hc;intro c hcm;simp at hcm;subst hcm;exact h.1
  cases hc
 |agg cs'=>simp only[V.cells,ak]at hc;subst hc;exact h
 |_=>cases hc
theorem ah3{v:V}(h:Ja s s' v)(n:Nat)(g:Bool):C4 s' n g v=C4 s n g v:=by
 cases v with
 |ie i v o=>simp only[C4,h.1.cs]
 |Hw i v l j o=>simp only[C4,h.dm,h.elc]
 |d x=>cases x<;>rfl
 |_=>rfl
theorem ad5{v:V}(h:Ja s s' v){xs:List C}(hx:∀c∈xs,I0 s s' c)(n:Nat):za s' n xs v=za s n xs v:=by
 have e:xs.all (C.one s')=xs.all (C.one s):=Zi fun c hc=>afh (hx c hc)
 cases v with
 |ie i v o=>simp only[za,h.1.cs,e]
 |Hw i v l j o=>simp only[za,F2,h.dm,h.elc,e]
 |_=>rfl
theorem a7a{v:V}(h:Ja s s' v)(off:Nat):Rs s' off v=Rs s off v:=by
 cases v with
 |ie i v o=>simp only[Rs,h.1.cs]
 |Hw i v l j o=>simp only[Rs,h.Jb]
 |d x=>cases x<;>rfl
 |_=>rfl
theorem ah4{v:V}(h:Ja s s' v)(n:Nat)(i:Int):Ke s' n i v=Ke s n i v:=by
 cases v with
 |ref i v l=>simp only[Ke,h.Jb]
 |Kr i v l n=>simp only[Ke,h.1.cs]
 |d x=>cases x<;>rfl
 |_=>rfl
theorem akd{v:V}(h:Ja s s' v)(k:TK):P0 s' k v=P0 s k v:=by
 cases v with
 |ref i v l=>cases k<;>simp only[P0,h.Jb]
 |l9 i v=>cases k<;>simp only[P0,h.ents]
 |Kr i v l n=>cases k<;>simp only[P0,h.1.cs]
 |win i v m o l=>cases k<;>simp only[P0,h.Jb]
 |d x=>cases k<;>cases x<;>rfl
 |_=>cases k<;>rfl
theorem a5y{v:V}(h:Ja s s' v)(k:TK):isNil s' k v=isNil s k v:=by
 have e:=Vc h
 cases v with
 |d x=>cases k<;>cases x with
  |gz n l=>cases l<;>rfl
  |_=>rfl
 |ref i v l=>cases k<;>simp only[isNil,e]
 |l9 i v=>cases k<;>simp only[isNil,e]
 |ie i v o=>cases k<;>simp only[isNil,e]
 |Hw i v l j o=>cases k<;>simp only[isNil,e]
 |oq f ids=>cases k<;>simp only[isNil,e]
 |agg cs=>cases k<;>rfl
 |Ar cs=>cases k<;>rfl
 |Kr _ _ _ _=>cases k<;>rfl
 |Hx _ _ _ _=>cases k<;>rfl
 |win _ _ _ _ _=>cases k<;>rfl
 |no=>cases k<;>rfl
theorem aof{c:C}(h:I0 s s' c):Qs s' c=Qs s c:=by
 cases c with
 |d x=>rfl
 |ref i v l=>simp only[Qs,h.dm]
 |l9 i v=>simp only[Qs,h.ents]
 |ptr i v o=>rfl
theorem ais:∀{cs:List C},(∀c∈cs,I0 s s' c)→Pn s' cs=Pn s cs:=by
 intro cs
 induction cs with
 |nil=>intro _;rfl
 |cons c r ih=>intro h;simp only[Pn,aof (h c (by simp)),ih fun c' hc=>h c' (by simp[hc])]
theorem ake{v:V}(h:Ja s s' v):qh s' v=qh s v:=by
 cases v with
 |ref i v l=>simp only[qh,h.dm]
 |win i v m o l=>simp only[qh,h.dm]
 |d x=>cases x<;>rfl
 |_=>rfl
theorem au2{v:V}(h:Ja s s' v):v.ent s'=v.ent s:=by
 have e:=Vc h
 cases v with
 |d x=>rfl
 |ref i v l=>simp only[V.ent,e]
 |l9 i v=>simp only[V.ent,e]
 |ie i v o=>simp only[V.ent,e]
 |_=>rfl
theorem akf{v:V}(h:Ja s s' v)(n a:Nat):T8 s' n a v=T8 s n a v:=by
 cases v with
 |ref i v l=>
  simp only[T8,h.dm]
  cases he:s.dm i v with
  |none=>rfl
  |some p=>
   have hp':s'.dm i v=some p:=by rw[h.dm];exact he
   have e:s'.av i=s.av i:=(yj (s:=s') (sz:=p.1) (dm:=p.2) hp').1.trans (yj (s:=s) (sz:=p.1) (dm:=p.2) he).1.symm;simp only[e]
 |d x=>cases x<;>rfl
 |_=>rfl
theorem akc{v:V}(h:Ja s s' v):Cy s' v=Cy s v:=by
 cases v with
 |l9 i v=>simp only[Cy,h.ents]
 |d x=>cases x<;>rfl
 |_=>rfl
theorem ai1{c:C}(h:I0 s s' c):oh s' c=oh s c:=by
 cases c with
 |d x=>rfl
 |ref i v l=>simp only[oh,h.dm,h.dp 6 _ (.inl ⟨l,rfl⟩)]
 |l9 i v=>simp only[oh,h.dp 6 _ (.inr rfl)]
 |ptr i v o=>rfl
theorem J2:∀{cs:List C},(∀c∈cs,I0 s s' c)→ju s' cs=ju s cs:=by
 intro cs
 induction cs with
 |nil=>intro _;rfl
 |cons c r ih=>intro h;simp only[ju,ai1 (h c (by simp)),ih fun c' hc=>h c' (by simp[hc])]
theorem a9s{v:V}(h:Ja s s' v):snap s' v=snap s v:=by
 cases v with
 |ref i v l=>simp only[snap,h.dm,h.dp 6 _ (.inl ⟨l,rfl⟩)]
 |l9 i v=>simp only[snap,h.dp 6 _ (.inr rfl)]
 |Kr i v l n=>
  simp only[snap,h.1.cs]
  cases hc:s.cs i v with
  |none=>rfl
  |some cs=>simp only[J2 (h.2 cs hc)]
 |ie i v o=>
  simp only[snap,h.1.cs]
  cases hc:s.cs i v with
  |none=>rfl
  |some cs=>simp only[J2 (h.2 cs hc)]
 |oq f ids=>
  match ids,h with
  |[],h=>rfl
  |[p],h=>
   obtain⟨i,v⟩:=p;have h1:=h (i,v) (by simp);simp only[snap,h1.1.cs]
   cases hc:s.cs i v with
   |none=>rfl
   |some cs=>simp only[J2 (h1.2 cs hc)]
  |[p,q],h=>
   obtain⟨i,v⟩:=p;obtain⟨j,u⟩:=q;have h1:=h (i,v) (by simp);have h2:=h (j,u) (by simp);simp only[snap,h1.1.cs,h2.1.cs]
   cases hc:s.cs i v with
   |none=>rfl
   |some cs=>
    cases hc':s.cs j u with
    |none=>rfl
    |some cs'=>simp only[J2 (h1.2 cs hc),J2 (h2.2 cs' hc')]
  |p::q::r::l,h=>rfl
 |agg cs=>simp only[snap,J2 h]
 |_=>rfl
def Zk(s s':PS)(x:nk):Prop:=x.ev s'=x.ev s∧Ja s s' (x.ev s)
theorem a1m:∀{ps:List (Nat×Nat×nk)},(∀p∈ps,Zk s s' p.2.2)→K0 s' ps=K0 s ps:=by
 intro ps
 induction ps with
 |nil=>intro _;rfl
 |cons p r ih=>
  obtain⟨o,n,x⟩:=p;intro h;obtain⟨h1,h2⟩:=h (o,n,x) (by simp);simp only at h1 h2;simp only[K0,h1,P2 h2,ih fun p hp=>h p (by simp[hp])]
theorem afa:∀{ps:List (Nat×Nat×nk)},(∀p∈ps,Zk s s' p.2.2)→Oq s' ps=Oq s ps:=by
 intro ps
 induction ps with
 |nil=>intro _;rfl
 |cons p r ih=>
  obtain⟨o,n,x⟩:=p;intro h;obtain⟨h1,h2⟩:=h (o,n,x) (by simp);simp only at h1 h2;simp only[Oq,h1,P2 h2,ih fun p hp=>h p (by simp[hp])]
  cases hc:(x.ev s).cells s with
  |none=>rfl
  |some cs=>
   cases hq:Oq s r with
   |none=>rfl
   |some q=>simp only[ais (Xn h2 hc)]
theorem aa7{x:Option nk}(h:∀o∈x.toList,Zk s s' o):Vr s' x=Vr s x:=by
 cases x with
 |none=>rfl
 |some o=>simp only[Vr,(h o (by simp)).1]
theorem a04{x:Option nk}(h:∀o∈x.toList,Zk s s' o)(n:Nat):Re s' n x=Re s n x:=by
 cases x with
 |none=>rfl
 |some o=>simp only[Re,(h o (by simp)).1]
theorem ai0:∀{l:List nk},(∀x∈l,Zk s s' x)→Hk s' (l.map (·.ev s'))=Hk s (l.map (·.ev s)):=by
 intro l
 induction l with
 |nil=>intro _;rfl
 |cons x r ih=>
  intro h;obtain⟨h1,h2⟩:=h x (by simp);simp only[dr,Hk,h1,a9s h2,ih fun p hp=>h p (by simp[hp])]
theorem aj6(h:s'.mem=s.mem)(d sz b:Nat)(x y:V):Qz s' d sz b x y=Qz s d sz b x y:=by
 cases s;cases s';simp only[PS.mem,Mem.mk.injEq]at h;obtain⟨rfl,rfl,rfl⟩:=h;rfl
theorem axs(h:s'.mem=s.mem)(n:Nat)(x y:V):yk s' n x y=yk s n x y:=by
 cases s;cases s';simp only[PS.mem,Mem.mk.injEq]at h;obtain⟨rfl,rfl,rfl⟩:=h;rfl
theorem axr(h:s'.mem=s.mem)(c:C):c.one s'=c.one s:=by
 cases s;cases s';simp only[PS.mem,Mem.mk.injEq]at h;obtain⟨rfl,rfl,rfl⟩:=h;rfl
theorem asu(h:s'.mem=s.mem)(i v:Nat):s'.ents i v=s.ents i v:=by
 cases s;cases s';simp only[PS.mem,Mem.mk.injEq]at h;obtain⟨rfl,rfl,rfl⟩:=h;rfl
theorem Vb(h:s'.mem=s.mem)(i v:Nat):s'.dm i v=s.dm i v∧s'.av=s.av:=by
 cases s;cases s';simp only[PS.mem,Mem.mk.injEq]at h;obtain⟨rfl,rfl,rfl⟩:=h;exact⟨rfl,rfl⟩
theorem au8{d:Nat}{r:jy}(hme:r.kind= .write→s'.mem=s.mem)(ho:∀x∈r.se,Zk s s' x)(hbs:s'.base=s.base)(hv:s'.av d=s.av d)(hi:∀g n x,r= .init g n x→s'.dc (s.base+g)=s.dc (s.base+g)∧s'.av (s.base+g)=s.av (s.base+g)):r.p9 d s'=r.p9 d s:=by
 cases r with
 |ji x=>simp only[jy.p9,(ho x (by simp[jy.se])).1]
 |pick c a b=>simp only[jy.p9,(ho c (by simp[jy.se])).1,(ho a (by simp[jy.se])).1,(ho b (by simp[jy.se])).1]
 |alloc z=>simp only[jy.p9,hv]
 |box n x=>obtain⟨h1,h2⟩:=ho x (by simp[jy.se]);simp only[jy.p9,h1,P2 h2,hv]
 |load n g x=>obtain⟨h1,h2⟩:=ho x (by simp[jy.se]);simp only[jy.p9,h1,ah3 h2]
 |store n a x=>
  obtain⟨h1,h2⟩:=ho x (by simp[jy.se]);obtain⟨h3,h4⟩:=ho a (by simp[jy.se]);simp only[jy.p9,h1,h3,P2 h2]
  cases hc:(x.ev s).cells s with
  |none=>exact axs (hme rfl) _ _ _
  |some cs=>simp only[ad5 h4 (Xn h2 hc)]
 |Yn x=>obtain⟨h1,h2⟩:=ho x (by simp[jy.se]);simp only[jy.p9,h1,a5y h2]
 |D4 o x=>obtain⟨h1,h2⟩:=ho x (by simp[jy.se]);simp only[jy.p9,h1,a7a h2]
 |xe l n x i=>obtain⟨h1,h2⟩:=ho x (by simp[jy.se]);simp only[jy.p9,h1,a7a h2,(ho i (by simp[jy.se])).1]
 |xm n x i=>obtain⟨h1,h2⟩:=ho x (by simp[jy.se]);simp only[jy.p9,h1,ah4 h2,(ho i (by simp[jy.se])).1]
 |a0d x i=>simp only[jy.p9,(ho x (by simp[jy.se])).1,(ho i (by simp[jy.se])).1]
 |a0t o n g x=>simp only[jy.p9,(ho x (by simp[jy.se])).1]
 |len k x=>obtain⟨h1,h2⟩:=ho x (by simp[jy.se]);simp only[jy.p9,h1,akd h2]
 |bin op x y=>simp only[jy.p9,(ho x (by simp[jy.se])).1,(ho y (by simp[jy.se])).1]
 |eqs ks n x y=>simp only[jy.p9,(ho x (by simp[jy.se])).1,(ho y (by simp[jy.se])).1]
 |K2 k n x=>obtain⟨h1,h2⟩:=ho x (by simp[jy.se]);simp only[jy.p9,h1,a5y h2]
 |beq n x y=>simp only[jy.p9,(ho x (by simp[jy.se])).1,(ho y (by simp[jy.se])).1]
 |un op x=>simp only[jy.p9,(ho x (by simp[jy.se])).1]
 |conv k x=>simp only[jy.p9,(ho x (by simp[jy.se])).1]
 |a29 x=>simp only[jy.p9,(ho x (by simp[jy.se])).1]
 |build z ps=>simp only[jy.p9,a1m fun p hp=>ho p.2.2 (by simp only[jy.se,gr];exact⟨p,hp,rfl⟩)]
 |yy im n sz z ps=>simp only[jy.p9,hv,afa fun p hp=>ho p.2.2 (by simp only[jy.se,gr];exact⟨p,hp,rfl⟩)]
 |app sz b x y=>
  obtain⟨h1,h2⟩:=ho x (by simp[jy.se]);obtain⟨h3,h4⟩:=ho y (by simp[jy.se]);simp only[jy.p9,h1,h3,ake h4,hv,aj6 (hme rfl)];generalize x.ev s=vx at h2⊢
  cases vx with
  |ref i v l=>simp only[h2.dm]
  |win i v m o l=>simp only[h2.dm]
  |d z=>cases z<;>rfl
  |_=>rfl
 |a0x n sz z ps=>
  have e:∀cs:List C,cs.all (C.one s')=cs.all (C.one s):=fun cs=>Zi fun c _=>axr (hme rfl) c;simp only[jy.p9,hv,e,a1m fun p hp=>ho p.2.2 (by simp only[jy.se,gr];exact⟨p,hp,rfl⟩)]
 |a0r kk sz b x k y ts=>rfl
 |bad=>rfl
 |a3o sz b z x y=>simp only[jy.p9,(ho x (by simp[jy.se])).1,(ho y (by simp[jy.se])).1,hv]
 |ade x=>simp only[jy.p9,(ho x (by simp[jy.se])).1]
 |adn l n x=>
  obtain⟨h1,h2⟩:=ho x (by simp[jy.se]);simp only[jy.p9,h1];generalize x.ev s=vx at h2⊢
  cases vx with
  |ie i v o=>cases o<;>first|rfl|simp only[h2.1.cs]
  |_=>rfl
 |Hx n x j k=>
  obtain⟨h1,h2⟩:=ho x (by simp[jy.se]);simp only[jy.p9,h1,(ho j (by simp[jy.se])).1,(ho k (by simp[jy.se])).1];generalize x.ev s=vx at h2⊢;generalize j.ev s=vj;generalize k.ev s=vk
  cases vx with
  |ref i v l=>cases vj with
   |d zj=>cases zj with
    |int _ _=>cases vk with
     |d zk=>cases zk with
      |int _ _=>simp only[h2.Jb]
      |_=>rfl
     |_=>rfl
    |_=>rfl
   |_=>rfl
  |_=>rfl
 |Oe n x j=>
  obtain⟨h1,h2⟩:=ho x (by simp[jy.se]);simp only[jy.p9,h1,(ho j (by simp[jy.se])).1,(Vb (hme rfl) 0 0).2,fun i v=>(Vb (hme rfl) i v).1]
 |Nx n x lo up mx=>
  obtain⟨h1,h2⟩:=ho x (by simp[jy.se]);have e1:Vr s' lo=Vr s lo:=aa7 fun o h=>ho o (by simp only[jy.se,fb,lx];exact .inr (.inl (.inl h)));have e2:∀n,Re s' n up=Re s n up:=a04 fun o h=>ho o (by simp only[jy.se,fb,lx];exact .inr (.inl (.inr h)));have e3:∀n,Re s' n mx=Re s n mx:=a04 fun o h=>ho o (by simp only[jy.se,fb,lx];exact .inr (.inr h));simp only[jy.p9,h1];generalize x.ev s=vx at h2⊢
  cases vx with
  |ref i v l=>simp only[h2.Jb,a73,e1,e2,e3]
  |win i v m o l=>simp only[h2.Jb,a73,e1,e2,e3]
  |_=>rfl
 |trim x=>
  obtain⟨h1,h2⟩:=ho x (by simp[jy.se]);simp only[jy.p9,h1,(Vb (hme rfl) 0 0).2,fun i v=>(Vb (hme rfl) i v).1]
 |clr z x=>
  obtain⟨h1,h2⟩:=ho x (by simp[jy.se]);simp only[jy.p9,h1,(Vb (hme rfl) 0 0).2,fun i v=>(Vb (hme rfl) i v).1]
 |slice n x lo up=>
  obtain⟨h1,h2⟩:=ho x (by simp[jy.se]);have e1:Vr s' lo=Vr s lo:=aa7 fun o h=>ho o (by simp only[jy.se,fb,lx];exact .inr (.inl h));have e2:∀n,Re s' n up=Re s n up:=a04 fun o h=>ho o (by simp only[jy.se,fb,lx];exact .inr (.inr h));simp only[jy.p9,h1,e1,e2]
 |Hq=>simp only[jy.p9,hv]
 |lookup kk z x i ok=>obtain⟨h1,h2⟩:=ho x (by simp[jy.se]);simp only[jy.p9,h1,akc h2,(ho i (by simp[jy.se])).1]
 |X0 kk x k v=>
  obtain⟨h1,h2⟩:=ho x (by simp[jy.se]);obtain⟨h3,h4⟩:=ho v (by simp[jy.se]);simp only[jy.p9,h1,(ho k (by simp[jy.se])).1,h3,au2 h4,asu (hme rfl)]
 |Mh f j2=>
  match j2,ho with
  |[],ho=>rfl
  |[.t a],ho=>have h1:s'.tmp a=s.tmp a:=(ho (.t a) (by simp[jy.se])).1;simp only[jy.p9,h1]
  |[.t a,.t b],ho=>
   have h1:s'.tmp a=s.tmp a:=(ho (.t a) (by simp[jy.se])).1;have h2:s'.tmp b=s.tmp b:=(ho (.t b) (by simp[jy.se])).1;simp only[jy.p9,h1,h2]
  |[.c x],ho=>rfl
  |[.c x,y],ho=>rfl
  |[.t a,.c y],ho=>rfl
  |x::y::z::l,ho=>cases x<;>cases y<;>rfl
 |ext x i=>simp only[jy.p9,(ho x (by simp[jy.se])).1]
 |Ep m x y=>simp only[jy.p9,(ho x (by simp[jy.se])).1,(ho y (by simp[jy.se])).1]
 |call f args=>rfl
 |xy f args=>rfl
 |zg f args=>rfl
 |Wj f args=>rfl
 |No f args=>rfl
 |qz f args=>rfl
 |P4 f args=>rfl
 |a2t l n g x i=>simp only[jy.p9,(ho x (by simp[jy.se])).1,(ho i (by simp[jy.se])).1]
 |slice3 n x j k=>
  obtain⟨h1,h2⟩:=ho x (by simp[jy.se]);simp only[jy.p9,h1,(ho j (by simp[jy.se])).1,(ho k (by simp[jy.se])).1,akf h2]
 |A9 n=>simp only[jy.p9,hv]
 |init g n x=>
  obtain⟨h1,h2⟩:=ho x (by simp[jy.se]);have h3:s'.tmp g=s.tmp g:=(ho (.t g) (by simp[jy.se])).1;obtain⟨h4,h5⟩:=hi g n x rfl;have e:∀cs,(x.ev s).cells s=some cs→cs.all (C.one s')=cs.all (C.one s):=fun cs hc=>Zi fun c hcm=>afh (Xn h2 hc c hcm);simp only[jy.p9,h1,h3,hbs,h4,h5,P2 h2];generalize(x.ev s).cells s=q at e⊢
  cases s.tmp g with
  |ie id av off=>
   cases off with
   |zero=>
    cases s.dc (s.base+g)with
    |none=>rfl
    |some b=>
     cases b with
     |Sd m=>
      cases q with
      |none=>rfl
      |some cs=>simp only[e cs rfl]
     |_=>rfl
   |succ _=>rfl
  |_=>rfl
end
section
variable{P:Program}{s s':PS}
def mc.tw(d:Option Nat):mc→Option (Nat×V)
 | .val v=>d.map (·,v)
 | .new v _ _=>d.map (·,v)
 | .set _ _=>d.map (·,.no)
 | .grow v _ _=>d.map (·,v)
 | .a2s v _=>d.map (·,v)
 | .Zu _ _=>d.map (·,.no)
 | .init v t _ _=>some (t,v)
 | .cut v _ _=>d.map (·,v)
 | .Iy .. =>d.map (·,.no)
 | .mem _ v=>d.map (·,v)
def mc.bw:mc→Option (Nat×Option B)
 | .new _ id b=>some (id,some b)
 | .set id b=>some (id,some b)
 | .grow _ id b=>some (id,some b)
 | .init _ _ id cs=>some (id,some (.loc cs))
 | .cut _ id b=>some (id,some b)
 |_=>none
def mc.vw:mc→Option Nat
 | .new _ id _=>some id
 | .a2s _ id=>some id
 | .init _ _ id _=>some id
 | .cut _ id _=>some id
 |_=>none
def mc.isM:mc→Bool
 | .mem .. =>true
 | .Iy .. =>true
 |_=>false
def mc.mw:mc→Option (Nat×Option (List (D×C)))
 | .a2s _ id=>some (id,some [])
 | .Zu id es=>some (id,some es)
 |_=>none
def mod{α:Type}(f:Nat→α):Option (Nat×α)→Nat→α
 |none=>f
 |some (i,a)=>l7 f i a
def inc(f:Nat→Nat):Option Nat→Nat→Nat
 |none=>f
 |some i=>l7 f i (f i+1)
theorem Uz(d:Option Nat)(s:PS)(e:mc)(hm:e.isM=false):e.app d s=⟨mod s.tmp (e.tw d),mod s.dc e.bw,inc s.av e.vw,mod s.mp e.mw,s.base,s.ctx⟩:=by
 cases e<;>cases d<;>first|rfl|cases hm
theorem aza(d:Option Nat)(s:PS)(e:mc):(e.app d s).tmp=mod s.tmp (e.tw d):=by
 cases e<;>cases d<;>rfl
theorem Rx(d:Option Nat)(s:PS)(e:mc):(e.app d s).base=s.base:=by
 cases e<;>cases d<;>rfl
theorem Zh(d:Option Nat)(s:PS)(e:mc):(e.app d s).ctx=s.ctx:=by
 cases e<;>cases d<;>rfl
theorem Ga(ids:List Nat):∀(s:PS),(s.uu ids).base=s.base∧(s.uu ids).ctx=s.ctx:=by
 induction ids with
 |nil=>intro s;exact⟨rfl,rfl⟩
 |cons i r ih=>intro s;rw[PS.Mg];exact ih _
theorem a5m{α:Type}(f:Nat→α){x y:Option (Nat×α)}(h:∀i a j b,x=some (i,a)→y=some (j,b)→i≠j):mod (mod f x) y=mod (mod f y) x:=by
 cases x with
 |none=>rfl
 |some p=>
  cases y with
  |none=>rfl
  |some q=>
   obtain⟨i,a⟩:=p;obtain⟨j,b⟩:=q;have J3:=h i a j b rfl rfl
   funext k
   simp only[mod,aj]
   split<;>split<;>first|rfl|(subst_vars;exact absurd rfl J3)
theorem at7(f:Nat→Nat){x y:Option Nat}(h:∀i j,x=some i→y=some j→i≠j):inc (inc f x) y=inc (inc f y) x:=by
 cases x with
 |none=>rfl
 |some i=>
  cases y with
  |none=>rfl
  |some j=>
   have J3:=h i j rfl rfl
   funext k
   simp only[inc,aj]
   split<;>split<;>subst_vars<;>first|rfl|exact absurd rfl J3|simp_all
theorem ahg{d1 d2:Option Nat}{e1 e2:mc}(ht:∀i a j b,e1.tw d1=some (i,a)→e2.tw d2=some (j,b)→i≠j)(hb:∀i a j b,e1.bw=some (i,a)→e2.bw=some (j,b)→i≠j)
  (hv:∀i j,e1.vw=some i→e2.vw=some j→i≠j)(hm:∀i a j b,e1.mw=some (i,a)→e2.mw=some (j,b)→i≠j)(m1:e1.isM=false)(m2:e2.isM=false):e2.app d2 (e1.app d1 s)=e1.app d1 (e2.app d2 s):=by
 rw[Uz _ _ _ m1,Uz _ _ _ m2,Uz _ _ _ m2,Uz _ _ _ m1];simp only[a5m s.tmp ht,a5m s.dc hb,at7 s.av hv,a5m s.mp hm]
theorem ax0(ids:List Nat):∀(s:PS) (d:Option Nat) (v:V),(s.put d v).uu ids=(s.uu ids).put d v:=by
 induction ids with
 |nil=>intro s d v;rfl
 |cons i r ih=>intro s d v;rw[PS.Mg,PS.Mg,←ih];rfl
theorem a3w(ids:List Nat):∀(s:PS),(s.uu ids).tmp=s.tmp:=by
 induction ids with
 |nil=>intro s;rfl
 |cons i r ih=>intro s;rw[PS.Mg,ih];rfl
theorem as5(ids:List Nat):∀(s:PS) (i:Nat),(i∈ids∨(s.dc i=none∧s.mp i=none))→(s.uu ids).dc i=none∧(s.uu ids).mp i=none:=by
 induction ids with
 |nil=>
  intro s i h;rcases h with h|h
  ·cases h
  exact h
 |cons j r ih=>
  intro s i h;rw[PS.Mg];apply ih;by_cases e:i=j
  ·subst e;exact .inr ⟨cu _ _ _,cu _ _ _⟩
  rcases h with h|⟨h1,h2⟩
  ·exact .inl ((fb.1 h).resolve_left e)
  exact .inr ⟨(gj _ _ _ _ e).trans h1,(gj _ _ _ _ e).trans h2⟩
theorem alp(ids:List Nat):∀(s:PS) (i:Nat),((s.uu ids).dc i=none∨(s.uu ids).dc i=s.dc i)∧((s.uu ids).mp i=none∨(s.uu ids).mp i=s.mp i):=by
 induction ids with
 |nil=>intro s i;exact⟨.inr rfl,.inr rfl⟩
 |cons j r ih=>
  intro s i;rw[PS.Mg];obtain⟨h1,h2⟩:=ih (s.Ip j) i;by_cases e:i=j
  ·subst e;have e1:(s.Ip i).dc i=none:=cu _ _ _;have e2:(s.Ip i).mp i=none:=cu _ _ _;rw[e1]at h1;rw[e2]at h2;exact⟨.inl (h1.elim id id),.inl (h2.elim id id)⟩
  have e1:(s.Ip j).dc i=s.dc i:=gj _ _ _ _ e;have e2:(s.Ip j).mp i=s.mp i:=gj _ _ _ _ e;rw[e1]at h1;rw[e2]at h2;exact⟨h1,h2⟩
def adw(P:Program)(f:Nat)(args:List V)(j2:List D)(own:Bool)(s:PS)(r:D):Prop:=
 ∃ds,Hk s args=some ds∧P7 P s.ctx f (ds++j2) r∧(r.flat=true∨(own=false∧args.all V.isD=true))
def Spec(P:Program)(o:RI)(s:PS)(ids:List Nat)(e:mc):Prop:=
 (∃f args m' r,o.op= .zg f args∧ids=[]∧e= .mem m' r∧qm P f s.mem (args.map (·.ev s)) m' r)∨
 (∃f args g j2 m' r,o.op= .No f args∧f.ev s= .d (.oq g j2)∧ids=[]∧e= .mem m' r∧qm P g s.mem (args.map (·.ev s)++j2.map .d) m' r)∨
 (∃f args r,o.op= .Wj f args∧ids=[]∧e= .val (.d r)∧aqe P f s (args.map (·.ev s)) r)
def O9(P:Program)(o:RI)(s:PS)(ids:List Nat)(e:mc):Prop:=
 (wanted o s=some false∧ids=[]∧e= .val (.d (.Ar [])))∨(wanted o s=some true∧
  ((∃f args r,o.op= .call f args∧ids=[]∧e= .val (.d r)∧adw P f (args.map (·.ev s)) [] false s r)∨
   (∃f args g j2 r,o.op= .xy f args∧snap s (f.ev s)=some (.oq g j2)∧ids=[]∧e= .val (.d r)∧adw P g (args.map (·.ev s)) j2 (!(f.ev s).isD) s r)∨
   o.op.p9 (s.base+o.dst.getD 0) s=some (ids,e)∨Spec P o s ids e))
def Stp(P:Program)(o:RI)(s s1:PS):Prop:=∃ids e,O9 P o s ids e∧s1=e.app o.dst (s.uu ids)
def ahl(P:Program):List RI→PS→PS→Prop
 |[],s,s'=>s=s'
 |o::r,s,s'=>∃s1,Stp P o s s1∧ahl P r s1 s'
theorem ao6{o:RI}{K:PS→Prop}(Bs:o.isR=false)(hw:wanted o s=some true)(h:H6 P o s K):∃ids e,O9 P o s ids e∧K (e.app o.dst (s.uu ids)):=by
 unfold H6 at h;split at h
 ·rename_i ho;unfold RI.isR at Bs;rw[ho]at Bs;cases Bs
 ·rename_i f args ho;unfold RI.isR at Bs;rw[ho]at Bs;cases Bs
 ·rename_i f args ho;unfold RI.isR at Bs;rw[ho]at Bs;cases Bs
 ·rename_i f args ho;obtain⟨m',r,h1,h2⟩:=h;exact⟨[],.mem m' r,.inr ⟨hw,.inr (.inr (.inr (.inl ⟨f,args,m',r,ho,rfl,rfl,h1⟩)))⟩,h2⟩
 ·rename_i f args ho;obtain⟨r,h1,h2⟩:=h;exact⟨[],.val (.d r),.inr ⟨hw,.inr (.inr (.inr (.inr (.inr ⟨f,args,r,ho,rfl,rfl,h1⟩))))⟩,h2⟩
 ·rename_i f args ho;split at h
  ·rename_i g j2 hs;obtain⟨m',r,h1,h2⟩:=h;exact⟨[],.mem m' r,.inr ⟨hw,.inr (.inr (.inr (.inr (.inl ⟨f,args,g,j2,m',r,ho,hs,rfl,rfl,h1⟩))))⟩,h2⟩
  exact h.elim
 ·rename_i f args ho;obtain⟨ds,r,h1,h2,h3,h4⟩:=h;exact⟨[],.val (.d r),.inr ⟨hw,.inl ⟨f,args,r,ho,rfl,rfl,ds,h1,h2,h3⟩⟩,h4⟩
 ·rename_i f args ho;split at h
  ·rename_i g j2 hs;obtain⟨ds,r,h1,h2,h3,h4⟩:=h;exact⟨[],.val (.d r),.inr ⟨hw,.inr (.inl ⟨f,args,g,j2,r,ho,hs,rfl,rfl,ds,h1,h2,h3⟩)⟩,h4⟩
  exact h.elim
 split at h
 ·rename_i ids e he;exact⟨ids,e,.inr ⟨hw,.inr (.inr (.inl he))⟩,h⟩
 exact h.elim
theorem aa6{o:RI}{ids:List Nat}{e:mc}(hw:wanted o s=some true)(h:O9 P o s ids e):H6 P o s (· =e.app o.dst (s.uu ids)):=by
 rcases h with ⟨h,_⟩|⟨_,⟨f,args,r,ho,rfl,rfl,ds,h1,h2,h3⟩|⟨f,args,g,j2,r,ho,hs,rfl,rfl,ds,h1,h2,h3⟩|he|⟨f,args,m',r,ho,rfl,rfl,h1⟩|⟨f,args,g,j2,m',r,ho,hs,rfl,rfl,h1⟩|⟨f,args,r,ho,rfl,rfl,h1⟩⟩
 ·rw[hw]at h;cases h
 ·unfold H6;rw[ho];exact⟨ds,r,h1,h2,h3,rfl⟩
 ·unfold H6;rw[ho];simp only[hs];exact⟨ds,r,h1,h2,h3,rfl⟩
 ·unfold H6;split
  ·rename_i ho;rw[ho]at he;cases he
  ·rename_i ho;rw[ho]at he;cases he
  ·rename_i ho;rw[ho]at he;cases he
  ·rename_i ho;rw[ho]at he;cases he
  ·rename_i ho;rw[ho]at he;cases he
  ·rename_i ho;rw[ho]at he;cases he
  ·rename_i ho;rw[ho]at he;cases he
  ·rename_i ho;rw[ho]at he;cases he
  simp only[he]
 ·unfold H6;rw[ho];exact⟨m',r,h1,rfl⟩
 ·unfold H6;rw[ho];simp only[hs];exact⟨m',r,h1,rfl⟩
 unfold H6;rw[ho];exact⟨r,h1,rfl⟩
theorem aik:∀{l:List RI} {s:PS} {K:PS→Prop},(∀o∈l,o.isR=false)→lk P l s K→∃s',ahl P l s s'∧K s':=by
 intro l
 induction l with
 |nil=>intro s K _ h;exact⟨s,rfl,h⟩
 |cons o r ih=>
  intro s K Bs h;rw[Bl]at h;split at h
  ·rename_i hw;obtain⟨ids,e,h1,h2⟩:=ao6 (Bs o (by simp)) hw h;obtain⟨s',h3,h4⟩:=ih (fun x hx=>Bs x (by simp[hx])) h2;exact⟨s',⟨_,⟨ids,e,h1,rfl⟩,h3⟩,h4⟩
  ·rename_i hw;obtain⟨s',h3,h4⟩:=ih (fun x hx=>Bs x (by simp[hx])) h;exact⟨s',⟨_,⟨[],.val (.d (.Ar [])),.inl ⟨hw,rfl,rfl⟩,rfl⟩,h3⟩,h4⟩
  exact h.elim
theorem V7{o:RI}{ids:List Nat}{e:mc}(hk:o.op.kind= .pure∨o.op.kind= .read)(h:O9 P o s ids e):ids=[]∧∃v,e= .val v:=by
 rcases h with ⟨_,rfl,rfl⟩|⟨_,⟨f,args,r,ho,rfl,rfl,_⟩|⟨f,args,g,j2,r,ho,hs,rfl,rfl,_⟩|he|⟨f,args,m',r,ho,rfl,rfl,h1⟩|⟨f,args,g,j2,m',r,ho,hs,rfl,rfl,h1⟩|⟨f,args,r,ho,rfl,rfl,h1⟩⟩
 ·exact⟨rfl,_,rfl⟩
 ·exact⟨rfl,_,rfl⟩
 ·exact⟨rfl,_,rfl⟩
 rotate_left
 ·rw[ho]at hk;simp[jy.kind]at hk
 ·rw[ho]at hk;simp[jy.kind]at hk
 ·exact⟨rfl,_,rfl⟩
 generalize o.op=op at hk he;cases op<;>simp only[jy.kind,reduceCtorEq,or_self,or_false,or_true,false_or]at hk<;>simp only[jy.p9,aq]at he
 case yy im n sz z ps=>
  cases im with
  |false=>simp at hk
  |true=>
   repeat' split at he
   all_goals first|(cases he;done)|(obtain⟨rfl,rfl⟩:=tf he;exact⟨rfl,_,rfl⟩)|skip
   all_goals simp_all
 all_goals(repeat' split at he)
 all_goals first
  |(cases he;done)
  |(obtain⟨rfl,rfl⟩:=tf he;exact⟨rfl,_,rfl⟩)
  |(obtain⟨_,_,he⟩:=he;obtain⟨rfl,rfl⟩:=tf (congrArg some he);exact⟨rfl,_,rfl⟩)
  |(simp only[aq]at he;obtain⟨_,_,he⟩:=he;obtain⟨rfl,rfl⟩:=tf (congrArg some he);exact⟨rfl,_,rfl⟩)
def mc.Lx(i:Nat):mc→Prop
 | .val _=>True
 | .new _ id _=>id=i
 | .a2s _ id=>id=i
 | .init _ _ id _=>id=i
 |_=>False
theorem aok{o:RI}{ids:List Nat}{e:mc}(hk:o.op.kind= .alloc)(h:O9 P o s ids e):ids=[]∧∃i,e.Lx i∧((∃g n x,o.op= .init g n x∧i=s.base+g∧∀v t id cs,e= .init v t id cs→t=g)∨((∀g n x,o.op≠ .init g n x)∧i=s.base+o.dst.getD 0)):=by
 rcases h with ⟨_,rfl,rfl⟩|⟨_,⟨f,args,r,ho,rfl,rfl,_⟩|⟨f,args,g,j2,r,ho,hs,rfl,rfl,_⟩|he|⟨f,args,m',r,ho,rfl,rfl,h1⟩|⟨f,args,g,j2,m',r,ho,hs,rfl,rfl,h1⟩|⟨f,args,r,ho,rfl,rfl,h1⟩⟩
 ·refine⟨rfl,?_⟩;by_cases hi:∃g n x,o.op= .init g n x
  ·obtain⟨g,n,x,hi⟩:=hi;exact⟨s.base+g,trivial,.inl ⟨g,n,x,hi,rfl,by simp⟩⟩
  exact⟨_,trivial,.inr ⟨fun g n x hh=>hi ⟨g,n,x,hh⟩,rfl⟩⟩
 ·rw[ho]at hk;cases hk
 ·rw[ho]at hk;cases hk
 rotate_left
 ·rw[ho]at hk;cases hk
 ·rw[ho]at hk;cases hk
 ·rw[ho]at hk;cases hk
 generalize o.op=op at hk he;cases op<;>simp only[jy.kind,reduceCtorEq]at hk<;>simp only[jy.p9]at he
 case alloc z=>simp only[ak,cd]at he;obtain⟨rfl,rfl⟩:=he;exact⟨rfl,_,rfl,.inr ⟨by simp,rfl⟩⟩
 case box n x=>
  repeat' split at he
  all_goals first|(cases he;done)|(simp only[ak,cd]at he;obtain⟨rfl,rfl⟩:=he;exact⟨rfl,_,rfl,.inr ⟨by simp,rfl⟩⟩)
 case Hq=>simp only[ak,cd]at he;obtain⟨rfl,rfl⟩:=he;exact⟨rfl,_,rfl,.inr ⟨by simp,rfl⟩⟩
 case A9 n=>simp only[ak,cd]at he;obtain⟨rfl,rfl⟩:=he;exact⟨rfl,_,rfl,.inr ⟨by simp,rfl⟩⟩
 case init g n x=>
  repeat' split at he
  all_goals first|(cases he;done)|(simp only[ak,cd]at he;obtain⟨rfl,rfl⟩:=he;exact⟨rfl,_,rfl,.inl ⟨g,n,x,rfl,rfl,fun _ _ _ _ hh=>by cases hh;rfl⟩⟩)
 case yy im n sz z ps=>cases im<;>simp at hk
end
section
variable{P:Program}{s s' s1 s2:PS}
def CWf(s:PS):C→Prop
 | .d _=>True
 | .ref i av _=>av≤s.av i
 | .l9 i av=>av≤s.av i
 | .ptr i av _=>av≤s.av i
def VWf(s:PS):V→Prop
 | .d _=>True
 | .ref i av _=>av≤s.av i
 | .l9 i av=>av≤s.av i
 | .ie i av _=>av≤s.av i
 | .Hw i av _ _ _=>av≤s.av i
 | .oq _ ids=>∀p∈ids,p.2≤s.av p.1
 | .agg cs=>∀c∈cs,CWf s c
 | .Ar cs=>∀c∈cs,CWf s c
 | .Kr i av _ _=>av≤s.av i
 | .Hx i av _ _=>av≤s.av i
 | .win i av _ _ _=>av≤s.av i
 | .no=>True
structure Wf(s:PS):Prop where
 tmp:∀t,VWf s (s.tmp t)
 loc:∀id cs,s.dc id=some (.loc cs)→∀c∈cs,CWf s c
 qi:∀id sz dm,s.dc id=some (.qi sz dm)→∀e∈dm,∀c∈e,CWf s c
 mp:∀id es,s.mp id=some es→∀e∈es,CWf s e.2
def Kl(s:PS)(d:Nat):Prop:=∀av,s.dm d av=none∧s.cs d av=none∧s.ents d av=none∧s.elc d av=none∧s.Jb d av=none
theorem auf(hl:∀i av,s'.elc i av=s.elc i av∧s'.ents i av=s.ents i av):∀(n:Nat) (c:C),deep s' n c=deep s n c:=by
 intro n
 induction n with
 |zero=>intro c;cases c<;>rfl
 |succ n ih=>
  intro c;have ih':deep s' n=deep s n:=funext ih
  cases c with
  |d x=>rfl
  |ref i av l=>simp only[deep,(hl i av).1,ih']
  |l9 i av=>simp only[deep,(hl i av).2,ih']
  |ptr _ _ _=>rfl
theorem a5n(hb:s'.dc=s.dc)(hv:s'.av=s.av)(hm:s'.mp=s.mp)(i av:Nat):Aa s s' i av:=by
 have k1:∀i av,s'.elc i av=s.elc i av:=fun i av=>by unfold PS.elc;rw[hb,hv]
 have k2:∀i av,s'.ents i av=s.ents i av:=fun i av=>by unfold PS.ents;rw[hm,hv]
 exact⟨by unfold PS.dm;rw[hb,hv],by unfold PS.cs;rw[hb,hv],k2 i av,k1 i av,by unfold PS.Jb;rw[hb,hv],fun n c _=>auf (fun i v=>⟨k1 i v,k2 i v⟩) n c⟩
theorem Hl(h:∀i av,Aa s s' i av)(c:C):I0 s s' c:=by cases c<;>first|trivial|exact h _ _
theorem Y5(h:∀i av,Aa s s' i av)(v:V):Ja s s' v:=by
 cases v with
 |agg cs=>exact fun c _=>Hl h c
 |Ar cs=>exact fun c _=>Hl h c
 |oq f ids=>exact fun p _=>⟨h _ _,fun cs _ c _=>Hl h c⟩
 |ie i v o=>exact⟨h _ _,fun cs _ c _=>Hl h c⟩
 |Kr i v l n=>exact⟨h _ _,fun cs _ c _=>Hl h c⟩
 |d x=>trivial
 |no=>trivial
 |_=>exact h _ _
theorem Mc(h:∀i av,av≤s.av i→Aa s s' i av){c:C}(hw:CWf s c):I0 s s' c:=by cases c<;>first|trivial|exact h _ _ hw
theorem ai4(h:∀i av,av≤s.av i→Aa s s' i av)(hb:∀id cs,s.dc id=some (.loc cs)→∀c∈cs,CWf s c){v:V}(hw:VWf s v):Ja s s' v:=by
 cases v with
 |agg cs=>exact fun c hc=>Mc h (hw c hc)
 |Ar cs=>exact fun c hc=>Mc h (hw c hc)
 |oq f ids=>exact fun p hp=>⟨h _ _ (hw p hp),fun cs Iu c hc=>Mc h (hb _ _ (ve Iu).2 c hc)⟩
 |ie i v o=>exact⟨h _ _ hw,fun cs Iu c hc=>Mc h (hb _ _ (ve Iu).2 c hc)⟩
 |Kr i v l n=>exact⟨h i v hw,fun cs Iu c hc=>Mc h (hb _ _ (ve Iu).2 c hc)⟩
 |Hx i v m j=>exact h i v hw
 |win i v m o l=>exact h i v hw
 |d x=>trivial
 |no=>trivial
 |_=>exact h _ _ hw
theorem apn{i av sz:Nat}{dm:List (List C)}(wf:Wf s)(h:s.elc i av=some (sz,dm)):∀e∈dm,∀c∈e,CWf s c:=by
 obtain⟨_,b,hb,_,hk⟩:=Kd h;rcases hk with ⟨ds,rfl,rfl⟩|rfl
 ·intro e he c hc;obtain⟨e',_,rfl⟩:=gr.1 he;obtain⟨x,_,rfl⟩:=gr.1 hc;trivial
 exact wf.qi i sz dm hb
theorem apt(wf:Wf s)(hl:∀i av,av≤s.av i→s'.elc i av=s.elc i av∧s'.ents i av=s.ents i av):∀(n:Nat) (c:C),CWf s c→deep s' n c=deep s n c:=by
 intro n
 induction n with
 |zero=>intro c _;cases c<;>rfl
 |succ n ih=>
  intro c hc
  cases c with
  |d x=>rfl
  |ref i av l=>
   simp only[deep,(hl i av hc).1]
   cases he:s.elc i av with
   |none=>rfl
   |some p=>
    obtain⟨sz,dm⟩:=p
    have e:dm.map (fun e=>O1 (e.map (deep s' n)))=dm.map fun e=>O1 (e.map (deep s n)):=
     Dd fun e hem=>by rw[Dd fun c hcm=>ih c (apn wf he e hem c hcm)]
    simp only[e]
  |l9 i av=>
   simp only[deep,(hl i av hc).2]
   cases he:s.ents i av with
   |none=>rfl
   |some es=>
    have e:es.map (fun e=>(deep s' n e.2).map fun x=>(e.1,x))=es.map fun e=>(deep s n e.2).map fun x=>(e.1,x):=
     Dd fun e hem=>by rw[ih e.2 (wf.mp i es (Fi he).2 e hem)]
    simp only[e]
  |ptr _ _ _=>rfl
theorem asy(wf:Wf s)(hl:∀i av,av≤s.av i→s'.dm i av=s.dm i av∧s'.cs i av=s.cs i av∧s'.ents i av=s.ents i av∧s'.elc i av=s.elc i av∧s'.Jb i av=s.Jb i av):
  ∀i av,av≤s.av i→Aa s s' i av:=by
 intro i av hi;obtain⟨h1,h2,h3,h4,h5⟩:=hl i av hi;refine⟨h1,h2,h3,h4,h5,fun n c hc=>apt wf (fun i av h=>⟨(hl i av h).2.2.2.1,(hl i av h).2.2.1⟩) n c ?_⟩;rcases hc with ⟨l,rfl⟩|rfl<;>exact hi
theorem aj9(wf:Wf s){e:mc}{i:Nat}(he:e.Lx i)(hd:Kl s i)(d:Option Nat):∀j av,av≤s.av j→Aa s (e.app d s) j av:=by
 rw[Uz _ _ _ (by cases e<;>first|rfl|exact he.elim)]
 have new:∀{aCo:Nat→Option B} {mp':Nat→Option (List (D×C))} {tmp':Nat→V} {id:Nat},id=i→(∀k,k≠id→aCo k=s.dc k)→(∀k,k≠id→mp' k=s.mp k)→
   ∀j av,av≤s.av j→Aa s ⟨tmp',aCo,l7 s.av id (s.av id+1),mp',s.base,s.ctx⟩ j av:=by
  intro aCo mp' tmp' id hid hb hm;subst hid;refine asy wf fun j av hj=>?_;by_cases e:j=id
  ·subst e;obtain⟨h1,h2,h3,h4,h5⟩:=hd av
   have hne:¬(l7 s.av j (s.av j+1) j=av):=by rw[cu];omega
   refine⟨?_,?_,?_,?_,?_⟩
   ·rw[h1];unfold PS.dm;exact al hne
   ·rw[h2];unfold PS.cs;exact al hne
   ·rw[h3];unfold PS.ents;exact al hne
   ·rw[h4];unfold PS.elc;exact al hne
   rw[h5];unfold PS.Jb;exact al hne
  refine⟨?_,?_,?_,?_,?_⟩<;>simp only[PS.dm,PS.cs,PS.ents,PS.elc,PS.Jb,gj _ _ _ _ e,hb j e,hm j e]
 intro j av hj
 cases e with
 |val v=>exact a5n (s:=s) (s':=⟨mod s.tmp ((mc.val v).tw d),s.dc,s.av,s.mp,s.base,s.ctx⟩) rfl rfl rfl j av
 |set _ _=>exact he.elim
 |grow _ _ _=>exact he.elim
 |Zu _ _=>exact he.elim
 |cut _ _ _=>exact he.elim
 |Iy _ _ _ _=>exact he.elim
 |mem _ _=>exact he.elim
 |new v id b=>exact new he (fun k hk=>gj _ _ _ _ hk) (fun _ _=>rfl) j av hj
 |a2s v id=>exact new he (fun _ _=>rfl) (fun k hk=>gj _ _ _ _ hk) j av hj
 |init v t id cs=>exact new he (fun k hk=>gj _ _ _ _ hk) (fun _ _=>rfl) j av hj
theorem Wx{o:RI}{x:nk}{t:Nat}(hx:x∈o.op.se)(ht:x= .t t):t∈o.looks:=by
 subst ht;unfold RI.looks;exact ab0 _ (Pb.2 ⟨_,hx,by simp[nk.ts]⟩)
theorem as8{o:RI}(h:∀t∈o.looks,s'.tmp t=s.tmp t∧Ja s s' (s.tmp t)):∀x∈o.op.se,Zk s s' x:=by
 intro x hx
 cases x with
 |c y=>exact⟨rfl,trivial⟩
 |t n=>exact h n (Wx hx rfl)
theorem Tt{o:RI}(h:∀t∈o.looks,s'.tmp t=s.tmp t):wanted o s'=wanted o s:=by
 unfold wanted
 cases hg:o.guard with
 |none=>rfl
 |some p=>
  obtain⟨t,b⟩:=p
  have:t∈o.looks:=by unfold RI.looks;rw[hg];simp
  simp only[h t this]
theorem aca{l:List nk}(h:∀x∈l,Zk s s' x):l.map (·.ev s')=l.map (·.ev s):=Dd fun x hx=>(h x hx).1
theorem a2b{f:Nat}{l:List nk}{j2:List D}{own:Bool}{r:D}(hcx:s'.ctx=s.ctx)(h:∀x∈l,Zk s s' x)(hc:adw P f (l.map (·.ev s)) j2 own s r):adw P f (l.map (·.ev s')) j2 own s' r:=by
 obtain⟨ds,h1,h2,h3⟩:=hc;refine⟨ds,by rw[ai0 h];exact h1,by rw[hcx];exact h2,?_⟩;rw[aca h];exact h3
theorem Ja.trans{s1 s2 s3:PS}{v:V}(h:Ja s1 s2 v)(k:Ja s2 s3 v):Ja s1 s3 v:=by
 have lt:∀{i av},Aa s1 s2 i av→Aa s2 s3 i av→Aa s1 s3 i av:=fun a b=>⟨b.dm.trans a.dm,b.cs.trans a.cs,b.ents.trans a.ents,b.elc.trans a.elc,b.Jb.trans a.Jb,fun n c hc=>(b.dp n c hc).trans (a.dp n c hc)⟩
 have ct:∀{c},I0 s1 s2 c→I0 s2 s3 c→I0 s1 s3 c:=by
  intro c a b
  cases c with
  |d x=>trivial
  |_=>exact lt a b
 have bt:∀{i av},Rz s1 s2 i av→Rz s2 s3 i av→Rz s1 s3 i av:=fun a b=>⟨lt a.1 b.1,fun cs Iu c hc=>ct (a.2 cs Iu c hc) (b.2 cs (a.1.cs.trans Iu) c hc)⟩
 cases v with
 |agg cs=>exact fun c hc=>ct (h c hc) (k c hc)
 |Ar cs=>exact fun c hc=>ct (h c hc) (k c hc)
 |oq f ids=>exact fun p hp=>bt (h p hp) (k p hp)
 |ie i v o=>exact bt h k
 |Kr i v l n=>exact bt h k
 |d x=>trivial
 |no=>trivial
 |_=>exact lt h k
theorem Yg{o:RI}(hcx:s'.ctx=s.ctx)(h:∀t∈o.looks,s'.tmp t=s.tmp t∧Ja s s' (s.tmp t))(hbs:s'.base=s.base)(hE:o.op.kind= .write→s'.mem=s.mem)(hv:s'.av (s.base+o.dst.getD 0)=s.av (s.base+o.dst.getD 0))(hi:∀g n x,o.op= .init g n x→s'.dc (s.base+g)=s.dc (s.base+g)∧s'.av (s.base+g)=s.av (s.base+g))
  {ids:List Nat}{e:mc}(ho:O9 P o s ids e):O9 P o s' ids e:=by
 have hs:=as8 h;have hw:=Tt fun t ht=>(h t ht).1;unfold O9 at ho⊢;rw[hw];rcases ho with ho|⟨h0,⟨f,args,r,h1,h2,h3,h4⟩|⟨f,args,g,j2,r,h1,h2,h3,h4,h5⟩|he|⟨f,args,m',r,h1,h2,h3,h4⟩|⟨f,args,g,j2,m',r,h1,h2,h3,h4,h5⟩|⟨f,args,r,h1,h2,h3,h4⟩⟩
 ·exact .inl ho
 ·rw[h1]at hs;exact .inr ⟨h0,.inl ⟨f,args,r,h1,h2,h3,a2b hcx hs h4⟩⟩
 ·rw[h1]at hs;obtain⟨k1,k2⟩:=hs f (by simp[jy.se]);refine .inr ⟨h0,.inr (.inl ⟨f,args,g,j2,r,h1,?_,h3,h4,?_⟩)⟩
  ·rw[k1,a9s k2];exact h2
  rw[k1];exact a2b hcx (fun x hx=>hs x (by simp[jy.se,hx])) h5
 ·exact .inr ⟨h0,.inr (.inr (.inl (by rw[hbs,au8 hE hs hbs hv hi];exact he)))⟩
 ·have hme:=hE (by rw[h1];rfl);rw[h1]at hs;exact .inr ⟨h0,.inr (.inr (.inr (.inl ⟨f,args,m',r,h1,h2,h3,by rw[hme,aca (l:=args) hs];exact h4⟩)))⟩
 ·have hme:=hE (by rw[h1];rfl);rw[h1]at hs;exact .inr ⟨h0,.inr (.inr (.inr (.inr (.inl ⟨f,args,g,j2,m',r,h1,by rw[(hs f (by simp[jy.se])).1];exact h2,h3,h4,by rw[hme,aca fun x hx=>hs x (by simp[jy.se,hx])];exact h5⟩))))⟩
 rw[h1]at hs;refine .inr ⟨h0,.inr (.inr (.inr (.inr (.inr ⟨f,args,r,h1,h2,h3,?_⟩))))⟩;rw[aca (l:=args) hs];intro s2 h2';refine h4 s2 fun x hx=>?_;obtain⟨y,hy,rfl⟩:=gr.1 hx;exact(hs y hy).2.trans (h2' _ hx)
theorem au6{d:Nat}{r:jy}(hk:r.kind= .pure)(ho:∀x∈r.se,x.ev s'=x.ev s):r.p9 d s'=r.p9 d s:=by
 cases r<;>simp only[jy.kind,reduceCtorEq]at hk<;>simp only[jy.se,fb,l8,or_false,forall_eq_or_imp,forall_eq]at ho
 case ji x=>simp only[jy.p9,ho]
 case pick c a b=>simp only[jy.p9,ho.1,ho.2.1,ho.2.2]
 case a0d x i=>simp only[jy.p9,ho.1,ho.2]
 case a2t l n g x i=>simp only[jy.p9,ho.1,ho.2]
 case a0t o n g x=>simp only[jy.p9,ho]
 case bin op x y=>simp only[jy.p9,ho.1,ho.2]
 case eqs ks n x y=>simp only[jy.p9,ho.1,ho.2]
 case beq n x y=>simp only[jy.p9,ho.1,ho.2]
 case un op x=>simp only[jy.p9,ho]
 case conv k x=>simp only[jy.p9,ho]
 case a29 x=>simp only[jy.p9,ho]
 case yy im n sz z ps=>cases im<;>simp at hk
 case ext x i=>simp only[jy.p9,ho]
 case Ep m x y=>simp only[jy.p9,ho.1,ho.2]
theorem aff{o:RI}(hk:o.op.kind= .pure)(hbs:s'.base=s.base)(h:∀t∈o.looks,s'.tmp t=s.tmp t){ids:List Nat}{e:mc}(ho:O9 P o s ids e):O9 P o s' ids e:=by
 have hw:=Tt h;unfold O9 at ho⊢;rw[hw];rcases ho with ho|⟨h0,⟨f,args,r,h1,h2,h3,h4⟩|⟨f,args,g,j2,r,h1,h2,h3,h4,h5⟩|he|⟨f,args,m',r,h1,h2,h3,h4⟩|⟨f,args,g,j2,m',r,h1,h2,h3,h4,h5⟩|⟨f,args,r,h1,h2,h3,h4⟩⟩
 ·exact .inl ho
 ·rw[h1]at hk;cases hk
 ·rw[h1]at hk;cases hk
 rotate_left
 ·rw[h1]at hk;cases hk
 ·rw[h1]at hk;cases hk
 ·rw[h1]at hk;cases hk
 refine .inr ⟨h0,.inr (.inr (.inl ?_))⟩;rw[hbs,au6 hk]
 ·exact he
 intro x hx
 cases x with
 |c y=>rfl
 |t n=>exact h n (Wx hx rfl)
structure aml(x y:RI):Prop where
 kind:x.op.kind.ok y.op.kind=true∨x.soft y=true∨y.soft x=true
 aJ6:∀d∈x.makes,d∉y.ql
 aHl:∀d∈y.makes,d∉x.ql
 aIp:x.isE=true→y.ql=[]
 aEv:y.isE=true→x.ql=[]
 aDf:∀d∈x.ql,d≠y.dst.getD 0
 aDe:∀d∈y.ql,d≠x.dst.getD 0
 w1:∀d,x.writes=some d→d∉y.looks∧y.writes≠some d
 w2:∀d,y.writes=some d→d∉x.looks∧x.writes≠some d
 n1:x.writes=none→x.op.kind≠ .alloc
 n2:y.writes=none→y.op.kind≠ .alloc
theorem RI.ad8{x y:RI}(h:x.ad9 y=true):aml x y:=by
 unfold RI.ad9 RI.far at h;simp only[da,dj,qp,aJq,decide_eq_false_iff_not,bne_iff_ne,ne_eq,Nr,List.isEmpty_iff]at h;obtain⟨⟨⟨⟨⟨⟨h1,h2,h2'⟩,h3,h3'⟩,h4⟩,h5⟩,h6⟩,h7⟩:=h;refine⟨h1,h2,h3,fun he=>h2'.resolve_left (by simp[he]),fun he=>h3'.resolve_left (by simp[he]),h4,h5,fun d hd=>?_,fun d hd=>?_,fun hn=>?_,fun hn=>?_⟩
 ·rw[hd]at h6;simpa using h6
 ·rw[hd]at h7;refine⟨by simpa using h7,fun hx=>?_⟩;rw[hx]at h6;simp at h6;exact h6.2 hd
 ·rw[hn]at h6;simpa using h6
 rw[hn]at h7;simpa using h7
end
section
variable{P:Program}{s s' s1 s2:PS}
theorem Aa.symm{i av:Nat}(h:Aa s s' i av):Aa s' s i av:=⟨h.dm.symm,h.cs.symm,h.ents.symm,h.elc.symm,h.Jb.symm,fun n c hc=>(h.dp n c hc).symm⟩
theorem I0.symm{c:C}(h:I0 s s' c):I0 s' s c:=by cases c<;>first|trivial|exact Aa.symm h
theorem Rz.symm{i av:Nat}(h:Rz s s' i av):Rz s' s i av:=⟨h.1.symm,fun cs Iu c hc=>I0.symm (h.2 cs (h.1.cs.symm.trans Iu) c hc)⟩
theorem Ja.symm{v:V}(h:Ja s s' v):Ja s' s v:=by
 cases v with
 |agg cs=>exact fun c hc=>I0.symm (h c hc)
 |Ar cs=>exact fun c hc=>I0.symm (h c hc)
 |oq f ids=>exact fun p hp=>Rz.symm (h p hp)
 |ie i v o=>exact Rz.symm h
 |Kr i v l n=>exact Rz.symm h
 |d x=>trivial
 |no=>trivial
 |_=>exact Aa.symm h
def Good(o:RI):Prop:=∀g n x,o.op= .init g n x→o.dst=none
def a81(b:Nat)(o:RI)(e:mc):Prop:=(∀i a,e.tw o.dst=some (i,a)→o.writes=some i)∧((∃v,e= .val v)∨∃w,o.writes=some w∧w∈o.ql∧e.Lx (b+w))
theorem Kz{o:RI}(h:∀g n x,o.op≠ .init g n x):o.writes=o.dst:=by
 unfold RI.writes;split
 ·rename_i g n x ho;exact absurd ho (h g n x)
 rfl
theorem a7b{n a:Nat}{v:V}{ids:List Nat}{e:mc}(h:T8 s n a v=some (ids,e)):ids=[]∧((∃x,e= .val x)∨∃x id b,e= .cut x id b∧¬Kl s id):=by
 cases v with
 |d z=>
  cases z<;>simp only[T8,reduceCtorEq]at h<;>(split at h)<;>(first|(cases h;exact⟨rfl,.inl ⟨_,rfl⟩⟩)|cases h)
 |ref id av n0=>
  simp only[T8]at h;split at h
  ·rename_i sz dm he;split at h
   ·cases h;exact⟨rfl,.inr ⟨_,_,_,rfl,fun hd=>by rw[(hd av).1]at he;cases he⟩⟩
   cases h
  cases h
 |_=>simp[T8]at h
theorem ad4{n:Nat}{xs:List C}{v:V}{ids:List Nat}{e:mc}(h:za s n xs v=some (ids,e)):∃id b,e= .set id b:=by
 have c:∀{id av ln i off},F2 s n xs id av ln i off=some (ids,e)→∃id b,e= .set id b:=by
  intro id av ln i off h;unfold F2 at h
  repeat' split at h
  all_goals first|(cases h;done)|(cases h;exact⟨_,_,rfl⟩)
 cases v with
 |ie id av off=>
  simp only[za]at h
  repeat' split at h
  all_goals first|(cases h;done)|(cases h;exact⟨_,_,rfl⟩)
 |Hw id av ln i off=>
  simp only[za]at h;split at h
  ·split at h
   ·split at h
    ·cases h;exact⟨_,_,rfl⟩
    cases h
   exact c h
  exact c h
 |_=>cases h
theorem apr{n:Nat}{x y:V}{ids:List Nat}{e:mc}(h:yk s n x y=some (ids,e)):∃id b id2 b2,e= .Iy id b id2 b2∧s.dc id≠none∧(∃b,s.dc id2=some b∧b.isVar=true):=by
 unfold yk at h;split at h
 ·split at h
  ·rename_i h1 h2;split at h
   ·cases h;exact⟨_,_,_,_,rfl,by rw[h1];simp,_,(ve h2).2,rfl⟩
   cases h
  ·rename_i h1 h2;split at h
   ·cases h;exact⟨_,_,_,_,rfl,by rw[h1];simp,_,(ve h2).2,rfl⟩
   cases h
  cases h
 cases h
theorem Ur{d sz b:Nat}{x y:V}{ids:List Nat}{e:mc}(h:Qz s d sz b x y=some (ids,e)):ids=[]∧((∃v,e= .val v)∨(∃v b,e= .new v d b)∨∃v id b,e= .grow v id b∧¬Kl s id):=by
 unfold Qz at h;split at h
 ·split at h
  ·split at h
   ·split at h
    ·cases h;exact⟨rfl,.inl ⟨_,rfl⟩⟩
    split at h
    ·cases h;exact⟨rfl,.inr (.inl ⟨_,_,rfl⟩)⟩
    cases h
   ·split at h
    ·rename_i he;split at h
     ·cases h;exact⟨rfl,.inr (.inr ⟨_,_,_,rfl,fun hd=>by rw[(hd _).2.2.2.1]at he;cases he⟩)⟩
     cases h
    cases h
   cases h
  cases h
 cases h
theorem a6z{d:Nat}{r:jy}{ids:List Nat}{v:V}{t g:Nat}{cs:List C}(h:r.p9 d s=some (ids,.init v t g cs)):∃n x,r= .init t n x:=by
 cases r<;>simp only[jy.p9,aq]at h
 case init g' n x=>
  repeat' split at h
  all_goals first|(cases h;done)|(simp only[ak,cd,mc.init.injEq]at h;obtain⟨_,_,rfl,_,_⟩:=h;exact⟨_,_,rfl⟩)
 case store n a x=>
  split at h
  ·obtain⟨_,_,h⟩:=ad4 h;cases h
  obtain⟨_,_,_,_,h,_⟩:=apr h;cases h
 case app sz b x y=>
  split at h
  ·split at h
   ·split at h
    ·repeat' split at h
     all_goals(cases h)
    ·split at h
     ·split at h<;>cases h
     rcases(Ur h).2 with ⟨_,h⟩|⟨_,_,h⟩|⟨_,_,_,h,_⟩<;>cases h
    ·split at h
     ·split at h<;>cases h
     cases h
    cases h
   cases h
  rcases(Ur h).2 with ⟨_,h⟩|⟨_,_,h⟩|⟨_,_,_,h,_⟩<;>cases h
 case slice3 n x j k=>
  split at h
  ·split at h
   ·rcases(a7b h).2 with ⟨_,h⟩|⟨_,_,_,h,_⟩<;>cases h
   cases h
  cases h
 all_goals(repeat' split at h)
 all_goals first
  |(cases h;done)
  |(obtain⟨_,_,h⟩:=h;cases h;done)
  |(simp only[aq]at h;obtain⟨_,_,h⟩:=h;cases h;done)
theorem azq{o:RI}{ids:List Nat}{e:mc}(hg:Good o)(hk:o.op.kind≠ .write)(hn:o.writes=none→o.op.kind≠ .alloc)(ho:O9 P o s ids e):ids=[]∧a81 s.base o e:=by
 have val:∀v,e= .val v→a81 s.base o e:=by
  intro v hv;subst hv;refine⟨fun i a hi=>?_,.inl ⟨v,rfl⟩⟩;simp only[mc.tw,aq,cd]at hi;obtain⟨d,hd,rfl,_⟩:=hi;rw[Kz]
  ·exact hd
  intro g n x hx;rw[hg g n x hx]at hd;cases hd
 cases hkk:o.op.kind with
 |pure=>obtain⟨h1,v,h2⟩:=V7 (.inl hkk) ho;exact⟨h1,val v h2⟩
 |read=>obtain⟨h1,v,h2⟩:=V7 (.inr hkk) ho;exact⟨h1,val v h2⟩
 |write=>exact absurd hkk hk
 |alloc=>
  obtain⟨h1,i,h2,h3⟩:=aok hkk ho;refine⟨h1,?_⟩;by_cases hv:∃v,e= .val v
  ·obtain⟨v,hv⟩:=hv;exact val v hv
  rcases h3 with ⟨g,n,x,hx,rfl,htg⟩|⟨hx,rfl⟩
  ·have hd:=hg g n x hx
   have hwr:o.writes=some g:=by unfold RI.writes;rw[hx];simp[hd]
   refine⟨fun j a hj=>?_,.inr ⟨g,hwr,by unfold RI.ql;rw[hx];simp,h2⟩⟩
   cases e with
   |init v t id cs=>simp only[mc.tw,ak,cd]at hj;rw[hwr,←hj.1,htg v t id cs rfl]
   |val v=>exact absurd ⟨v,rfl⟩ hv
   |_=>simp[mc.tw,hd]at hj
  cases hd:o.dst with
  |none=>exact absurd hkk (hn (by rw[Kz hx];exact hd))
  |some d=>
   have hwr:o.writes=some d:=by rw[Kz hx];exact hd
   rw[hd]at h2;simp only[jc]at h2;refine⟨fun j a hj=>?_,.inr ⟨d,hwr,?_,h2⟩⟩
   ·rw[hwr];rw[hd]at hj
    cases e with
    |init v t id cs=>
     rcases ho with ⟨_,_,h⟩|⟨_,⟨_,_,_,_,_,h,_⟩|⟨_,_,_,_,_,_,_,_,h,_⟩|h|⟨_,_,_,_,_,_,h,_⟩|⟨_,_,_,_,_,_,_,_,_,h,_⟩|⟨_,_,_,_,_,h,_⟩⟩
     ·cases h
     ·cases h
     ·cases h
     ·obtain⟨n,x,h⟩:=a6z h;exact absurd h (hx _ n x)
     ·cases h
     ·cases h
     cases h
    |val v=>exact absurd ⟨v,rfl⟩ hv
    |_=>simp only[mc.tw,ir,ak,cd]at hj;exact congrArg some hj.1
   unfold RI.ql;generalize o.op=op at hkk hx;cases op<;>simp only[jy.kind,reduceCtorEq]at hkk<;>simp only[hd,amm,Tc]
   case yy im n sz z ps=>cases im<;>simp at hkk
   case init g n x=>exact absurd rfl (hx g n x)
theorem R6{e:mc}{d:Option Nat}{t:Nat}(h:∀i a,e.tw d=some (i,a)→i≠t):(e.app d s).tmp t=s.tmp t:=by
 rw[aza];show mod s.tmp (e.tw d) t=s.tmp t
 cases ht:e.tw d with
 |none=>rfl
 |some p=>obtain⟨i,a⟩:=p;exact gj _ _ _ _ (aLn (h i a ht))
theorem aou{e:mc}{w:Nat}(h:e.Lx w):(∀i a,e.bw=some (i,a)→i=w)∧(∀i,e.vw=some i→i=w)∧(∀i a,e.mw=some (i,a)→i=w):=by
 cases e with
 |val v=>exact⟨by simp[mc.bw],by simp[mc.vw],by simp[mc.mw]⟩
 |new v id b=>refine⟨?_,?_,?_⟩<;>simp only[mc.bw,mc.vw,mc.mw,ak,cd,reduceCtorEq,false_implies,implies_true]<;>(first|(intro i a hi;rw[←hi.1];exact h)|(intro i hi;rw[←hi];exact h))
 |a2s v id=>refine⟨?_,?_,?_⟩<;>simp only[mc.bw,mc.vw,mc.mw,ak,cd,reduceCtorEq,false_implies,implies_true]<;>(first|(intro i a hi;rw[←hi.1];exact h)|(intro i hi;rw[←hi];exact h))
 |init v t id cs=>refine⟨?_,?_,?_⟩<;>simp only[mc.bw,mc.vw,mc.mw,ak,cd,reduceCtorEq,false_implies,implies_true]<;>(first|(intro i a hi;rw[←hi.1];exact h)|(intro i hi;rw[←hi];exact h))
 |set _ _=>exact h.elim
 |grow _ _ _=>exact h.elim
 |Zu _ _=>exact h.elim
 |cut _ _ _=>exact h.elim
 |Iy _ _ _ _=>exact h.elim
 |mem _ _=>exact h.elim
theorem a08{b:Nat}{o:RI}{e:mc}(h:a81 b o e):(∀i a,e.bw=some (i,a)→∃w,i=b+w∧o.writes=some w∧w∈o.ql)∧(∀i,e.vw=some i→∃w,i=b+w∧o.writes=some w∧w∈o.ql)∧
  (∀i a,e.mw=some (i,a)→∃w,i=b+w∧o.writes=some w∧w∈o.ql)∧e.isM=false:=by
 rcases h.2 with ⟨v,rfl⟩|⟨w,h1,h2,h3⟩
 ·exact⟨by simp[mc.bw],by simp[mc.vw],by simp[mc.mw],rfl⟩
 obtain⟨k1,k2,k3⟩:=aou h3
 exact⟨fun i a hi=>⟨w,k1 i a hi,h1,h2⟩,fun i hi=>⟨w,k2 i hi,h1,h2⟩,fun i a hi=>⟨w,k3 i a hi,h1,h2⟩,by cases e<;>first|rfl|exact h3.elim⟩
theorem ae6(d:Option Nat)(x v:V):Ja s (mc.app d s (.val x)) v:=by
 refine Y5 (s':=mc.app d s (.val x)) (a5n ?_ ?_ ?_) v<;>cases d<;>rfl
theorem a5t{o:RI}{e:mc}(h:a81 s.base o e)(hd:∀d∈o.ql,Kl s (s.base+d))(wf:Wf s){v:V}(hw:VWf s v):Ja s (e.app o.dst s) v:=by
 rcases h.2 with ⟨v',rfl⟩|⟨w,h1,h2,h3⟩
 ·refine Y5 (s':=mc.app o.dst s (.val v')) (a5n ?_ ?_ ?_) v<;>cases o.dst<;>rfl
 exact ai4 (aj9 wf h3 (hd w h2) o.dst) wf.loc hw
theorem a5u{o z:RI}{e:mc}(h:a81 s.base o e)(hz:Good z)(hzE:z.op.kind≠ .write)(hd:∀d∈o.ql,Kl s (s.base+d))(wf:Wf s)(hl:∀w,o.writes=some w→w∉z.looks∧z.writes≠some w)(hs:∀d∈o.ql,d≠z.dst.getD 0){ids:List Nat}{e':mc}:
  O9 P z (e.app o.dst s) ids e'↔O9 P z s ids e':=by
 obtain⟨kb,kv,km,kM⟩:=a08 h;have ht:∀t∈z.looks,(e.app o.dst s).tmp t=s.tmp t:=fun t ht=>R6 fun i a hi hit=>(hl i (h.1 i a hi)).1 (hit▸ht)
 have hv:∀j,(∀i,e.vw=some i→i≠j)→(e.app o.dst s).av j=s.av j:=by
  intro j hj;rw[Uz _ _ _ kM];show inc s.av e.vw j=s.av j
  cases hvw:e.vw with
  |none=>rfl
  |some i=>exact gj _ _ _ _ (aLn (hj i hvw))
 have hb:∀j,(∀i a,e.bw=some (i,a)→i≠j)→(e.app o.dst s).dc j=s.dc j:=by
  intro j hj;rw[Uz _ _ _ kM];show mod s.dc e.bw j=s.dc j
  cases hbw:e.bw with
  |none=>rfl
  |some p=>obtain⟨i,a⟩:=p;exact gj _ _ _ _ (aLn (hj i a hbw))
 have hbs:=Rx o.dst s e
 have slot:(e.app o.dst s).av (s.base+z.dst.getD 0)=s.av (s.base+z.dst.getD 0):=hv _ fun i hi J3=>by
  obtain⟨w,rfl,_,hw⟩:=kv i hi;exact hs w hw (by omega)
 have ini:∀g n x,z.op= .init g n x→(e.app o.dst s).dc (s.base+g)=s.dc (s.base+g)∧(e.app o.dst s).av (s.base+g)=s.av (s.base+g):=by
  intro g n x hx
  have hwz:z.writes=some g:=by unfold RI.writes;rw[hx];simp[hz g n x hx]
  refine⟨hb _ fun i a hi hig=>?_,hv _ fun i hi hig=>?_⟩
  ·obtain⟨w,rfl,hw,_⟩:=kb i a hi
   have:w=g:=by omega
   subst this;exact(hl w hw).2 hwz
  obtain⟨w,rfl,hw,_⟩:=kv i hi
  have:w=g:=by omega
  subst this;exact(hl w hw).2 hwz
 constructor
 ·intro ho;refine Yg (s:=e.app o.dst s) (s':=s) (Zh _ _ _).symm (fun t htl=>⟨(ht t htl).symm,?_⟩) hbs.symm (fun hh=>absurd hh hzE) (by rw[hbs];exact slot.symm) (fun g n x hx=>by rw[hbs];exact⟨(ini g n x hx).1.symm,(ini g n x hx).2.symm⟩) ho;rw[ht t htl];exact(a5t h hd wf (wf.tmp t)).symm
 intro ho;exact Yg (Zh _ _ _) (fun t htl=>⟨ht t htl,a5t h hd wf (wf.tmp t)⟩) hbs (fun hh=>absurd hh hzE) slot ini ho
theorem ag8{o:RI}{ids:List Nat}{e:mc}(hk:o.op.kind= .write)(ho:O9 P o s ids e):o.writes=o.dst∧∀i a,e.tw o.dst=some (i,a)→o.writes=some i:=by
 have hx:∀g n x,o.op≠ .init g n x:=by intro g n x h;rw[h]at hk;cases hk
 have hw:=Kz hx;refine⟨hw,fun i a hi=>?_⟩;rw[hw]
 have:∀v t g cs,e≠ .init v t g cs:=by
  intro v t g cs he;subst he;rcases ho with ⟨_,_,h⟩|⟨_,⟨_,_,_,_,_,h,_⟩|⟨_,_,_,_,_,_,_,_,h,_⟩|h|⟨_,_,_,_,_,_,h,_⟩|⟨_,_,_,_,_,_,_,_,_,h,_⟩|⟨_,_,_,_,_,h,_⟩⟩
  ·cases h
  ·cases h
  ·cases h
  ·obtain⟨n,x,h⟩:=a6z h;exact hx t n x h
  ·cases h
  ·cases h
  cases h
 cases hd:o.dst with
 |none=>rw[hd]at hi;cases e<;>first|(simp[mc.tw]at hi;done)|exact absurd rfl (this _ _ _ _)
 |some d=>rw[hd]at hi;cases e<;>first|(simp only[mc.tw,ir,ak,cd]at hi;rw[hi.1];done)|exact absurd rfl (this _ _ _ _)
theorem Zg{e:mc}{d1 d2:Option Nat}{v:V}{ids:List Nat}(ht:∀i a j b,e.tw d1=some (i,a)→(mc.val v).tw d2=some (j,b)→i≠j):
  (mc.val v).app d2 (e.app d1 (s.uu ids))=e.app d1 ((s.put d2 v).uu ids):=by
 rw[ax0]
 cases hM:e.isM with
 |false=>exact ahg (e2:= .val v) (d2:=d2) ht (by simp[mc.bw]) (by simp[mc.vw]) (by simp[mc.mw]) hM rfl
 |true=>
  cases e with
  |mem m r=>
   cases d1 with
   |none=>cases d2<;>rfl
   |some i=>
    cases d2 with
    |none=>rfl
    |some j=>
     have J3:=ht i r j v rfl rfl
     have e:∀(f:Nat→V),l7 (l7 f i r) j v=l7 (l7 f j v) i r:=by
      intro f
      funext k
      simp only[aj]
      split<;>split<;>first|rfl|(subst_vars;exact absurd rfl J3)
     show PS.mk _ _ _ _ _ _=PS.mk _ _ _ _ _ _
     congr 1
     exact e _
  |Iy id b id2 b2=>
   cases d1 with
   |none=>cases d2<;>rfl
   |some i=>
    cases d2 with
    |none=>rfl
    |some j=>
     have J3:=ht i .no j v rfl rfl
     have e:∀(f:Nat→V),l7 (l7 f i .no) j v=l7 (l7 f j v) i .no:=by
      intro f
      funext k
      simp only[aj]
      split<;>split<;>first|rfl|(subst_vars;exact absurd rfl J3)
     show PS.mk _ _ _ _ _ _=PS.mk _ _ _ _ _ _
     congr 1
     exact e _
  |_=>cases hM
theorem R9{x y:RI}(h:x.soft y=true):∃n m j k n' a v,x.op= .Hx n m j k∧y.op= .store n' a v∧n'≠1:=by
 unfold RI.soft at h;split at h
 ·rename_i h1 h2;exact⟨_,_,_,_,_,_,_,h1,h2,by simpa using h⟩
 cases h
theorem abg{id:Nat}{b b':B}(d:Option Nat)(hb:s.dc id=some b)(hd:b'.De=b.De):∀i av,(mc.app d s (.set id b')).Jb i av=s.Jb i av:=by
 intro i av
 have e1:(mc.app d s (.set id b')).av=s.av:=by cases d<;>rfl
 have e2:(mc.app d s (.set id b')).dc=l7 s.dc id (some b'):=by cases d<;>rfl
 unfold PS.Jb;rw[e1,e2];by_cases hi:i=id
 ·subst hi;rw[cu,hb];simp only[hd]
 rw[aj,al hi]
theorem Z9{n id av ln i off:Nat}{xs:List C}{ids:List Nat}{e:mc}(d:Option Nat)(h:F2 s n xs id av ln i off=some (ids,e)):ids=[]∧∀i av,(e.app d s).Jb i av=s.Jb i av:=by
 unfold F2 at h;split at h
 ·rename_i sz dm he;split at h
  ·split at h
   ·cases h;obtain⟨_,b,hb,hd,_⟩:=Kd he;exact⟨rfl,abg d hb (by rw[hd];simp[B.De])⟩
   cases h
  cases h
 cases h
theorem ah2{n:Nat}{xs:List C}{v:V}{ids:List Nat}{e:mc}(d:Option Nat)(h:za s n xs v=some (ids,e)):ids=[]∧∀i av,(e.app d s).Jb i av=s.Jb i av:=by
 cases v with
 |ie id av off=>
  simp only[za]at h;split at h
  ·rename_i cs Iu;split at h
   ·cases h;exact⟨rfl,abg d (ve Iu).2 rfl⟩
   cases h
  cases h
 |Hw id av ln i off=>
  simp only[za]at h;split at h
  ·rename_i sz dm he;split at h
   ·split at h
    ·cases h;exact⟨rfl,abg d (yj he).2 (by simp[B.De])⟩
    cases h
   exact Z9 d h
  exact Z9 d h
 |_=>cases h
theorem aa5{o:RI}{ids:List Nat}{e:mc}{n:Nat}{a v:nk}(ho:o.op= .store n a v)(hn:n≠1)(h:O9 P o s ids e):∀i av,(e.app o.dst (s.uu ids)).Jb i av=s.Jb i av:=by
 have val:∀x:V,ids=[]→e= .val x→∀i av,(e.app o.dst (s.uu ids)).Jb i av=s.Jb i av:=by
  rintro x rfl rfl i av;cases o.dst<;>rfl
 rcases h with ⟨_,h1,h2⟩|⟨_,⟨f,args,r,h1,_⟩|⟨f,args,g,j2,r,h1,_⟩|he|hsp⟩
 ·exact val _ h1 h2
 ·rw[ho]at h1;cases h1
 ·rw[ho]at h1;cases h1
 ·rw[ho]at he;simp only[jy.p9]at he;split at he
  ·obtain⟨rfl,h2⟩:=ah2 o.dst he;exact h2
  exfalso;unfold yk at he;split at he
  ·split at he
   ·split at he
    ·rename_i hq;exact hn hq.1
    cases he
   ·split at he
    ·rename_i hq;exact hn hq.1
    cases he
   cases he
  cases he
 rcases hsp with ⟨_,_,_,_,h1,_⟩|⟨_,_,_,_,_,_,h1,_⟩|⟨_,_,_,h1,_⟩<;>(rw[ho]at h1;cases h1)
theorem afe{o:RI}{n:Nat}{x j k:nk}(ho:o.op= .Hx n x j k)(hbs:s'.base=s.base)(hel:∀i av,s'.Jb i av=s.Jb i av)(h:∀t∈o.looks,s'.tmp t=s.tmp t){ids:List Nat}{e:mc}(hq:O9 P o s ids e):O9 P o s' ids e:=by
 have hw:=Tt h;unfold O9 at hq⊢;rw[hw];rcases hq with hq|⟨h0,⟨f,args,r,h1,_⟩|⟨f,args,g,j2,r,h1,_⟩|he|hsp⟩
 ·exact .inl hq
 ·rw[ho]at h1;cases h1
 ·rw[ho]at h1;cases h1
 ·refine .inr ⟨h0,.inr (.inr (.inl ?_))⟩
  have ev:∀y∈o.op.se,y.ev s'=y.ev s:=fun y hy=>by
   cases y with
   |c z=>rfl
   |t m=>exact h m (Wx hy rfl)
  rw[ho]at he ev⊢;simp only[jy.se,fb,l8,or_false,forall_eq_or_imp,forall_eq]at ev;rw[hbs];simp only[jy.p9,ev.1,ev.2.1,ev.2.2,hel]at he⊢;exact he
 rcases hsp with ⟨_,_,_,_,h1,_⟩|⟨_,_,_,_,_,_,h1,_⟩|⟨_,_,_,h1,_⟩<;>(rw[ho]at h1;cases h1)
theorem swap{x y:RI}(hc:aml x y)(gx:Good x)(gy:Good y)(wf:Wf s)(dx:∀d∈x.ql,Kl s (s.base+d))(dy:∀d∈y.ql,Kl s (s.base+d))(h1:Stp P x s s1)(h2:Stp P y s1 s2):∃s1',Stp P y s s1'∧Stp P x s1' s2:=by
 obtain⟨i1,e1,o1,rfl⟩:=h1;obtain⟨i2,e2,o2,rfl⟩:=h2;have hkk:=hc.kind;by_cases kx:x.op.kind= .write
 ·have ky:y.op.kind= .pure∨y.soft x=true:=by
   rcases hkk with hkk|hkk|hkk
   ·rw[kx]at hkk
    cases h:y.op.kind<;>rw[h]at hkk<;>first|exact .inl rfl|cases hkk
   ·obtain⟨_,_,_,_,_,_,_,h,_⟩:=R9 hkk;rw[h]at kx;cases kx
   exact .inr hkk
  have kr:y.op.kind= .pure∨y.op.kind= .read:=by
   rcases ky with ky|ky
   ·exact .inl ky
   obtain⟨_,_,_,_,_,_,_,h,_⟩:=R9 ky;exact .inr (by rw[h];rfl)
  obtain⟨w1,w2⟩:=ag8 kx o1;obtain⟨rfl,v,rfl⟩:=V7 kr o2
  have hyd:y.writes=y.dst:=Kz (fun g n z h=>by rw[h]at kr;rcases kr with kr|kr<;>cases kr)
  have ht:∀t∈y.looks,(e1.app x.dst (s.uu i1)).tmp t=s.tmp t:=fun t htl=>by
   rw[R6 fun i a hi hit=>(hc.w1 i (w2 i a hi)).1 (hit▸htl),a3w]
  have hb1:(e1.app x.dst (s.uu i1)).base=s.base:=by rw[Rx,(Ga i1 s).1]
  have oy:O9 P y s [] (.val v):=by
   rcases ky with ky|ky
   ·exact aff ky hb1.symm (fun t htl=>(ht t htl).symm) o2
   obtain⟨_,_,_,_,_,_,_,h1,h2,h3⟩:=R9 ky;exact afe h1 hb1.symm (fun i av=>(aa5 h2 h3 o1 i av).symm) (fun t htl=>(ht t htl).symm) o2
  refine⟨_,⟨[],.val v,oy,rfl⟩,i1,e1,?_,?_⟩
  ·have htx:∀t∈x.looks,(mc.app y.dst s (.val v)).tmp t=s.tmp t:=fun t htl=>R6 fun i a hi hit=>by
    simp only[mc.tw,aq,cd]at hi;obtain⟨d,hd,rfl,_⟩:=hi;exact(hc.w2 d (hyd.trans hd)).1 (hit▸htl)
   exact Yg (s:=s) (Zh _ _ _) (fun t htl=>⟨htx t htl,ae6 _ _ _⟩) rfl (fun _=>rfl) rfl (fun _ _ _ _=>⟨rfl,rfl⟩) o1
  exact Zg fun i a j b hi hj J3=>by
   simp only[mc.tw,aq,cd]at hj;obtain⟨d,hd,rfl,_⟩:=hj;exact(hc.w1 i (w2 i a hi)).2 (J3▸(hyd.trans hd))
 obtain⟨rfl,l1⟩:=azq gx kx hc.n1 o1;by_cases ky:y.op.kind= .write
 ·have kx':x.op.kind= .pure∨x.soft y=true:=by
   rcases hkk with hkk|hkk|hkk
   ·rw[ky]at hkk
    cases h:x.op.kind<;>rw[h]at hkk<;>first|exact .inl rfl|cases hkk
   ·exact .inr hkk
   obtain⟨_,_,_,_,_,_,_,h,_⟩:=R9 hkk;rw[h]at ky;cases ky
  have kr:x.op.kind= .pure∨x.op.kind= .read:=by
   rcases kx' with kx'|kx'
   ·exact .inl kx'
   obtain⟨_,_,_,_,_,_,_,h,_⟩:=R9 kx';exact .inr (by rw[h];rfl)
  obtain⟨w1,w2⟩:=ag8 ky o2;obtain⟨_,v,rfl⟩:=V7 kr o1
  have hxd:x.writes=x.dst:=Kz (fun g n z h=>by rw[h]at kr;rcases kr with kr|kr<;>cases kr)
  have hty:∀t∈y.looks,(mc.app x.dst s (.val v)).tmp t=s.tmp t:=fun t htl=>R6 fun i a hi hit=>by
   simp only[mc.tw,aq,cd]at hi;obtain⟨d,hd,rfl,_⟩:=hi;exact(hc.w1 d (hxd.trans hd)).1 (hit▸htl)
  have oy:O9 P y s i2 e2:=Yg (s:=mc.app x.dst s (.val v)) (s':=s) (Zh _ _ _).symm (fun t htl=>⟨(hty t htl).symm,(ae6 _ _ _).symm⟩) rfl (fun _=>rfl) rfl (fun _ _ _ _=>⟨rfl,rfl⟩) o2;refine⟨_,⟨i2,e2,oy,rfl⟩,[],.val v,?_,?_⟩
  ·have ht:∀t∈x.looks,(e2.app y.dst (s.uu i2)).tmp t=s.tmp t:=fun t htl=>by
    rw[R6 fun i a hi hit=>(hc.w2 i (w2 i a hi)).1 (hit▸htl),a3w]
   rcases kx' with kx'|kx'
   ·exact aff kx' (by rw[Rx,(Ga i2 s).1]) ht o1
   obtain⟨_,_,_,_,_,_,_,h1,h2,h3⟩:=R9 kx';exact afe h1 (by rw[Rx,(Ga i2 s).1]) (aa5 h2 h3 oy) ht o1
  exact(Zg fun i a j b hi hj J3=>by
   simp only[mc.tw,aq,cd]at hj;obtain⟨d,hd,rfl,_⟩:=hj
   exact(hc.w2 i (w2 i a hi)).2 (J3▸(hxd.trans hd))).symm
 obtain⟨rfl,l2⟩:=azq gy ky hc.n2 o2;have hb1:=Rx x.dst s e1
 have l2':a81 s.base y e2:=by
  have:(mc.app x.dst s e1).base=s.base:=hb1;change a81 (mc.app x.dst (s.uu []) e1).base y e2 at l2
  rwa[show(mc.app x.dst (s.uu []) e1).base=s.base from hb1]at l2
 have oy:O9 P y s [] e2:=(a5u l1 gy ky dx wf hc.w1 hc.aDf).1 o2;have ox:O9 P x (e2.app y.dst s) [] e1:=(a5u l2' gx kx dy wf hc.w2 hc.aDe).2 o1;refine⟨_,⟨[],e2,oy,rfl⟩,[],e1,ox,?_⟩;show e2.app y.dst (e1.app x.dst s)=e1.app x.dst (e2.app y.dst s);obtain⟨b1,v1,m1,M1⟩:=a08 l1;obtain⟨b2,v2,m2,M2⟩:=a08 l2'
 have off:∀{p q:Nat},x.writes=some p→y.writes=some q→s.base+p≠s.base+q:=by
  intro p q hp hq hpq
  have:p=q:=by omega
  subst this;exact(hc.w1 p hp).2 hq
 exact ahg (fun i a j b hi hj J3=>(hc.w1 i (l1.1 i a hi)).2 (J3▸l2.1 j b hj)) (fun i a j b hi hj=>by obtain⟨p,rfl,hp,_⟩:=b1 i a hi;obtain⟨q,rfl,hq,_⟩:=b2 j b hj;exact off hp hq)
  (fun i j hi hj=>by obtain⟨p,rfl,hp,_⟩:=v1 i hi;obtain⟨q,rfl,hq,_⟩:=v2 j hj;exact off hp hq) (fun i a j b hi hj=>by obtain⟨p,rfl,hp,_⟩:=m1 i a hi;obtain⟨q,rfl,hq,_⟩:=m2 j b hj;exact off hp hq) M1 M2
end
section
variable{P:Program}{B0 nt:Nat}{w0 w w':World}{G0 G G':gq}{s s':PS}{E E':Env}{a:Act}
theorem a02(ids:List Nat):∀(s:PS) (i:Nat),(s.uu ids).dc i=(if i∈ids then none else s.dc i)∧(s.uu ids).mp i=(if i∈ids then none else s.mp i):=by
 induction ids with
 |nil=>intro s i;simp[PS.uu]
 |cons j r ih=>
  intro s i;obtain⟨h1,h2⟩:=ih (s.Ip j) i;rw[PS.Mg,h1,h2];by_cases e:i=j
  ·subst e;simp[PS.Ip,cu]
  simp[PS.Ip,gj _ _ _ _ e,e]
theorem aqc:∀{dm:List (List C)} {ds:List (List D)},a2g dm=some ds→dm=ds.map fun e=>e.map .d:=by
 intro dm
 induction dm with
 |nil=>intro ds h;simp only[a2g,ak]at h;subst h;rfl
 |cons e r ih=>
  intro ds h;simp only[a2g]at h;split at h
  ·rename_i x l h1 h2
   injection h with h
   subst h;rw[ih h2,Ry h1];rfl
  cases h
def ape(s:PS)(ids:List Nat):B→B
 | .loc cs=> .loc (cs.map (C.xc s ids))
 | .qi sz dm=>Yl (.qi sz (dm.map fun e=>e.map (C.xc s ids)))
 |b=>b
theorem a1o(sz:Nat)(dm:List (List C)):(∃ds,Yl (.qi sz dm)= .arr sz ds∧dm=ds.map fun e=>e.map .d)∨Yl (.qi sz dm)= .qi sz dm:=by
 cases h:a2g dm with
 |some ds=>exact .inl ⟨ds,by simp only[Yl,h],aqc h⟩
 |none=>exact .inr (by simp only[Yl,h])
theorem aak(s:PS)(ids:List Nat)(sz:Nat)(dm:List (List C)):ape s ids (.qi sz dm)=Yl (.qi sz (dm.map fun e=>e.map (C.xc s ids))):=by simp only[ape]
theorem agm(s:PS)(ids:List Nat)(b:B):(ape s ids b).De=b.De∧(ape s ids b).isVar=b.isVar:=by
 cases b with
 |qi sz dm=>
  rw[aak];rcases a1o sz (dm.map fun e=>e.map (C.xc s ids))with ⟨ds,e1,e2⟩|e1
  ·rw[e1];have:=congrArg Gz e2;simp only[ag]at this;exact⟨by simp[B.De,this],rfl⟩
  rw[e1];exact⟨by simp[B.De],rfl⟩
 |_=>exact⟨rfl,rfl⟩
theorem jf.xc(h:jf B0 w0 nt G0 s G E a w)(ids:List Nat):∃G',G.le G'∧jf B0 w0 nt G0 (s.xc ids) G' E a w:=by
 cases ids with
 |nil=>exact⟨G,gq.la _,h⟩
 |cons i0 r0=>
  generalize Vu:i0::r0=ids;obtain⟨G',hle,h',hg⟩:=h.uu ids;refine⟨G',hle,?_⟩
  have hf:s.xc ids=PS.uu ids {s with tmp:=fun t=>(s.tmp t).xc s ids,dc:=fun i=>(s.dc i).map (ape s ids),mp:=fun i=>(s.mp i).map fun es=>es.map fun e=>(e.1,C.xc s ids e.2)}:=by
   subst Vu;show PS.uu _ _=PS.uu _ _
   congr 1
   congr 1
   funext i
   cases s.dc i with
   |none=>rfl
   |some b=>cases b<;>rfl
  generalize hs2:s.xc ids=s2 at hf⊢
  have aGr:∀t,s2.tmp t=(s.tmp t).xc s ids:=fun t=>by rw[hf,a3w]
  have nh:∀i,s2.av i=s.av i:=fun i=>by rw[hf,PS.a3v]
  have hmp:∀i es,s2.mp i=some es→∃es0,(s.uu ids).mp i=some es0∧s.mp i=some es0∧es=es0.map fun e=>(e.1,C.xc s ids e.2):=by
   intro i es hi;rw[hf,(a02 ids _ i).2]at hi;split at hi
   ·cases hi
   rename_i hni;simp only[aq]at hi;obtain⟨es0,h0,rfl⟩:=hi;exact⟨es0,by rw[(a02 ids s i).2,al hni];exact h0,h0,rfl⟩
  have hblk:∀i b,s2.dc i=some b→i∉ids∧∃b0,s.dc i=some b0∧b=ape s ids b0:=by
   intro i b hb;rw[hf,(a02 ids _ i).1]at hb;split at hb
   ·cases hb
   rename_i hi;simp only[aq]at hb;obtain⟨b0,h0,rfl⟩:=hb;exact⟨hi,b0,h0,rfl⟩
  have hm:Ia E E s s2:=by
   refine⟨fun i=>by rw[nh];exact ay _,fun i sz n' _ hb=>?_,fun i b _ hb hva=>?_,fun i _ hp=>?_⟩
   ·obtain⟨b,hb,hd⟩:=ayw hb;obtain⟨_,b0,h0,rfl⟩:=hblk i _ hb;rw[(agm s ids b0).1]at hd;exact⟨n',(xj h0).trans hd,ay _,fun _=>⟨rfl,rfl⟩⟩
   ·obtain⟨_,b0,h0,rfl⟩:=hblk i _ hb;rw[(agm s ids b0).2]at hva;exact⟨⟨b0,h0,hva⟩,rfl⟩
   obtain⟨es,he⟩:=ke.1 hp;obtain⟨es0,_,h0,_⟩:=hmp i es he;exact⟨by rw[h0];rfl,rfl⟩
  have cell:∀(c:C) (u:Value),yq G E s c u→yq G' E s2 (c.xc s ids) u:=by
   intro c u hc
   cases c with
   |d x=>exact i6.mono hle hc
   |ref id av len=>
    simp only[C.xc];split
    ·rename_i hid;split
     ·rename_i sz dm he;split
      ·rename_i hl;obtain⟨e1,e2⟩:=yj he;subst hl;exact(hg id hid).1 sz dm av u e2 e1 hc
      exact iw.Dw hle hm (c:= .ref id av len) hc
     exact iw.Dw hle hm (c:= .ref id av len) hc
    exact iw.Dw hle hm (c:= .ref id av len) hc
   |l9 id av=>
    simp only[C.xc];split
    ·rename_i hid;split
     ·rename_i ds he;simp only[ahn]at he;obtain⟨es,he,hds⟩:=he;obtain⟨e1,e2⟩:=Fi he;exact(hg id hid).2 es ds av u e2 hds e1 hc
     exact iw.Dw hle hm (c:= .l9 id av) hc
    exact iw.Dw hle hm (c:= .l9 id av) hc
   |ptr id av off=>exact iw.Dw hle hm (c:= .ptr id av off) hc
  have a0g:s2.ctx=s.ctx:=by rw[hf,(Ga ids _).2]
  refine⟨h'.size,h'.defers,h'.base,h'.below.M8 (by rw[a0g,(Ga ids s).2];exact id),h'.gok,h'.gle,h'.J4,fun t=>?_,fun i b hb=>?_,fun i j bi bj hi hj J3=>?_,fun i es hi=>?_,fun i j bi bj hi hj J3=>?_,fun p=>by rw[a0g];exact iw.move hle hm (h.ctx p),fun p=>by rw[a0g];exact h.tb p⟩
  ·rw[aGr];have hv:=h.tmp t;generalize s.tmp t=x at hv⊢
   cases x with
   |ref id av len=>exact cell (.ref id av len) _ hv
   |l9 id av=>exact cell (.l9 id av) _ hv
   |agg cs=>
    obtain⟨vs,e1,e2,e3⟩:=F4.1 hv;rw[e1];refine aly ⟨by simpa using e2,fun i c u hc hu=>?_⟩;simp only[cy,aq]at hc;obtain⟨c0,hc0,rfl⟩:=hc;exact cell c0 u (e3 i c0 u hc0 hu)
   |Ar cs=>
    obtain⟨vs,e1,e2,e3⟩:=Kk.1 hv;rw[e1];refine Kk.2 ⟨vs,rfl,by simpa using e2,fun i c u hc hu=>?_⟩;simp only[cy,aq]at hc;obtain⟨c0,hc0,rfl⟩:=hc;exact cell c0 u (e3 i c0 u hc0 hu)
   |d x=>exact iw.move hle hm hv
   |ie _ _ _=>exact iw.move hle hm hv
   |Hw _ _ _ _ _=>exact iw.move hle hm hv
   |oq _ _=>exact iw.move hle hm hv
   |Kr _ _ _ _=>exact iw.move hle hm hv
   |Hx _ _ _ _=>exact iw.move hle hm hv
   |win _ _ _ _ _=>exact iw.move hle hm hv
   |no=>trivial
  ·obtain⟨hni,b0,hb0,rfl⟩:=hblk i b hb;have key:∀o,G'.cv (E.b i) o=none:=(h'.dc i b0 (by rw[(a02 ids s i).1,al hni];exact hb0)).2.1;obtain⟨k1,_,cells,et,k3,k4,k5⟩:=h.dc i _ hb0
   cases b0 with
   |arr sz dm=>exact⟨k1,key,cells,et,k3,k4,k5.1,k5.2.1,fun i e j x u p q r=>(k5.2.2 i e j x u p q r).mono hle⟩
   |Sd n=>exact⟨k1,key,cells,et,k3,k4,k5⟩
   |loc cs=>
    refine⟨k1,key,cells,et,k3,k4,by simpa using k5.1,fun j c u hc hu=>?_⟩;simp only[cy,aq]at hc;obtain⟨c0,hc0,rfl⟩:=hc;exact cell c0 u (k5.2 j c0 u hc0 hu)
   |qi sz dm=>
    have hh:Holds G' E s2 cells (.qi sz (dm.map fun e=>e.map (C.xc s ids))):=by
     refine⟨by simpa using k5.1,fun q e hq=>?_,fun q e p c u hq hp hu=>?_⟩
     ·simp only[cy,aq]at hq;obtain⟨e0,he0,rfl⟩:=hq;simpa using k5.2.1 q e0 he0
     simp only[cy,aq]at hq;obtain⟨e0,he0,rfl⟩:=hq;simp only[cy,aq]at hp;obtain⟨c0,hc0,rfl⟩:=hp;exact cell c0 u (k5.2.2 q e0 p c0 u he0 hc0 hu)
    rw[aak];rcases a1o sz (dm.map fun e=>e.map (C.xc s ids))with ⟨ds,e1,e2⟩|e1
    ·rw[e1];rw[e2]at hh;exact⟨k1,key,cells,et,k3,k4,hh.toD⟩
    rw[e1];exact⟨k1,key,cells,et,k3,k4,hh⟩
  ·have un:∀i b,s2.dc i=some b→∃b0,s.dc i=some b0:=fun i b hb=>by
    obtain⟨_,b0,h0,_⟩:=hblk i b hb;exact⟨b0,h0⟩
   obtain⟨b0,k0⟩:=un i bi hi;obtain⟨b1,k1⟩:=un j bj hj;exact h.inj i j b0 b1 k0 k1 J3
  ·obtain⟨es0,q0,q1,rfl⟩:=hmp i es hi;obtain⟨h1,h2,ents,clock,h3,h4,h5,h6⟩:=h'.mp i es0 q0;obtain⟨_,_,aao,ada,h3',_,h5',_⟩:=h.mp i es0 q1;rw[h3]at h3';simp only[ak,Obj.map.injEq]at h3';obtain⟨rfl,rfl⟩:=h3';refine⟨h1,h2,ents,clock,h3,by simpa using h4,fun k e x hx hy=>?_,h6⟩;simp only[cy,aq]at hx;obtain⟨e0,he0,rfl⟩:=hx;exact⟨(h5 k e0 x he0 hy).1,cell _ _ (h5' k e0 x he0 hy).2⟩
  obtain⟨_,q0,_,_⟩:=hmp i bi hi;obtain⟨_,q1,_,_⟩:=hmp j bj hj;exact h'.Rg i j _ _ q0 q1 J3
theorem yq.wf{c:C}{u:Value}(h:yq G E s c u):CWf s c:=by
 cases c with
 |d x=>trivial
 |ref id av len=>exact h.1
 |l9 id av=>exact h.1
 |ptr id av off=>exact h.1
theorem iw.wf{x:V}{v:Value}(hv:iw G E s x v):VWf s x:=by
 have cells:∀{cs:List C} {vs:Array Value},vs.size=cs.length→(∀(i:Nat) (c:C) (u:Value),cs[i]? =some c→vs[i]? =some u→yq G E s c u)→∀c∈cs,CWf s c:=by
  intro cs vs e2 e3 c hc;obtain⟨i,hi,rfl⟩:=gf.1 hc;exact(e3 i cs[i] vs[i] (ax hi) (bh (by omega))).wf
 cases x with
 |ref id av len=>exact hv.1
 |l9 id av=>exact hv.1
 |ie _ _ _=>exact hv.1
 |Hw _ _ _ _ _=>exact hv.1
 |oq _ _=>exact hv.1
 |agg cs=>obtain⟨vs,e1,e2,e3⟩:=F4.1 hv;exact cells e2 e3
 |Ar cs=>obtain⟨vs,e1,e2,e3⟩:=Kk.1 hv;exact cells e2 e3
 |Kr _ _ _ _=>exact hv.1
 |Hx _ _ _ _=>exact hv.2.1
 |win _ _ _ _ _=>exact hv.2.1
 |d x=>trivial
 |no=>trivial
theorem jf.wf(h:jf B0 w0 nt G0 s G E a w):Wf s:=by
 refine⟨fun t=>(h.tmp t).wf,fun id cs hb c hc=>?_,fun id sz dm hb e he c hc=>?_,fun id es hi e he=>?_⟩
 ·obtain⟨_,_,cells,et,_,_,k5,k6⟩:=h.dc id _ hb;obtain⟨i,hi,rfl⟩:=gf.1 hc;exact(k6 i cs[i] cells[i] (ax hi) (bh (by omega))).wf
 ·obtain⟨_,_,cells,et,_,_,k5,k6,k7⟩:=h.dc id _ hb;obtain⟨i,hi,rfl⟩:=gf.1 he;obtain⟨j,hj,rfl⟩:=gf.1 hc;have hl:=k6 i _ (ax hi);have:=a0c hi (by omega:j<sz);exact(k7 i dm[i] j dm[i][j] cells[i*sz+j] (ax hi) (ax hj) (bh (by omega))).wf
 obtain⟨_,_,ents,_,_,k4,k5,_⟩:=h.mp id es hi;obtain⟨i,hi,rfl⟩:=gf.1 he;exact(k5 i es[i] ents[i] (ax hi) (bh (by omega))).2.wf
theorem R4:iw G E s (.d (.Ar [])) undef:=i6.Ar rfl (by simp)
theorem aqp(h:jf B0 w0 nt G0 s G E a w){an:Ann}{ops:Array Oper}{o:Oper}{ri:RI}(hf:Fits P nt an ops o ri){s1:PS}(tn:Stp P ri s s1):∃G E a w,jf B0 w0 nt G0 s1 G E a w:=by
 obtain⟨ids,e,ho,rfl⟩:=tn
 have a1w:wanted ri s=some false∨wanted ri s=some true:=by rcases ho with ⟨h,_⟩|⟨h,_⟩<;>simp[h]
 rcases a1w with hw|hw
 ·rcases ho with ⟨_,rfl,rfl⟩|⟨h,_⟩
  ·obtain⟨hd,hd2,_⟩:=hf.spec;exact⟨G,E,_,w,h.a8m (x:= .d (.Ar [])) (v:=undef) (by rw[hd];exact hd2) R4⟩
  rw[hw]at h;cases h
 have hr:=aa6 hw ho;have hwp:=Ty h hf (next:=fun a w=>Lq B0 nt w0 G0 (· =e.app ri.dst (s.uu ids)) a w) (Q:=fun _ _ _=>False) hr (fun _ _ h=>h)
 have fin:∀a w,Lq B0 nt w0 G0 (· =e.app ri.dst (s.uu ids)) a w→∃G E a w,jf B0 w0 nt G0 (e.app ri.dst (s.uu ids)) G E a w:=by
  rintro a w ⟨s',G',E',rfl,hh⟩;exact⟨G',E',a,w,hh⟩
 unfold aLz at hwp;generalize(execOp a.eval o).run P w=res at hwp
 cases res with
 |halt x w'=>cases x<;>exact hwp.elim
 |ok n w'=>
  cases n<;>simp only[Oper.upon]at hwp
  case value v=>exact fin _ _ hwp
  case skip=>exact fin _ _ hwp
  case defer d=>exact fin _ _ hwp
  case enter f args=>
   obtain⟨e',w'',fr,hR,_⟩:=hwp []
   cases e' with
   |returned v=>exact fin _ _ hR
   |panicked c=>exact hR.elim
   |outgrown=>obtain⟨_,_,hh⟩:=hR;exact hh.elim
  case row r args=>
   obtain⟨v,w'',hR,_⟩:=hwp default [];exact fin _ _ hR
end
section
variable{P:Program}{B0 nt:Nat}{w0 w w':World}{G0 G G':gq}{s s' s1 s2:PS}{E E':Env}{a:Act}
theorem Us{d:Nat}:Kl s d↔(s.dc d=none∨∃n,s.dc d=some (.Sd n))∧s.mp d=none:=by
 constructor
 ·intro h;obtain⟨h1,h2,h3,h4,_⟩:=h (s.av d);simp only[PS.dm,PS.cs,PS.ents,PS.elc,cz]at h1 h2 h3 h4;refine⟨?_,h3⟩
  cases hb:s.dc d with
  |none=>exact .inl rfl
  |some b=>
   rw[hb]at h1 h2 h4
   cases b with
   |arr sz dm=>cases h1
   |qi sz dm=>cases h4
   |loc cs=>cases h2
   |Sd n=>exact .inr ⟨n,rfl⟩
 rintro⟨h1,h2⟩ av;refine⟨?_,?_,?_,?_,?_⟩
 ·unfold PS.dm;split
  ·rcases h1 with h1|⟨n,h1⟩<;>rw[h1]
  rfl
 ·unfold PS.cs;split
  ·rcases h1 with h1|⟨n,h1⟩<;>rw[h1]
  rfl
 ·unfold PS.ents;split
  ·exact h2
  rfl
 ·unfold PS.elc;split
  ·rcases h1 with h1|⟨n,h1⟩<;>rw[h1]
  rfl
 unfold PS.Jb;split
 ·rcases h1 with h1|⟨n,h1⟩<;>rw[h1];rfl
 rfl
theorem Ri{i av:Nat}{p:Nat×List (List D)}(h:s.dm i av=some p):¬Kl s i:=fun hd=>by rw[(hd av).1]at h;cases h
theorem acf{i av:Nat}{p:List C}(h:s.cs i av=some p):¬Kl s i:=fun hd=>by rw[(hd av).2.1]at h;cases h
theorem aow{i av:Nat}{p:List (D×C)}(h:s.ents i av=some p):¬Kl s i:=fun hd=>by rw[(hd av).2.2.1]at h;cases h
theorem asz{i av:Nat}{p:Nat×List (List C)}(h:s.elc i av=some p):¬Kl s i:=fun hd=>by rw[(hd av).2.2.2.1]at h;cases h
def RI.Lx(o:RI)(b i:Nat):Prop:=∃w,i=b+w∧w∈o.makes
def Target(s:PS)(o:RI):mc→Prop
 | .val _=>True
 | .new _ id b=>(id=s.base+o.dst.getD 0∧∃n,b= .Sd n)∨o.Lx s.base id
 | .set id _=>¬Kl s id
 | .grow _ id _=>¬Kl s id
 | .a2s _ id=>o.Lx s.base id
 | .Zu id _=>¬Kl s id
 | .init _ _ id _=>o.Lx s.base id
 | .cut _ id _=>¬Kl s id
 | .Iy id _ id2 _=>¬Kl s id∧¬Kl s id2
 | .mem _ _=>o.isE=true
theorem a74{n:Nat}{xs:List C}{v:V}{ids:List Nat}{e:mc}(h:za s n xs v=some (ids,e)):∃id b,e= .set id b∧¬Kl s id:=by
 have c:∀{id av ln i off},F2 s n xs id av ln i off=some (ids,e)→∃id b,e= .set id b∧¬Kl s id:=by
  intro id av ln i off h;unfold F2 at h;split at h
  ·rename_i he;split at h
   ·split at h
    ·cases h;exact⟨_,_,rfl,asz he⟩
    cases h
   cases h
  cases h
 cases v with
 |ie id av off=>
  simp only[za]at h;split at h
  ·rename_i cs hc;split at h
   ·simp only[ak,cd]at h;obtain⟨_,rfl⟩:=h;exact⟨_,_,rfl,acf hc⟩
   cases h
  cases h
 |Hw id av ln i off=>
  simp only[za]at h;split at h
  ·rename_i sz dm he;split at h
   ·split at h
    ·simp only[ak,cd]at h;obtain⟨_,rfl⟩:=h;exact⟨_,_,rfl,Ri he⟩
    cases h
   exact c h
  exact c h
 |_=>simp[za]at h
theorem ad6{n:Nat}{x y:V}{ids:List Nat}{e:mc}(h:yk s n x y=some (ids,e)):∃id b id2 b2,e= .Iy id b id2 b2∧¬Kl s id∧¬Kl s id2:=by
 have live:∀{i:Nat} {b:B},s.dc i=some b→(∀n,b≠ .Sd n)→¬Kl s i:=by
  intro i b hb hn hd;rcases(Us.1 hd).1 with h|⟨n,h⟩
  ·rw[h]at hb;cases hb
  rw[h]at hb;injection hb with hb;exact hn n hb.symm
 unfold yk at h;split at h
 ·split at h
  ·rename_i h1 h2;split at h
   ·cases h;exact⟨_,_,_,_,rfl,live h1 (by simp),acf h2⟩
   cases h
  ·rename_i h1 h2;split at h
   ·cases h;exact⟨_,_,_,_,rfl,live h1 (by simp),acf h2⟩
   cases h
  cases h
 cases h
theorem aiv{o:RI}{ids:List Nat}{e:mc}(ho:O9 P o s ids e):Target s o e:=by
 rcases ho with ⟨_,_,rfl⟩|⟨_,⟨_,_,_,_,_,rfl,_⟩|⟨_,_,_,_,_,_,_,_,rfl,_⟩|h|⟨_,_,_,_,h1,_,rfl,_⟩|⟨_,_,_,_,_,_,h1,_,_,rfl,_⟩|⟨_,_,_,_,_,rfl,_⟩⟩
 ·trivial
 ·trivial
 ·trivial
 rotate_left
 ·show o.isE=true;unfold RI.isE;rw[h1]
 ·show o.isE=true;unfold RI.isE;rw[h1]
 ·trivial
 have aFd:∀{sz b:Nat} {x y:V} {l:List Nat},Qz s (s.base+o.dst.getD 0) sz b x y=some (ids,e)→(∀i,i∈o.makes↔i∈[o.dst.getD 0])→Target s o e:=by
  intro sz b x y _ h mk;rcases(Ur h).2 with ⟨v,rfl⟩|⟨v,b,rfl⟩|⟨v,id,b,rfl,hd⟩
  ·trivial
  ·exact .inr ⟨_,rfl,(mk _).2 (by simp)⟩
  exact hd
 have mk:∀i,i∈o.makes↔i∈(match o.op with| .alloc _| .box .. | .Hq| .app .. | .a3o .. | .a0x .. =>[o.dst.getD 0]| .yy im .. =>if im then[]else[o.dst.getD 0]| .init g .. =>[g]|_=>[]):=fun i=>Iff.rfl
 cases hk:o.op.kind with
 |pure=>obtain⟨_,v,rfl⟩:=V7 (P:=P) (o:={o with guard:=none}) (.inl hk) (.inr ⟨rfl,.inr (.inr (.inl h))⟩);trivial
 |read=>obtain⟨_,v,rfl⟩:=V7 (P:=P) (o:={o with guard:=none}) (.inr hk) (.inr ⟨rfl,.inr (.inr (.inl h))⟩);trivial
 |alloc=>
  cases e with
  |val v=>trivial
  |init v t id cs=>
   obtain⟨n,x,hx⟩:=a6z h;refine⟨t,?_,(mk _).2 (by rw[hx];simp)⟩;rw[hx]at h;simp only[jy.p9]at h
   repeat' split at h
   all_goals(first|(cases h;rfl)|cases h)
  |_=>
   generalize hop:o.op=op at hk h mk;cases op<;>simp only[jy.kind,reduceCtorEq]at hk<;>simp only[jy.p9]at h
   case alloc z=>first|(cases h;done)|(cases h;exact .inr ⟨_,rfl,(mk _).2 (by simp)⟩)
   case box n x=>
    repeat' split at h
    all_goals first|(cases h;done)|(cases h;exact .inr ⟨_,rfl,(mk _).2 (by simp)⟩)
   case Hq=>first|(cases h;done)|(cases h;exact⟨_,rfl,(mk _).2 (by simp)⟩)
   case A9 n=>first|(cases h;done)|(cases h;exact .inl ⟨rfl,n,rfl⟩)
   case init g n x=>
     repeat' split at h
     all_goals(cases h)
   case yy im n sz z ps=>cases im<;>simp at hk
 |write=>
  generalize hop:o.op=op at hk h mk;cases op<;>simp only[jy.kind,reduceCtorEq]at hk<;>simp only[jy.p9]at h
  case store n a x=>
   split at h
   ·obtain⟨id,b,rfl,hd⟩:=a74 h;exact hd
   obtain⟨id,b,id2,b2,rfl,hd⟩:=ad6 h;exact hd
  case yy im n sz z ps=>
   cases im with
   |true=>simp at hk
   |false=>
    repeat' split at h
    all_goals first|(cases h;done)|(cases h;exact .inr ⟨_,rfl,(mk _).2 (by simp)⟩)|simp_all
  case app sz b x y=>
   split at h
   ·split at h
    ·split at h
     ·repeat' split at h
      all_goals first|(cases h;done)|(obtain⟨rfl,rfl⟩:=tf h;trivial)|(cases h;exact .inr ⟨_,rfl,(mk _).2 (by simp)⟩)
     ·split at h
      ·rename_i he;split at h
       ·cases h;exact Ri he
       cases h
      exact aFd (l:=[]) h mk
     ·split at h
      ·rename_i he;split at h
       ·cases h;exact Ri he
       cases h
      cases h
     cases h
    cases h
   exact aFd (l:=[]) h mk
  case a0x n sz z ps=>
   repeat' split at h
   all_goals first|(cases h;done)|(cases h;exact .inr ⟨_,rfl,(mk _).2 (by simp)⟩)
  case a0r=>cases h
  case a3o sz b z x y=>
   repeat' split at h
   all_goals first|(cases h;done)|(cases h;exact .inr ⟨_,rfl,(mk _).2 (by simp)⟩)
  case trim x=>
   split at h
   ·split at h
    ·rename_i he;split at h
     ·cases h;exact Ri he
     cases h
    cases h
   cases h
  case clr z x=>
   split at h
   ·split at h
    ·rename_i he;split at h
     ·cases h;exact Ri he
     cases h
    cases h
   cases h
  case Oe n x j=>
   split at h
   ·split at h
    ·rename_i he;split at h
     ·cases h;exact Ri he
     cases h
    cases h
   ·split at h
    ·obtain⟨rfl,rfl⟩:=tf h;trivial
    cases h
   cases h
  case X0 kk x k v=>
   split at h
   ·split at h
    ·rename_i he;simp only[aq]at h;obtain⟨_,_,h⟩:=h;cases h;exact aow he
    cases h
   cases h
  case slice3 n x j k=>
   split at h
   ·split at h
    ·rcases(a7b h).2 with ⟨_,rfl⟩|⟨_,_,_,rfl,hd⟩
     ·trivial
     exact hd
    cases h
   cases h
  case zg f args=>cases h
  case No f args=>cases h
  case qz f args=>cases h
  case P4 f args=>cases h
theorem apu{o:RI}{d:Nat}(tn:Stp P o s s1)(hd:Kl s d)(hm:¬o.Lx s.base d)(hE:o.isE=false):Kl s1 d:=by
 obtain⟨ids,e,ho,rfl⟩:=tn;have ht:=aiv ho;rw[Us]at hd⊢;have hd0:=hd
 have hb:(s.uu ids).dc d=none∨∃n,(s.uu ids).dc d=some (.Sd n):=by
  rcases(alp ids s d).1 with h|h
  ·exact .inl h
  rw[h];exact hd.1
 have hmp:(s.uu ids).mp d=none:=by
  rcases(alp ids s d).2 with h|h
  ·exact h
  rw[h];exact hd.2
 have azo:∀id,¬Kl s id→id≠d:=fun id h e=>h (e▸Us.2 hd0);by_cases Iu:∃id b id2 b2,e= .Iy id b id2 b2
 ·obtain⟨id,b,id2,b2,rfl⟩:=Iu;obtain⟨h1,h2⟩:=ht;have e1:=azo _ h1;have e2:=azo _ h2
  have hbk:(mc.app o.dst (s.uu ids) (.Iy id b id2 b2)).dc d=(s.uu ids).dc d:=by
   show l7 (l7 (s.uu ids).dc id (some b)) id2 (some b2) d=_;rw[gj _ _ _ _ (aLn e2),gj _ _ _ _ (aLn e1)]
  refine⟨by rw[hbk];exact hb,hmp⟩
 have hM:e.isM=false:=by
  cases e with
  |mem m v=>have ht:o.isE=true:=ht;rw[hE]at ht;cases ht
  |Iy id b id2 b2=>exact absurd ⟨_,_,_,_,rfl⟩ Iu
  |_=>rfl
 rw[Uz _ _ _ hM]
 have Vs:∀{α:Type} (f:Nat→α) (x:Option (Nat×α)),(∀i b,x=some (i,b)→i≠d)→mod f x d=f d:=by
  intro α f x hx
  cases x with
  |none=>rfl
  |some p=>obtain⟨i,b⟩:=p;exact gj _ _ _ _ (aLn (hx i b rfl))
 have axk:∀id,¬Kl s id→id≠d:=fun id h e=>h (e▸Us.2 hd0);have nm:∀id,o.Lx s.base id→id≠d:=fun id h e=>hm (e▸h);show(mod (s.uu ids).dc e.bw d=none∨∃n,mod (s.uu ids).dc e.bw d=some (.Sd n))∧mod (s.uu ids).mp e.mw d=none
 cases e with
 |val v=>exact⟨hb,hmp⟩
 |new v id b=>
  refine⟨?_,hmp⟩;rcases ht with ⟨h1,n,rfl⟩|h1
  ·by_cases e:id=d
   ·subst e;exact .inr ⟨n,cu _ _ _⟩
   rw[Vs _ _ (by intro i b hi;simp only[mc.bw,ak,cd]at hi;rw[←hi.1];exact e)];exact hb
  rw[Vs _ _ (by intro i b hi;simp only[mc.bw,ak,cd]at hi;rw[←hi.1];exact nm _ h1)];exact hb
 |set id b=>exact⟨by rw[Vs _ _ (by intro i b hi;simp only[mc.bw,ak,cd]at hi;rw[←hi.1];exact axk _ ht)];exact hb,hmp⟩
 |grow v id b=>exact⟨by rw[Vs _ _ (by intro i b hi;simp only[mc.bw,ak,cd]at hi;rw[←hi.1];exact axk _ ht)];exact hb,hmp⟩
 |a2s v id=>exact⟨hb,by rw[Vs _ _ (by intro i b hi;simp only[mc.mw,ak,cd]at hi;rw[←hi.1];exact nm _ ht)];exact hmp⟩
 |Zu id es=>exact⟨hb,by rw[Vs _ _ (by intro i b hi;simp only[mc.mw,ak,cd]at hi;rw[←hi.1];exact axk _ ht)];exact hmp⟩
 |cut v id b=>exact⟨by rw[Vs _ _ (by intro i b hi;simp only[mc.bw,ak,cd]at hi;rw[←hi.1];exact axk _ ht)];exact hb,hmp⟩
 |mem m v=>cases hM
 |Iy _ _ _ _=>cases hM
 |init v t id cs=>exact⟨by rw[Vs _ _ (by intro i b hi;simp only[mc.bw,ak,cd]at hi;rw[←hi.1];exact nm _ ht)];exact hb,hmp⟩
end
section
variable{P:Program}{B0 nt:Nat}{w0 w w':World}{G0 G G':gq}{s s' s1 s2:PS}{E E':Env}{a:Act}
theorem Yk{o:Oper}{v:Value}{next:Act→World→Prop}{Q:Exit→Act→World→Prop}(h:(execOp a.eval o).run P w= .ok (.value v) w')(hn:next (a.put o.dst v) w'):o.wp P a w next Q:=by
 unfold aLz;rw[h];exact hn
theorem ax6{o:Oper}{next:Act→World→Prop}{Q:Exit→Act→World→Prop}(h:(execOp a.eval o).run P w= .ok .skip w')(hn:next (a.put o.dst undef) w'):o.wp P a w next Q:=by
 unfold aLz;rw[h];exact hn
theorem aqi{o:Oper}{next next':Act→World→Prop}{Q:Exit→Act→World→Prop}(hN:∀a w,next a w→next' a w)(h:o.wp P a w next Q):o.wp P a w next' Q:=by
 unfold aLz at h⊢;generalize(execOp a.eval o).run P w=r at h⊢
 cases r with
 |halt x w'=>cases x<;>exact h
 |ok n w'=>
  cases n with
  |value v=>exact hN _ _ h
  |skip=>exact hN _ _ h
  |defer d=>exact hN _ _ h
  |enter f args=>
   refine Calls.mono h fun e w'' he=>?_
   cases e with
   |returned v=>exact hN _ _ he
   |panicked c=>exact he
   |outgrown=>exact he
  |row r args=>exact Rows.mono h fun v w'' hv=>hN _ _ hv
  |_=>exact h
theorem Yd(a:Act)(d:Nat)(v:Value):(a.put (some d) v).tmps.size=a.tmps.size:=by simp[Act.put]
theorem a3u(a:Act){d:Nat}(v:Value)(hd:d<a.tmps.size)(t:Nat):(a.put (some d) v).tmps.getD t undef=if t=d then v else a.tmps.getD t undef:=by
 simp only[Act.put];rw[jd,jd];by_cases e:t=d
 ·subst e;rw[bd rfl,Ts,bd hd];rfl
 rw[al e,Wq (fun h=>e h.symm)]
theorem Um(a:Act)(t:Nat):a.eval (.tmp t)=a.tmps.getD t undef:=rfl
theorem jf.aDj(h:jf B0 w0 nt G0 s G E a w){a':Act}{tmp':Nat→V}(hs:a'.tmps.size=nt)(hd:a'.defers=[])(ht:∀t,iw G E s (tmp' t) (a'.tmps.getD t undef)):
  jf B0 w0 nt G0 {s with tmp:=tmp'} G E a' w:=by
 have hv:∀{x:V} {v:Value},iw G E s x v→iw G E {s with tmp:=tmp'} x v:=fun{x v} h=>by cases x<;>exact h
 have hm:Ia E E s {s with tmp:=tmp'}:=⟨fun _=>ay _,fun _ _ n _ h=>⟨n,h,ay _,fun _=>⟨rfl,rfl⟩⟩,fun _ b _ h hv=>⟨⟨b,h,hv⟩,rfl⟩,fun _ _ h=>⟨h,rfl⟩⟩;refine⟨hs,hd,h.base,h.below,h.gok,h.gle,h.J4,fun t=>hv (ht t),fun i b hb=>?_,h.inj,fun i es hi=>?_,h.Rg,fun p=>hv (h.ctx p),h.tb⟩
 ·have k:=h.dc i b hb;exact k.move (gq.la _) hm rfl k.2.1 rfl rfl
 obtain⟨h1,h2,ents,clock,h3,h4,h5,h6⟩:=h.mp i es hi;exact⟨h1,h2,ents,clock,h3,h4,fun i e x hx hy=>⟨(h5 i e x hx hy).1,iw.Dw (gq.la _) hm (h5 i e x hx hy).2⟩,h6⟩
theorem ajj{kk:KK}{k:D}:∀{ds:List (D×C)} {j:Nat} {e:D×C} (i:Nat),It kk k ds i=some (some (i+j))→ds[j]? =some e→Ez kk k e.1=some true∧∀c,Nh kk k c ds=some (ds.set j (k,c)):=by
 intro ds
 induction ds with
 |nil=>intro j e i _ he;simp at he
 |cons p ds ih=>
  intro j e i hi he;obtain⟨q,z⟩:=p;simp only[It]at hi;split at hi
  ·rename_i hq;simp only[ak]at hi
   have:j=0:=by omega
   subst this;simp only[dv,ak]at he;subst he;exact⟨hq,fun c=>by simp[Nh,hq]⟩
  ·rename_i hq
   cases j with
   |zero=>
    have:=am2 hi;omega
   |succ j=>
    have D0:It kk k ds (i+1)=some (some (i+1+j)):=by rw[hi];congr 2;omega
    obtain⟨h1,h2⟩:=ih (i+1) D0 (by simpa using he);exact⟨h1,fun c=>by simp[Nh,hq,h2 c]⟩
  cases hi
theorem acb(h:jf B0 w0 nt G0 s G E a w){t kt e:TypeId}{kk:KK}(hu:P.underlying t=some (.map kt e))(hkk:R5 P kt=some kk)(hz:(P.info? e).bind (·.zero)=some (.slice none 0 0))
  {id av:Nat}{kd:D}{vx vk:Value}(hx:iw G E s (.l9 id av) vx)(hk:i6 G kd vk){es:List (D×C)}(hes:s.ents id av=some es){r:Option C}(hr:Hs kk kd es=some r):
  ∃(j:Nat) (ents:Array MapEntry) (clock:Nat) (x:MapEntry),vx= .map (some (E.m id))∧
   (aKe t vx vk).run P w= .ok (.tuple #[x.val,goInt x.born]) (By w (E.m id) (.map ents clock))∧ents[j]? =some x∧a19 ents clock∧yq G E s (r.getD (.d .ck)) x.val∧
   (∃o0,w.heap[E.m id]? =some o0)∧
   ∃es1:List (D×C),es1.length=ents.size∧es1[j]? =some (kd,r.getD (.d .ck))∧i6 G kd x.key∧
    (∀(i:Nat) (e:D×C) (y:MapEntry),i≠j→es1[i]? =some e→ents[i]? =some y→i6 G e.1 y.key∧yq G E s e.2 y.val)∧∀c,Nh kk kd c es=some (es1.set j (kd,c)):=by
 obtain⟨nh,atn⟩:=Fi hes;have hvx:=hx.2 nh (by rw[atn];rfl);subst hvx;obtain⟨_,_,ents,clock,k1,k2,k3,k4⟩:=h.mp id es atn;have Ox:=a5p hr;have hch:=a0b (w:=w) hkk hk Ox false
 have hzr:(zeroValue e).run P w= .ok (.slice none 0 0) w:=by
  cases hif:P.info? e with
  |none=>rw[hif]at hz;cases hz
  |some i=>
   rw[hif]at hz;simp only[Pa]at hz;simp[zeroValue,typeInfo,hif,hz]
 have find:=fun idx (hi:It kk kd es 0=some idx)=>Ul (P:=P) (w:=w) hkk hk hi (es:=ents.toList) (by simpa using k2) (fun j e x he hx=>(k3 j e x he (by simpa using hx)).1);rcases aaf 0 hr with ⟨rfl,h2⟩|⟨j,e',h1,h2,rfl⟩
 ·refine⟨ents.size,ents.push {key:=vk,val:= .slice none 0 0,born:=clock},clock+1,{key:=vk,val:= .slice none 0 0,born:=clock},rfl,?_,by simp,k4.push _ _,i6.ck,⟨_,k1⟩,?_⟩
  ·unfold aKe;simp only[cn,underlying,run_program,bm,hu,ep,Ge k1,hch,find _ h2,avk,hzr,Og k1]
  have X6:∀(c:C) {ds:List (D×C)} (i:Nat),It kk kd ds i=some none→Nh kk kd c ds=some (ds++[(kd,c)]):=by
   intro c ds
   induction ds with
   |nil=>intro i _;simp[Nh,Ox]
   |cons p ds ih=>
    intro i hi;obtain⟨q,z⟩:=p;simp only[It]at hi;simp only[Nh]
    cases hq:Ez kk kd q with
    |none=>rw[hq]at hi;cases hi
    |some b=>
     rw[hq]at hi
     cases b with
     |true=>simp at hi
     |false=>
      simp only at hi⊢;rw[ih _ hi];rfl
  refine⟨es++[(kd,.d .ck)],by simp[k2],by simp[k2],hk,fun i e y J3 he hy=>?_,fun c=>?_⟩;rotate_left
  ·rw[X6 c 0 h2]
   congr 1
   rw[a86 _ _ (by omega)]
   have:ents.size-es.length=0:=by omega
   rw[this];rfl
  have hi:i<es.length:=by
   have:=(aw.1 he).1;simp only[db,cj,du]at this;omega
  rw[mj hi]at he;rw[a2o,al (by omega)]at hy;exact k3 i e y he hy
 have hj:j<ents.size:=by have:=(aw.1 h2).1;omega
 have hje:ents[j]? =some ents[j]:=bh hj;obtain⟨h3,O3⟩:=ajj 0 h1 h2;have hs:=Y7 h3 hk (k3 j e' ents[j] h2 hje).1
 have tn:(an1 (((ents[j]?).map (·.key)).getD vk) vk).run P w= .ok vk w:=by
  unfold an1;simp only[hje,ir,jc,hs,cz,ep]
 refine⟨j,ents.modify j fun e=>{e with key:=vk},clock,{ents[j]with key:=vk},rfl,?_,by rw[Di,bd rfl,hje];rfl,k4.modify j fun _=>rfl,(k3 j e' ents[j] h2 hje).2,⟨_,k1⟩,?_⟩
 ·have hv:((ents.toList[j]?).map (·.val)).getD undef=ents[j].val:=by simp[hj]
  unfold aKe;simp only[cn,underlying,run_program,bm,hu,ep,Ge k1,hch,find _ h1,ir,gd,tn,Og k1];simp[hj]
 refine⟨es.set j (kd,e'.2),by simp[k2],by rw[so,bd rfl,bd (by omega)];rfl,hk,fun i e y J3 he hy=>?_,fun c=>by rw[O3 c];simp⟩;rw[so,al (aLn J3)]at he;rw[Di,al (aLn J3)]at hy;exact k3 i e y he hy
theorem au0{ents:Array MapEntry}{clock j:Nat}{x:MapEntry}(hb:a19 ents clock)(hx:ents[j]? =some x):ents.findIdx? (fun e=>(e.born:Int)==(x.born:Int))=some j:=by
 have hj:=(iu.1 hx).1;have hxe:ents[j]=x:=(iu.1 hx).2;rw[Array.findIdx?_eq_some_iff_getElem];refine⟨hj,by simp[hxe],fun k hk=>?_⟩
 have hk':k<ents.size:=by omega
 simp only[beq_iff_eq];intro he;have:=hb.2 k j ents[k] x (bh hk') hx (by omega);omega
theorem a6w{t r:Nat}{ents:Array MapEntry}{clock j:Nat}{x:MapEntry}(hw:w.heap[r]? =some (.map ents clock))(hb:a19 ents clock)(hx:ents[j]? =some x)(v:Value):
  (aIz t (.map (some r)) (goInt x.born) v).run P w= .ok () (By w r (.map (ents.modify j fun e=>{e with val:=v}) clock)):=by
 unfold aIz;have ha:(asInt (goInt x.born)).run P w= .ok (x.born:Int) w:=rfl;simp only[cn,Ge hw,bm,ha,au0 hb hx,Og hw]
structure GAt(P:Program)(nt:Nat)(o1 o2 o3 o4 o5:Oper)(kk:KK)(sz bytes m k y:Nat)(d1 d2 d3 d4:Nat)(t kt et e eu au:TypeId)(i:TypeInfo)(args:Array Operand)(Ew:Array TypeId)(t5:TypeId):Prop where
 o1:o1.dst=some d1∧o1.op= .mapEntry t (.tmp m) (.tmp k)∧o1.guard=none
 o2:o2.dst=some d2∧o2.op= .extract (.tmp d1) 0∧o2.guard=none
 o3:o3.dst=some d3∧o3.op= .call ⟨.builtin .append,args,Ew⟩∧o3.guard=none
 o4:o4.dst=some d4∧o4.op= .extract (.tmp d1) 1∧o4.guard=none
 o5:o5.dst=none∧o5.op= .entryStore t5 (.tmp m) (.tmp d4) (.tmp d3)∧o5.guard=none
 args:args.toList=[.tmp d2,.tmp y]
 a0:Ew[0]? =some et
 a1:Ew[1]? =some au
 ut:P.underlying t=some (.map kt et)
 uet:P.underlying et=some (.slice e)
 uau:P.underlying au=some (.slice eu)
 zet:(P.info? et).bind (·.zero)=some (.slice none 0 0)
 key:R5 P kt=some kk
 inf:P.info? e=some i
 hz:i.zero.map (·.cells.size)=some i.size
 hs:0<i.size
 hb:0<i.bytes
 esz:sz=i.size
 eby:bytes=i.bytes
 lt:d1<nt∧d2<nt∧d3<nt∧d4<nt
 ne:d1≠d2∧d1≠d3∧d3≠d4∧y≠d1∧y≠d2∧m≠d1∧m≠d2∧m≠d3∧m≠d4
theorem akx{o1 o2 o3 o4 o5:Oper}{ri:RI}(h:aur P nt o1 o2 o3 o4 o5=some ri):∃kk sz bytes m k y d1 d2 d3 d4 t kt et e eu au i args Ew t5,GAt P nt o1 o2 o3 o4 o5 kk sz bytes m k y d1 d2 d3 d4 t kt et e eu au i args Ew t5∧
  ri={dst:=none,op:= .a0r kk sz bytes (.t m) (.t k) (.t y) [d1,d2,d3,d4],guard:=none,after:=[]}:=by
 unfold aur at h;split at h
 ·rename_i d1 t m k d2 e2 d3 c d4 e4 t5 m' e5 e6 g1 g2 g3 g4 g5 g6 g7 g8 g9 g10;obtain⟨callee,args,Ew⟩:=c
  dsimp only at h
  split at h
  ·rename_i a0 y at_ au kt et h2 h3 h4 h5;split at h
   ·rename_i hc;obtain⟨rfl,rfl,rfl,rfl,rfl,rfl,rfl,n1,n2,n3,q1,q2,q3,q4,q5,l1,l2,l3,l4,n4,n5,n6,n7,n8,n9⟩:=hc;split at h
    ·rename_i e eu kk u1 u2 u3 u4;split at h
     ·rename_i i hi;split at h
      ·rename_i hb
       injection h with h
       subst h;exact⟨kk,i.size,i.bytes,_,k,y,_,_,_,_,t,kt,_,e,eu,au,i,args,Ew,t5,⟨⟨g1,g2,q1⟩,⟨g3,g4,q2⟩,⟨g5,g6,q3⟩,⟨g7,g8,q4⟩,⟨g9,g10,q5⟩,h2,h3,h4,h5,u1,u2,u3,u4,hi,hb.1,hb.2.1,hb.2.2.1,rfl,rfl,⟨l1,l2,l3,l4⟩,⟨n1,n2,n3,n4,n5,n6,n7,n8,n9⟩⟩,rfl⟩
      cases h
     cases h
    cases h
   cases h
  cases h
 cases h
theorem aym(h:jf B0 w0 nt G0 s G E a w){o1 o2 o3 o4 o5:Oper}{kk:KK}{sz bytes m k y d1 d2 d3 d4:Nat}{t kt et e eu au:TypeId}{i:TypeInfo}{args:Array Operand}{Ew:Array TypeId}{t5:TypeId}
  (g:GAt P nt o1 o2 o3 o4 o5 kk sz bytes m k y d1 d2 d3 d4 t kt et e eu au i args Ew t5){K:PS→Prop}{next:Act→World→Prop}{Q:Exit→Act→World→Prop}
  {id:Nat}(tn:am6 s id kk sz bytes (s.tmp m) (s.tmp k) (s.tmp y) [d1,d2,d3,d4] s')(hK:K s')(hn:∀a w,Lq B0 nt w0 G0 K a w→next a w):
  o1.wp P a w (fun a w=>o2.wp P a w (fun a w=>o3.wp P a w (fun a w=>o4.wp P a w (fun a w=>o5.wp P a w next Q) Q) Q) Q) Q:=by
 obtain⟨ag6,hfm,mi,av,key,es,ys,osz,hm,hk,hes,hys,atf,hne,Bm,_,a1w⟩:=tn;obtain⟨n1,n2,n3,n4,n5,n6,n7,n8,n9⟩:=g.ne;obtain⟨l1,l2,l3,l4⟩:=g.lt;have esz:=g.esz;have eby:=g.eby;subst esz eby;obtain⟨z,hz,hzz⟩:=aq.1 g.hz;have vm:=h.tmp m;have vk:=h.tmp k;have vy:=h.tmp y;rw[hm]at vm;rw[hk]at vk
 obtain⟨r,hr⟩:∃r,Hs kk key es=some r:=by rcases a1w with ⟨h1,_⟩|⟨_,_,_,_,h1,_⟩<;>exact⟨_,h1⟩
 obtain⟨j,ents,clock,x,hvm,aG3,hx,hbo,hxr,⟨o0,ho0⟩,es1,p2,p3,p4,p5,X6⟩:=acb h g.ut g.key g.zet vm vk hes hr;obtain⟨nh,atn⟩:=Fi hes;have C9:=h.size
 let a1:=a.put (some d1) (.tuple #[x.val,goInt x.born])
 let a2:=a1.put (some d2) x.val
 have s1:a1.tmps.size=nt:=by show(a.put _ _).tmps.size=_;rw[Yd];exact C9
 have s2:a2.tmps.size=nt:=by show(a1.put _ _).tmps.size=_;rw[Yd];exact s1
 have atx:∀t,a1.tmps.getD t undef=if t=d1 then .tuple #[x.val,goInt x.born]else a.tmps.getD t undef:=fun t=>a3u a _ (by omega) t
 have atw:∀t,a2.tmps.getD t undef=if t=d2 then x.val else a1.tmps.getD t undef:=fun t=>a3u a1 _ (by omega) t
 have ext:∀(A:Act) (W:World) (q:Nat) (v:Value) (o:Oper),o.op= .extract (.tmp d1) q→A.tmps.getD d1 undef= .tuple #[x.val,goInt x.born]→(#[x.val,goInt x.born]:Array Value)[q]? =some v→(execOp A.eval o).run P W= .ok (.value v) W:=by
  intro A W q v o ho hA hq;unfold execOp;rw[ho]
  dsimp only
  rw[Rj,Um,hA];unfold aK2;simp[hq]
 refine Yk (v:= .tuple #[x.val,goInt x.born]) (w':=By w (E.m mi) (.map ents clock)) ?_ ?_
 ·unfold execOp;rw[g.o1.2.1]
  dsimp only
  rw[Rj,Um,Um,aG3];rfl
 rw[g.o1.1];refine Yk (v:=x.val) (ext _ _ 0 _ _ g.o2.2.1 (by show a1.tmps.getD d1 undef=_;rw[atx,bd rfl]) rfl) ?_;rw[g.o2.1]
 have hz1:jf B0 w0 nt G0 {s with mp:=l7 s.mp mi (some es1)} G E a (By w (E.m mi) (.map ents clock)):=by
  refine h.Zu atn (Ao.By ho0 _) p2.symm (fun q e' y hq hy=>?_) hbo;by_cases hqj:q=j
  ·subst hqj;rw[p3]at hq
   injection hq with hq
   subst hq;rw[hx]at hy
   injection hy with hy
   subst hy;exact⟨p4,hxr⟩
  exact p5 q e' y hqj hq hy
 have aE9:Ia E E s {s with mp:=l7 s.mp mi (some es1)}:=⟨fun _=>ay _,fun _ _ n _ h=>⟨n,h,ay _,fun _=>⟨rfl,rfl⟩⟩,fun _ b _ h hv=>⟨⟨b,h,hv⟩,rfl⟩,fun q _ hp=>⟨by
  by_cases e:q=mi
  ·subst e;rw[atn];rfl
  simp only[gj _ _ _ _ e]at hp;exact hp,rfl⟩⟩
 have aFc:(args.map a2.eval)[0]? =some x.val:=by
  have h2:args[0]? =some (.tmp d2):=by rw[←aJe,g.args];rfl
  rw[Xu,h2];show some (a2.eval (.tmp d2))=_;rw[Um,atw,bd rfl]
 have av4:(args.map a2.eval)[1]? =some (a.tmps.getD y undef):=by
  have h2:args[1]? =some (.tmp y):=by rw[←aJe,g.args];rfl
  rw[Xu,h2];show some (a2.eval (.tmp y))=_;rw[Um,atw,al n5,atx,al n4]
 obtain⟨xb,cp,news,hvy,hnl,hnh,Bs,hr1,hr2⟩:=a6x (P:=P) hz1 (y:=s.tmp y) hys atf (iw.move (gq.la _) aE9 vy);rw[hvy]at av4 hr1 hr2;have hall:=av6 (s:={s with mp:=l7 s.mp mi (some es1)}) Bm
 have fin:∀(v3:Value) (w2:World) (E2:Env) (afq:Nat→Option B) (afm:Nat→Nat) (c:C) (es':List (D×C)),(yw Ew o3.type (args.map a2.eval)).run P (By w (E.m mi) (.map ents clock))= .ok v3 w2→
   jf B0 w0 nt G0 {s with mp:=l7 s.mp mi (some es1),dc:=afq,av:=afm} G E2 a w2→E2.m=E.m→w2.heap[E.m mi]? =some (.map ents clock)→
   yq G E2 {s with mp:=l7 s.mp mi (some es1),dc:=afq,av:=afm} c v3→Nh kk key c es=some es'→s'=PS.a0u {s with dc:=afq,av:=afm,mp:=l7 s.mp mi (some es')} [d1,d2,d3,d4]→
   o3.wp P a2 (By w (E.m mi) (.map ents clock)) (fun a w=>o4.wp P a w (fun a w=>o5.wp P a w next Q) Q) Q:=by
  intro v3 w2 E2 afq afm c es' K3 hf hEm hmw hc hp' hs';refine Yk (v:=v3) (w':=w2) ?_ ?_
  ·unfold execOp;rw[g.o3.2.1];have:=Rj (P:=P) (w:=By w (E.m mi) (.map ents clock)) (yw Ew o3.type (args.map a2.eval));rw[K3]at this;exact this
  rw[g.o3.1]
  let a3:=a2.put (some d3) v3
  have s3:a3.tmps.size=nt:=by show(a2.put _ _).tmps.size=_;rw[Yd];exact s2
  have ayl:∀t,a3.tmps.getD t undef=if t=d3 then v3 else a2.tmps.getD t undef:=fun t=>a3u a2 _ (by omega) t
  refine Yk (v:=goInt x.born) (ext a3 _ 1 _ _ g.o4.2.1 (by rw[ayl,al n2,atw,al n1,atx,bd rfl]) rfl) ?_;rw[g.o4.1]
  let a4:=a3.put (some d4) (goInt x.born)
  have s4:a4.tmps.size=nt:=by show(a3.put _ _).tmps.size=_;rw[Yd];exact s3
  have ayk:∀t,a4.tmps.getD t undef=if t=d4 then goInt x.born else a3.tmps.getD t undef:=fun t=>a3u a3 _ (by omega) t
  have em:a4.tmps.getD m undef= .map (some (E.m mi)):=by rw[ayk,al n9,ayl,al n8,atw,al n7,atx,al n6];exact hvm
  have e3:a4.tmps.getD d3 undef=v3:=by rw[ayk,al n3,ayl,bd rfl]
  have e4:a4.tmps.getD d4 undef=goInt x.born:=by rw[ayk,bd rfl]
  have hjl:j<es1.length:=(aw.1 p3).1;obtain⟨es2,ayd⟩:∃es2,es2=es1.set j (key,c):=⟨_,rfl⟩;rw[X6 c,←ayd]at hp'
  injection hp' with hp'
  subst hp'
  have q2:es2.length=ents.size:=by rw[ayd];simpa using p2
  have q3:es2[j]? =some (key,c):=by rw[ayd,so,bd rfl,bd hjl]
  refine ax6 (w':=By w2 (E.m mi) (.map (ents.modify j fun e=>{e with val:=v3}) clock)) ?_ ?_
  ·unfold execOp;rw[g.o5.2.1]
   dsimp only
   rw[afv];show((aIz t5 (a4.eval (.tmp m)) (a4.eval (.tmp d4)) (a4.eval (.tmp d3))).run P w2).andThen _=_;rw[Um,Um,Um,em,e3,e4,a6w hmw hbo hx];rfl
  rw[g.o5.1];have aE7:(l7 s.mp mi (some es1)) mi=some es1:=cu _ _ _
  have hEq:E2.m mi=E.m mi:=by rw[hEm]
  have hold:∀(q:Nat) (e':D×C) (y:MapEntry),es1[q]? =some e'→ents[q]? =some y→i6 G e'.1 y.key∧yq G E2 {s with mp:=l7 s.mp mi (some es1),dc:=afq,av:=afm} e'.2 y.val:=by
   intro q e' y hq hy;obtain⟨_,_,aF1,aCh,k3,_,k5,_⟩:=hf.mp mi es1 aE7;rw[hEq,hmw]at k3;simp only[ak,Obj.map.injEq]at k3;obtain⟨rfl,rfl⟩:=k3;exact k5 q e' y hq hy
  have same:∀q,q≠j→es2[q]? =es1[q]? :=by
   intro q hq;rw[ayd,so,al (aLn hq)]
  refine hn _ _ ⟨s',G,E2,hK,?_⟩
  have O4:=hf.Zu (es:=es2) aE7 (w':=By w2 (E.m mi) (.map (ents.modify j fun e=>{e with val:=v3}) clock)) (ents:=ents.modify j fun e=>{e with val:=v3}) (clock:=clock) (by rw[hEq];exact Ao.By hmw _) (by simp[q2]) (fun q e' y hq hy=>by
   rw[Di]at hy;by_cases hqj:q=j
   ·subst hqj;rw[bd rfl,hx]at hy;simp only[ir,ak]at hy;subst hy;rw[q3]at hq
    injection hq with hq
    subst hq;exact⟨p4,hc⟩
   rw[al (aLn hqj)]at hy;rw[same q hqj]at hq
   exact hold q e' y hq hy) (hbo.modify j fun _=>rfl)
  have hup:l7 (l7 s.mp mi (some es1)) mi (some es2)=l7 s.mp mi (some es2):=by
   funext q
   by_cases e:q=mi
   ·subst e;rw[cu,cu]
   rw[gj _ _ _ _ e,gj _ _ _ _ e,gj _ _ _ _ e]
  have azv:jf B0 w0 nt G0 {s with dc:=afq,av:=afm,mp:=l7 s.mp mi (some es2)} G E2 a (By w2 (E.m mi) (.map (ents.modify j fun e=>{e with val:=v3}) clock)):=by
   have e:({s with mp:=l7 (l7 s.mp mi (some es1)) mi (some es2),dc:=afq,av:=afm}:PS)={s with dc:=afq,av:=afm,mp:=l7 s.mp mi (some es2)}:=by rw[hup]
   rw[←e];exact O4
  rw[hs'];refine azv.aDj (a':=a4) s4 h.defers (tmp':=fun t=>if t∈[d1,d2,d3,d4]then .no else s.tmp t) fun t=>?_;by_cases ht:t∈[d1,d2,d3,d4]
  ·rw[bd ht];exact iw.aGj
  rw[al ht];simp only[fb,l8,or_false,not_or]at ht;rw[ayk,al ht.2.2.2,ayl,al ht.2.2.1,atw,al ht.2.1,atx,al ht.1];exact azv.tmp t
 have ha3:(args.map a2.eval)[0]? =some x.val:=aFc;have hmi:(By w (E.m mi) (.map ents clock)).heap[E.m mi]? =some (.map ents clock):=(Ao.By ho0 (.map ents clock)).at_;rcases a1w with ⟨c1,c2,es',c3,c4⟩|⟨i',v0,n0,dm,c1,c2,c3,c4,es',c5,c6⟩
 ·rw[hr]at c1
  injection c1 with c1
  subst c1
  have hxv:x.val= .slice none 0 0:=by
   have:i6 G .ck x.val:=hxr;generalize x.val=q at this;cases this;rfl
  rw[hxv]at ha3;obtain⟨v3,w2,E2,k1,k2,k3,k4,k5⟩:=a16 (ty:=o3.type) hz1 g.uet g.uau g.inf hz g.hb hzz (ys:=ys.map fun e=>e.map .d) ha3 av4 g.a0 g.a1 (by simp) (by simpa using hnl) hnh.ofD hr2 (by simpa using hne) (by simpa using c2) id (nb:= .arr i.size ys) (by simp[B.De]) (fun _ q=>q.toD);simp only[ag]at k3;exact fin v3 w2 E2 _ _ (.ref id (s.av id+1) ys.length) es' k1 k2 k4 (k5 _ _ _ hmi) k3 c3 c4
 rw[hr]at c1
 injection c1 with c1
 subst c1;obtain⟨v3,w2,E2,k1,k2,k3,k4,k5⟩:=a7s (ty:=o3.type) hz1 g.uet g.uau g.inf hz g.hb hzz (ys:=ys.map fun e=>e.map .d) ha3 av4 g.a0 g.a1 (by simp) (by simpa using hnl) hnh.ofD (fun u hu=>Bs u hu Bm) hr1 hr2
  (id:=i') (av:=v0) (dm:=aLy (fun e:List D=>aLy C.d e) dm) (a6y (s:=s) c2) (by
   have:=iw.Dw (gq.la _) aE9 hxr;simp only[jc]at this;rw[←c3]at this;simp only[ag]
   exact this) (by simpa[c3]using c4) (nb:= .arr i.size (dm++ys)) (by simp[B.De]) (fun _ q=>Holds.toD (by simpa using q)) rfl
 simp only[ag,c3]at k3;exact fin v3 w2 E2 _ _ (.ref i' v0 (n0+ys.length)) es' k1 k2 k4 (k5 _ _ _ hmi) k3 c5 c6
end
section
variable{P:Program}{B0 nt:Nat}{w0 w w':World}{G0 G G':gq}{s s' s1 s2:PS}{E E':Env}{a:Act}
theorem auo{im kp cv:Bool}{cm:Nat}{op:Op}{g n:Nat}{x:nk}(h:cOp P im kp cv cm op=some (.init g n x)):False:=by
 unfold cOp at h;split at h
 all_goals(first|(simp only[aq]at h;obtain⟨y,hy,hh⟩:=h;cases hh;done)|skip)
 all_goals(repeat' split at h)
 all_goals(first|unfold a14 at h|unfold Sw at h|skip)
 all_goals(repeat' split at h)
 all_goals(first|(cases h;done)|(simp[aq]at h;done))
theorem Fits.aEr{an:Ann}{ops:Array Oper}{o:Oper}{ri:RI}(h:Fits P nt an ops o ri):Good ri:=by
 intro g n x hx;obtain⟨r0,hc,rfl|⟨z,_,rfl⟩|⟨m,g',y,_,hd,rfl⟩⟩:=h
 ·obtain⟨hop,_⟩:=Xo hc;rw[hx]at hop;exact(auo hop).elim
 ·cases hx
 exact hd
theorem a2c{an:Ann}{ops:Array Oper}:∀{L:List Oper} {l:List RI},Sx P nt an ops L=some l→l.length=L.length∧∀(i:Nat) (o:Oper) (ri:RI),L[i]? =some o→l[i]? =some ri→a7n P nt an ops o=some ri:=by
 intro L
 induction L with
 |nil=>intro l h;simp only[Sx,ak]at h;subst h;exact⟨rfl,by simp⟩
 |cons o r ih=>
  intro l h;simp only[Sx]at h;split at h
  ·rename_i x l' h1 h2
   injection h with h
   subst h;obtain⟨k1,k2⟩:=ih h2;refine⟨by simp[k1],fun i y ri hy hr=>?_⟩
   cases i with
   |zero=>simp at hy hr;subst hy hr;exact h1
   |succ i=>simp at hy hr;exact k2 i y ri hy hr
  cases h
theorem apd{an:Ann}{ops:Array Oper}{o:Oper}{r0:RI}(h:a7n P nt an ops o=some r0)(l:List RI):Fits P nt an ops o (RI.ajy l r0):=by
 refine⟨r0,h,?_⟩;unfold RI.ajy;split
 ·rename_i z d h1 h2;split
  ·exact .inr (.inl ⟨z,h1,rfl⟩)
  exact .inl rfl
 ·rename_i n g x h1 h2;split
  ·exact .inr (.inr ⟨n,g,x,h1,h2,rfl⟩)
  exact .inl rfl
 exact .inl rfl
def Aligned(P:Program)(nt:Nat)(an:Ann)(ops:Array Oper)(l:List RI):Prop:=l.length=ops.size∧∀(i:Nat) (o:Oper) (ri:RI),ops[i]? =some o→l[i]? =some ri→Fits P nt an ops o ri
theorem Wl{an:Ann}{ops:Array Oper}{l:List RI}(h:Sx P nt an ops ops.toList=some l):Aligned P nt an ops l:=by
 obtain⟨h1,h2⟩:=a2c h;exact⟨by simpa using h1,fun i o ri ho hr=>⟨ri,h2 i o ri (by simpa using ho) hr,.inl rfl⟩⟩
theorem adq{an:Ann}{ops:Array Oper}{l:List RI}(h:Sx P nt an ops ops.toList=some l):Aligned P nt an ops (l.map (RI.ajy l)):=by
 obtain⟨h1,h2⟩:=a2c h;refine⟨by simpa using h1,fun i o ri ho hr=>?_⟩;simp only[cy,aq]at hr;obtain⟨r0,hr,rfl⟩:=hr;exact apd (h2 i o r0 (by simpa using ho) hr) l
theorem aAk(h:jf B0 w0 nt G0 s G E a w){an:Ann}{ops:Array Oper}{o:Oper}{ri:RI}(hf:Fits P nt an ops o ri){i:Nat}(hi:ops[i]? =some o){s1:PS}(tn:Stp P ri s s1){K:Act→World→Prop}{Q:Exit→Act→World→Prop}
  (hn:∀a w,Lq B0 nt w0 G0 (· =s1) a w→K a w):wpOp P ops Q i K a w:=by
 obtain⟨ids,e,ho,rfl⟩:=tn;unfold wpOp;rw[hi];simp only
 have a1w:wanted ri s=some false∨wanted ri s=some true:=by rcases ho with ⟨h,_⟩|⟨h,_⟩<;>simp[h]
 rcases a1w with hw|hw
 ·rw[Ck h hf hw];rcases ho with ⟨_,rfl,rfl⟩|⟨h',_⟩
  ·obtain⟨hd,hd2,_⟩:=hf.spec;refine hn _ _ ⟨_,G,E,rfl,?_⟩;show jf B0 w0 nt G0 (s.put ri.dst (.d (.Ar []))) G E _ _;rw[hd];exact h.a8m hd2 R4
  rw[hw]at h';cases h'
 rw[Ck h hf hw];exact .inl (Ty h hf (aa6 hw ho) hn)
theorem Wc(l:List RI):(dt l.length).map (fun i=>l.getD i default)=l:=by
 apply ady;intro i;simp only[cy];by_cases h:i<l.length
 ·simp[Mt h,cw,h]
 rw[a88 (by simpa using h),a88 (by simpa using h)];rfl
theorem arw{o:RI}{r:List RI}{K:PS→Prop}(hg:o.guard=none):lk P (o::r) s K=H6 P o s fun s'=>lk P r s' K:=by
 rw[Bl];unfold wanted;rw[hg]
theorem ang{an:Ann}{ops:Array Oper}{Q:Exit→Act→World→Prop}{K:PS→Prop}(hQ:∀a w,Lq B0 nt w0 G0 K a w→Q .normal a w):
  ∀(n:Nat) (L:List Oper) (q:Nat) {l:List RI},L.length≤n→ops.toList.drop q=L→a9h P nt an ops 0 L=some l→∀{s:PS} {G:gq} {E:Env} {a:Act} {w:World},jf B0 w0 nt G0 s G E a w→lk P l s K→wpOps P ops Q (al6 q L.length) a w:=by
 intro n
 induction n with
 |zero=>
  intro L q l hn hL hc s G E a w h hr;have:L=[]:=j1 (by omega);subst this;simp only[a9h,ak]at hc;subst hc;exact hQ _ _ ⟨s,G,E,hr,h⟩
 |succ n ih=>
  intro L q l hn hL hc s G E a w h hr
  cases L with
  |nil=>
   simp only[a9h,ak]at hc;subst hc;exact hQ _ _ ⟨s,G,E,hr,h⟩
  |cons o r=>
   have at_:∀(i:Nat) (x:Oper),(o::r)[i]? =some x→ops[q+i]? =some x:=by
    intro i x hx;rw[←hL,og]at hx;simpa using hx
   have next:∀i,ops.toList.drop (q+i)=(o::r).drop i:=by
    intro i;rw[←hL,amv]
   simp only[a9h]at hc;split at hc
   ·rename_i ri hg;unfold auq at hg;split at hg
    ·rename_i o1 o2 o3 o4 o5 r' heq;obtain⟨rfl,rfl⟩:=List.cons.inj heq;simp only[aq]at hc;obtain⟨l',hc,rfl⟩:=hc;have hc:a9h P nt an ops 0 r'=some l':=hc;obtain⟨kk,sz,bytes,m,k,y,d1,d2,d3,d4,t,kt,et,e,eu,au,i,args,Ew,t5,g,rfl⟩:=akx hg;rw[arw rfl]at hr;obtain⟨id,s',tn,hK⟩:=hr
     have rest:∀a w,Lq B0 nt w0 G0 (fun s'=>lk P l' s' K) a w→wpOps P ops Q (al6 (q+5) r'.length) a w:=by
      rintro a' w' ⟨s2,G2,E2,hK2,h2⟩;refine ih r' (q+5) (by simp at hn;omega) (by have:=next 5;simpa using this) hc h2 hK2
     have gw:=aym h g tn hK rest (Q:=Q)
     have one:∀(j:Nat) (x:Oper) (js:List Nat) (A:Act) (W:World),ops[j]? =some x→x.guard=none→x.wp P A W (fun a w=>wpOps P ops Q js a w) Q→wpOps P ops Q (j::js) A W:=by
      intro j x js A W hx hgd hw;rw[wpOps_cons];unfold wpOp;rw[hx];simp only
      have:aJv x (yielded ops A.tmps)=true:=by unfold aJv;rw[hgd]
      rw[this];exact .inl hw
     have mono:∀(x:Oper) (A:Act) (W:World) (N N':Act→World→Prop),(∀a w,N a w→N' a w)→x.wp P A W N Q→x.wp P A W N' Q:=by
      intro x A W N N' hN hx;exact aqi hN hx
     have hlen:(o::o2::o3::o4::o5::r').length=r'.length+5:=by simp
     rw[hlen]
     have hrg:al6 q (r'.length+5)=q::(q+1)::(q+2)::(q+3)::(q+4)::al6 (q+5) r'.length:=by
      simp[aIr]
     rw[hrg];refine one q o _ a w (at_ 0 _ rfl) g.o1.2.2 (mono _ _ _ _ _ (fun a1 w1 h1=>?_) gw);refine one (q+1) o2 _ a1 w1 (at_ 1 _ rfl) g.o2.2.2 (mono _ _ _ _ _ (fun a2 w2 h2=>?_) h1);refine one (q+2) o3 _ a2 w2 (at_ 2 _ rfl) g.o3.2.2 (mono _ _ _ _ _ (fun a3 w3 h3=>?_) h2);refine one (q+3) o4 _ a3 w3 (at_ 3 _ rfl) g.o4.2.2 (mono _ _ _ _ _ (fun a4 w4 h4=>?_) h3);exact one (q+4) o5 _ a4 w4 (at_ 4 _ rfl) g.o5.2.2 h4
    cases hg
   split at hc
   ·rename_i ri l' ho hl
    injection hc with hc
    subst hc;have hf:Fits P nt an ops o ri:=⟨ri,ho,.inl rfl⟩
    have hrg:al6 q (o::r).length=q::al6 (q+1) r.length:=by simp[aIr]
    rw[hrg,wpOps_cons];have hi:=at_ 0 o rfl;unfold wpOp;rw[show ops[q]? =some o from hi];simp only
    have rest:∀a w,Lq B0 nt w0 G0 (fun s'=>lk P l' s' K) a w→wpOps P ops Q (al6 (q+1) r.length) a w:=by
     rintro a' w' ⟨s',G',E',hK,h'⟩;exact ih r (q+1) (by simp at hn;omega) (by have:=next 1;simpa using this) hl h' hK
    rw[Bl]at hr;split at hr
    ·rename_i hw;rw[Ck h hf hw];exact .inl (Ty h hf hr rest)
    ·rename_i hw;rw[Ck h hf hw];obtain⟨hd,hd2,_⟩:=hf.spec;refine rest _ _ ⟨_,G,E,hr,?_⟩;rw[hd];exact h.a8m hd2 R4
    exact hr.elim
   cases hc
theorem ac3{an:Ann}{ops:Array Oper}{l:List RI}(hal:a9h P nt an ops 0 ops.toList=some l){Q:Exit→Act→World→Prop}{K:PS→Prop}(h:jf B0 w0 nt G0 s G E a w)(hr:lk P l s K)(hQ:∀a w,Lq B0 nt w0 G0 K a w→Q .normal a w){id:Nat}:
  (aL0 id ops false).wp P Q a w:=by
 refine wp_region ?_;have:=ang hQ ops.toList.length ops.toList 0 (ay _) (by simp) hal h hr;rw[qu,←aJn]at this;exact this
def Inv(s:PS)(l:List RI):Prop:=∀o∈l,∀d∈o.ql,Kl s (s.base+d)
def Far(x y:RI):Prop:=(∀d∈x.makes,d∉y.ql)∧(x.isE=true→y.ql=[])
theorem aqq{o:RI}(tn:Stp P o s s1):s1.base=s.base:=by
 obtain⟨ids,e,_,rfl⟩:=tn;rw[Rx,(Ga ids s).1]
theorem afz{o:RI}{l:List RI}(tn:Stp P o s s1)(hi:Inv s l)(hf:∀x∈l,Far o x):Inv s1 l:=fun x hx d hd=>by
 rw[aqq tn]
 cases hE:o.isE with
 |true=>rw[(hf x hx).2 hE]at hd;cases hd
 |false=>exact apu tn (hi x hx d hd) (fun⟨w,hw,hm⟩=>(hf x hx).1 w hm ((show d=w by omega)▸hd)) hE
theorem aCn{an:Ann}{ops:Array Oper}{y:RI}{post:List RI}{send:PS}(gy:Good y):∀(pre:List RI) {s:PS} {G:gq} {E:Env} {a:Act} {w:World},jf B0 w0 nt G0 s G E a w→(∀x∈pre,∃o,Fits P nt an ops o x)→(∀x∈pre,aml x y)→
  Inv s (pre++y::post)→(pre++y::post).Pairwise Far→ahl P (pre++y::post) s send→∃s1,Stp P y s s1∧ahl P (pre++post) s1 send:=by
 intro pre
 induction pre with
 |nil=>intro s G E a w _ _ _ _ _ hc;exact hc
 |cons x pre ih=>
  intro s G E a w h Ox hap hinv hpw hc;obtain⟨sx,hx,hc⟩:=hc;obtain⟨o,hfx⟩:=Ox x (by simp);obtain⟨G1,E1,a1,w1,h1⟩:=aqp h hfx hx;rw[yv,J8]at hpw;have aEg:Inv sx (pre++y::post):=afz hx (fun z hz=>hinv z (by simp only[yv,fb];exact .inr hz)) hpw.1;obtain⟨s2,hy,hc2⟩:=ih h1 (fun z hz=>Ox z (by simp[hz])) (fun z hz=>hap z (by simp[hz])) aEg hpw.2 hc;obtain⟨s1',k1,k2⟩:=swap (hap x (by simp)) hfx.aEr gy h.wf (hinv x (by simp)) (hinv y (by simp)) hx hy;exact⟨s1',k1,s2,k2,hc2⟩
theorem a6l(A:Array Bool)(i j:Nat)(d:Bool):(A.setIfInBounds i true).getD j d=if j=i∧i<A.size then true else A.getD j d:=by
 rw[jd,jd,aAd];by_cases h:i=j
 ·subst h;by_cases h2:i<A.size
  ·simp[h2]
  simp[h2]
 simp[h,aLn h]
theorem Ui{A:Array Bool}{j:Nat}(h:j<A.size)(d d':Bool):A.getD j d=A.getD j d':=by simp[Array.getD,h]
end
section
variable{P:Program}{B0 nt:Nat}{w0 w w':World}{G0 G G':gq}{s s' s1 s2:PS}{E E':Env}{a:Act}
def left(n:Nat)(A:Array Bool):List Nat:=(dt n).filter fun i=> !A.getD i true
theorem mem_left{n i:Nat}{A:Array Bool}:i∈left n A↔i<n∧A.getD i true=false:=by simp[left]
theorem Mj(n:Nat)(A:Array Bool):(left n A).Pairwise (· < ·):=List.Pairwise.filter _ List.pairwise_lt_range
theorem afw{n i:Nat}{A:Array Bool}(hi:i<A.size){pre post:List Nat}(h:left n A=pre++i::post):left n (A.setIfInBounds i true)=pre++post:=by
 have e:left n (A.setIfInBounds i true)=(left n A).filter (fun j=>j !=i):=by
  unfold left;rw[List.filter_filter]
  congr 1
  funext j
  rw[a6l];by_cases hj:j=i
  ·subst hj;simp[hi]
  simp[hj]
 have hs:=Mj n A;rw[h,aay,J8]at hs;obtain⟨_,⟨h1,_⟩,h2⟩:=hs;rw[e,h,Xt,ab1]
 have e1:pre.filter (fun j=>j !=i)=pre:=a2k.2 fun j hj=>by have:=h2 j hj i (by simp);simp;omega
 have e2:post.filter (fun j=>j !=i)=post:=a2k.2 fun j hj=>by have:=h1 j hj;simp;omega
 simp[e1,e2]
def avd(l:List RI)(A:Array Bool):Prop:=∀i o,A.getD i false=true→l[i]? =some o→∀j∈o.after,A.getD j false=true
theorem adr{l:List RI}{A:Array Bool}(hc:avd l A):∀(n i:Nat),(∀o,l[i]? =some o→∀j∈o.after,A.getD j false=true)→∀k∈ahead l n i,A.getD k false=true:=by
 intro n
 induction n with
 |zero=>intro i _ k hk;simp[ahead]at hk
 |succ n ih=>
  intro i hi k hk;simp only[ahead]at hk;split at hk
  ·rename_i o ho;rcases lx.1 hk with hk|hk
   ·exact hi o ho k hk
   obtain⟨j,hj,hk⟩:=Pb.1 hk;exact ih j (fun o' ho'=>hc j o' (hi o ho j hj) ho') k hk
  cases hk
theorem ak9{l:List RI}(h:Xl l=true):∀o∈l,o.isR=false:=by
 unfold Xl at h;simp only[da]at h;intro o ho;have:=dj.1 h.1 o ho;simpa using this
theorem Uq{l:List RI}(h:Xl l=true){i:Nat}{o:RI}(hi:l[i]? =some o):(∀j∈o.after,j<i)∧∀k x,k<i→l[k]? =some x→(x.ad9 o=true∨k∈ahead l l.length i)∧x.far o=true:=by
 have hil:=(aw.1 hi).1;unfold Xl at h;rw[da]at h;have h:=h.2;rw[dj]at h;have:=h i (ez.2 hil);simp only[hi,da,dj,ez,decide_eq_true_eq]at this;obtain⟨h1,h2⟩:=this;refine⟨h1,fun k x hk hx=>?_⟩;obtain⟨h3,h4⟩:=h2 k hk;simp only[as7,hx,hi,Nr,List.contains_iff_mem]at h3;simp only[cw,hx,hi,jc]at h4;exact⟨h3,h4⟩
theorem aqb{an:Ann}{ops:Array Oper}{l:List RI}(hal:Aligned P nt an ops l)(hdr:Xl l=true){Q:Exit→Act→World→Prop}{send:PS}(hQ:∀a w,Lq B0 nt w0 G0 (· =send) a w→Q .normal a w):
  ∀(fuel:Nat) (A:Array Bool) {s:PS} {G:gq} {E:Env} {a:Act} {w:World},A.size=ops.size→avd l A→(left l.length A).length≤fuel→jf B0 w0 nt G0 s G E a w→
  Inv s ((left l.length A).map fun i=>l.getD i default)→ahl P ((left l.length A).map fun i=>l.getD i default) s send→wpAny P .any ops Q fuel A a w:=by
 have hlen:=hal.1
 have get:∀i,i<l.length→l[i]? =some (l.getD i default):=fun i hi=>by simp[cw,hi]
 have Ox:∀i,i<l.length→∃o,ops[i]? =some o∧Fits P nt an ops o (l.getD i default):=fun i hi=>by
  have h1:i<ops.size:=by omega
  exact⟨ops[i],bh h1,hal.2 i _ _ (bh h1) (get i hi)⟩
 have rdy:∀(A:Array Bool) i,i∈Ic .any ops A↔i<l.length∧A.getD i true=false∧∀j∈(l.getD i default).after,A.getD j false=true:=by
  intro A i;unfold Ic;simp only[F5,ez,da,qp];rw[←hlen];constructor
  ·rintro⟨hi,h1,h2⟩;obtain⟨o,ho,hf⟩:=Ox i hi;refine⟨hi,h1,fun j hj=>?_⟩;rw[ho]at h2;simp only[ir,jc,Ky,Nr,qp]at h2;rw[hf.spec.2.2.2]at hj;obtain⟨e,he,rfl⟩:=gr.1 hj;obtain⟨he1,he2⟩:=F5.1 he;rcases h2 e (by simpa using he1)with h3|h3
   ·rw[h3]at he2;cases he2
   exact h3
  rintro⟨hi,h1,h2⟩;obtain⟨o,ho,hf⟩:=Ox i hi;refine⟨hi,h1,?_⟩;rw[ho];simp only[ir,jc,Ky,Nr,qp];intro e he;by_cases hb:aJh .any e=true
  ·exact .inr (h2 e.on (by rw[hf.spec.2.2.2];exact gr.2 ⟨e,F5.2 ⟨by simpa using he,hb⟩,rfl⟩))
  exact .inl (by simpa using hb)
 have hpw:∀A:Array Bool,((left l.length A).map fun i=>l.getD i default).Pairwise Far:=by
  intro A;rw[aFs];refine(Mj l.length A).imp_of_mem fun{k i} hk hi hlt=>?_;have h1:=(mem_left.1 hk).1;have h2:=(mem_left.1 hi).1;have:=((Uq hdr (get i h2)).2 k _ hlt (get k h1)).2;unfold RI.far at this;simp only[da,dj,qp,aJq,decide_eq_false_iff_not,Nr,List.isEmpty_iff]at this;exact⟨this.1,fun he=>this.2.resolve_left (by rw[he];simp)⟩
 have none:∀A:Array Bool,A.size=ops.size→Ic .any ops A=[]→left l.length A=[]:=by
  intro A hA hr
  cases hL:left l.length A with
  |nil=>rfl
  |cons i r=>
   exfalso;have hi:=(mem_left (n:=l.length) (A:=A) (i:=i)).1 (by rw[hL];simp)
   have:i∈Ic .any ops A:=(rdy A i).2 ⟨hi.1,hi.2,fun j hj=>by
    have hji:=(Uq hdr (get i hi.1)).1 j hj
    have aBx:j∉left l.length A:=by
     rw[hL];intro hjm;have hs:=Mj l.length A;rw[hL,J8]at hs;rcases fb.1 hjm with rfl|hjm
     ·omega
     have:=hs.1 j hjm;omega
    have:A.getD j true≠false:=fun h=>aBx (mem_left.2 ⟨by omega,h⟩);rw[Ui (by omega) false true]
    simpa using this⟩
   rw[hr]at this;cases this
 intro fuel
 induction fuel with
 |zero=>
  intro A s G E a w hA hcl hf h hinv hc;have hL:left l.length A=[]:=j1 (by omega)
  have hr:Ic .any ops A=[]:=by
   apply avm.2;intro i hi;obtain⟨h1,h2,_⟩:=(rdy A i).1 hi;have:i∈left l.length A:=mem_left.2 ⟨h1,h2⟩;rw[hL]at this;cases this
  rw[hL]at hc;exact⟨hr,hQ _ _ ⟨s,G,E,hc,h⟩⟩
 |succ fuel ih=>
  intro A s G E a w hA hcl hf h hinv hc;refine⟨fun hr=>?_,fun i hi=>?_⟩
  ·rw[none A hA hr]at hc;exact hQ _ _ ⟨s,G,E,hc,h⟩
  obtain⟨h1,h2,h3⟩:=(rdy A i).1 hi;obtain⟨pre,post,hL⟩:=a8c (mem_left.2 ⟨h1,h2⟩);obtain⟨o,ho,hfi⟩:=Ox i h1;have hs:=Mj l.length A;rw[hL,aay]at hs
  have aE0:∀k∈pre,k<i∧k<l.length∧A.getD k true=false:=fun k hk=>by
   have hm:=(mem_left (n:=l.length) (A:=A) (i:=k)).1 (by rw[hL];simp[hk]);exact⟨hs.2.2 k hk i (by simp),hm.1,hm.2⟩
  have hap:∀x∈pre.map (fun i=>l.getD i default),aml x (l.getD i default):=by
   intro x hx;obtain⟨k,hk,rfl⟩:=gr.1 hx;obtain⟨k1,k2,k3⟩:=aE0 k hk;rcases((Uq hdr (get i h1)).2 k _ k1 (get k k2)).1 with aEm|hah
   ·exact RI.ad8 aEm
   exfalso
   have:=adr hcl l.length i (fun o' ho' j hj=>by
    rw[get i h1]at ho'
    injection ho' with ho'
    subst ho'
    exact h3 j hj) k hah
   rw[Ui (by omega) false true,k3]at this;cases this
  have ay8:=hpw A;rw[hL,fl,dr]at hinv hc ay8
  obtain⟨s1,tn,hc1⟩:=aCn (an:=an) (ops:=ops) hfi.aEr (pre.map fun i=>l.getD i default) h (fun x hx=>by
   obtain⟨k,hk,rfl⟩:=gr.1 hx;obtain⟨o',_,hf'⟩:=Ox k (aE0 k hk).2.1
   exact⟨o',hf'⟩) hap hinv ay8 hc
  refine aAk h hfi ho tn ?_;rintro a' w' ⟨s',G',E',rfl,h'⟩;have hL':=afw (by omega) hL;refine ih _ (by simpa using hA) ?_ (by rw[hL'];rw[hL]at hf;simp at hf⊢;omega) h' ?_ ?_
  ·intro j oj hj hoj m hm;rw[a6l]at hj⊢;split
   ·rfl
   by_cases hji:j=i
   ·subst hji;rw[get j h1]at hoj
    injection hoj with hoj
    subst hoj;exact h3 m hm
   rw[al (by simp[hji])]at hj;exact hcl j oj hj hoj m hm
  ·rw[hL',fl];rw[aay,J8]at ay8;refine afz tn (fun x hx=>hinv x ?_) (fun x hx=>?_)
   ·rcases lx.1 hx with hx|hx
    ·exact ab0 _ hx
    exact Vn _ (aaz _ hx)
   rcases lx.1 hx with hx|hx
   ·exact⟨(hap x hx).aHl,(hap x hx).aEv⟩
   exact ay8.2.1.1 x hx
  rw[hL',fl];exact hc1
theorem ak8{an:Ann}{ops:Array Oper}{l:List RI}(hal:Aligned P nt an ops l)(hdr:Xl l=true)(hm:P.follows .mixedOrders=true){Q:Exit→Act→World→Prop}{K:PS→Prop}(h:jf B0 w0 nt G0 s G E a w)
  (hd:∀d∈ql l,Kl s (s.base+d))(hr:lk P l s K)(hQ:∀a w,Lq B0 nt w0 G0 K a w→Q .normal a w){id:Nat}:(aL0 id ops true).wp P Q a w:=by
 obtain⟨send,hc,hK⟩:=aik (ak9 hdr) hr
 have hL:left l.length (Ns ops.size false)=dt l.length:=by
  unfold left;refine a2k.2 fun i hi=>?_;have:=ez.1 hi;rw[jd,Wr,bd (by rw[←hal.1];exact this)];rfl
 refine wp_region_any hm (aqb hal hdr (send:=send) (fun a w ⟨s',G',E',hs,h'⟩=>hQ a w ⟨s',G',E',hs▸hK,h'⟩) _ _ (by simp) ?_ ?_ (w:={w with drawn:=w.drawn+1}) (s:=s) (G:=G) (E:=E) ?_ ?_ ?_)
 ·intro i o hi _;rw[jd,Wr]at hi;split at hi<;>cases hi
 ·rw[hL];simp[hal.1]
 ·exact h.drew
 ·rw[hL,Wc];exact fun o ho d hdd=>hd d (Pb.2 ⟨o,ho,hdd⟩)
 rw[hL,Wc];exact hc
end
end Go.PI
