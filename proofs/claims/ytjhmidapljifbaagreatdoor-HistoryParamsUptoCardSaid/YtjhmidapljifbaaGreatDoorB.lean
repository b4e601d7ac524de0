/- A part of the proof for HistoryParams: PS11 to PS25. Printed from longer texts. -/
import Derived.Test.YtjhmidapljifbaaGreatDoorA
import Derived.MapKept
set_option linter.all false
set_option maxHeartbeats 64000000
open And renaming intro→aLb
open Array renaming all_eq_true_iff_forall_mem→Ki,getD_eq_getD_getElem?→j8,getElem?_append→Gw,getElem?_append_left→o7,getElem?_append_right→a3j,getElem?_eq_getElem→bd,getElem?_eq_some_iff→ig,getElem?_map→X9,getElem?_modify→D4,getElem?_push→a1o,getElem?_range→avb,getElem?_replicate→W4,getElem?_setIfInBounds→azv,getElem?_setIfInBounds_ne→W3,getElem?_setIfInBounds_self→T5,getElem?_toList→aIt,getElem_toList→aam,length_toList→qa,range→aKv,replicate→N3,size_append→Sc
open Bool renaming and_eq_true→cj,false_eq_true→fk,not_eq_true'→pz,or_eq_true→N2
open Go.Builtin renaming append_→y9,clear_→aCd,firstCells→l9,len_→aKa,nextslicecap→aJ7,zeroCells→kq
open Go.Code renaming region→aKg
open Go.Deferred renaming ofValue→azu
open Go.Instr renaming alloc→aKf,build→aKe,buildSlice→aai,checkKey→ama,entryStore→aIe,extract→aJh,findAsking→azt,findNow→aId,keyThatStays→am9,lookup→aKk,makeFunc→aJt,mapEntry→aJs,mapUpdate→av9,sameBits→am8,sameNow→aIb,slice→aKj,sliceAt→yu,sliceBound→W2,sliceBounds→pw,storeAt→aF2
open Go.IntKind renaming i64→ab
open Go.Next renaming value→alx
open Go.Op renaming equal→aIy,maxDepth→aKm
open Go.Oper renaming upon_enter→aIx,wp→aLg
open Go.Program renaming cellsOf→aEy
open Go.Region renaming binds→aIw,ready→Hm,wanted→aJ9
open Go.Result renaming andThen_ok→bh
open Go.Sem renaming run_bind→cb,run_pure→eh
open Go.Value renaming slice→aKl
open Go.World renaming cell?→aKc
open Int renaming mul_le_mul_of_nonneg_left→Z4,toNat_of_nonneg→aJf
open List renaming all_cons→Vi,all_eq_true→cz,append_of_mem→a7b,cons_append→xz,contains_eq_mem→aJ4,drop_drop→am3,eq_nil_iff_forall_not_mem→av6,eq_nil_of_length_eq_zero→ix,filter_append→a7a,filter_cons→aaf,filter_eq_self→a1k,getD→cd,getElem?_append_left→l8,getElem?_append_right→mb,getElem?_cons_zero→dm,getElem?_drop→oo,getElem?_eq_getElem→ax,getElem?_eq_none→a6z,getElem?_eq_some_iff→aw,getElem?_map→cw,getElem?_range→M5,getElem?_replicate→Q9,getElem?_set→Da,getElem?_take→jo,getElem?_toArray→zh,getElem_mem→cy,length→a3h,length_append→db,length_cons→ca,length_drop→uv,length_flatten→aJc,length_map→ag,length_nil→ed,length_replicate→aIq,length_take→dw,length_take_le'→av3,map_append→fu,map_congr_left→Cy,map_cons→gf,map_drop→aus,map_take→Gx,mem_append→jm,mem_append_left→aae,mem_append_right→V3,mem_cons→dq,mem_cons_of_mem→aad,mem_filter→C3,mem_flatMap→Ff,mem_iff_getElem→i6,mem_map→iw,mem_range→ep,mem_singleton→X7,not_mem_nil→kh,pairwise_append→aac,pairwise_cons→Ek,range→dn,range'→ake,range'_succ→aI6,range_eq_range'→aJ2,replicate→j5,set_append_right→apl,size_toArray→W0,sum_replicate_nat→aI5,take_zero→alz
open List.cons renaming injEq→av7
open Nat renaming add_assoc→qj,add_mul→ji,add_zero→Bw,eq_zero_or_pos→a74,le_of_eq→aJl,le_refl→ay,le_trans→ie,mod_eq_of_lt→aab,mod_lt→a73,mul_comm→aK5,mul_eq_zero→aIz,mul_le_mul_right→fa,not_lt→aL0,one_mul→Bd,sub_zero→Uy,zero_add→fj,zero_mul→aly
open Ne renaming symm→aL4
open Option renaming bind_eq_some_iff→agv,bind_some→Of,getD_some→j6,isSome_iff_exists→jx,map_eq_some_iff→ao,map_none→av1,map_some→ir,toList_some→alv
open Option.some renaming injEq→aj
open Prod.mk renaming injEq→br
namespace Go.PI
open Go Go.RowKit
section
variable{P:Program}{B0 nt:Nat}{w0 w w':World}{G0 G G':fy}{s s':PS}{E E':Env}{a:Act}
theorem PS.a30:∀(ids:List Nat) (s:PS),(s.ta ids).av=s.av:=by
 intro ids
 induction ids with
 |nil=>intro s;rfl
 |cons i r ih=>intro s;rw[PS.Ln,ih];rfl
theorem aub(h:j9 B0 w0 nt G0 s G E a w){t e:TypeId}{n sz:Nat}{z:List D}{ps:Array (Nat×Operand)}{qs:List (Nat×Nat×me)}(hu:P.underlying t=some (.slice e))(B6:kn P e=some sz)(hz:Fj P e=some z)
  (hn:n*sz≤2^20)(hzl:z.length=sz)(h0:0<sz)(hq:Q4 sz ps.toList=some qs){pd:List (Nat×Nat×List D)}{Ya:List Nat}{ds:List D}(hp:Nz s qs=some (pd,Ya))(hf:Vu (j5 n z).flatten pd=some ds):
  ∃G' vs,G.le G'∧j9 B0 w0 nt G0 (s.ta Ya) G' E a w∧Holds G' E (s.ta Ya) vs (.arr sz (chunks sz n ds))∧vs.size=n*sz∧(chunks sz n ds).length=n∧
   (aai t n (ps.map fun(p:Nat×Operand)=>(p.1,a.eval p.2))).run P w= .ok (.slice (some ⟨w.heap.size,0,none⟩) n n) (w.alloc (.cells vs e)):=by
 obtain⟨G',hle,h',hg⟩:=h.ta Ya;obtain⟨q1,q2⟩:=U1 hq;obtain⟨r1,r2⟩:=ahy h hle q1 (fun i p q hp hq=>(q2 i p q hp hq).2) hp hg;obtain⟨zv,hzv,hzr,hzc⟩:=Fi hz h'
 have hzs:zv.cells.size=sz:=by have:=hzc.1;simp at this;omega
 have hzero:Nh G' E (s.ta Ya) (((j5 n z).flatten).map .d) ((aKv (n*sz)).map ((if n*sz=0 then(#[]:Array Value)else zv.cells)[· %(if n*sz=0 then(#[]:Array Value)else zv.cells).size]!)):=by
  by_cases hn0:n*sz=0
  ·have hn':n=0:=by
    rcases aIz.1 hn0 with h|h
    ·exact h
    omega
   subst hn';simp[Nh]
  rw[al hn0];have:=a8m h' hzc (n:=n) (by omega);rw[hzl]at this;exact this
 have aDk:∀{cs:List D} {us:Array Value},Nh G' E s (cs.map .d) us→Nh G' E (s.ta Ya) (cs.map .d) us:=by
  intro cs us hr;refine⟨hr.1,fun i c u hc hu=>?_⟩;have:=hr.2 i c u hc hu;simp only[cw,ao]at hc;obtain⟨x,_,rfl⟩:=hc;exact this
 obtain⟨vs,hv1,hv2⟩:=Yp (G:=G') (E:=E) (s:=s.ta Ya) (place:=fun i=>some (i*sz,sz)) (ev:=a.eval) (l:=ps.toList) (ps:=pd.map fun p=>(p.1,p.2.1,p.2.2.map .d)) (by simpa using r1) (fun i p q hp hq=>by
  simp only[cw,ao]at hq;obtain⟨q',hq',rfl⟩:=hq
  have hil:i<qs.length:=by have:=(aw.1 hp).1;omega
  have hq0:qs[i]? =some qs[i]:=ax hil;obtain⟨k1,k2,k3⟩:=r2 i p _ q' hp hq0 hq';obtain⟨⟨m1,m2⟩,_⟩:=q2 i p _ hp hq0
  exact⟨by simp[k1,k2,m1,←m2],aDk k3⟩) (ay6 hf) hzero
 have hlen:=ac9 hf;simp only[aJc,List.map_replicate,aI5,hzl]at hlen
 have hdl:ds.length=n*sz:=by simpa using hlen
 obtain⟨c1,c2⟩:=a6i sz n ds hdl
 have hvs:vs.size=n*sz:=by have:=hv2.1;simp at this;omega
 refine⟨G',vs,hle,h',⟨by rw[c1,hvs];exact ay _,fun i e hi=>(c2 i e hi).1,fun i e j x u hi hj hu=>?_⟩,hvs,c1,?_⟩
 ·obtain⟨k1,k2⟩:=c2 i e hi
  have hjl:j<sz:=by have:=(aw.1 hj).1;omega
  rw[k2 j hjl]at hj;exact hv2.2 (i*sz+j) (.d x) u (by simp[hj]) hu
 unfold aai;simp only[cb,underlying,run_program,bh,hu,eh,qx B6];rw[al (by omega)]
 have hps:(ps.map fun(p:Nat×Operand)=>(p.1,a.eval p.2)).toList=ps.toList.map fun p=>(p.1,a.eval p.2):=by simp
 by_cases hn0:n*sz=0
 ·rw[bm hn0];simp only[bm hn0]at hv1;simp only[cb,eh,bh,hps,hv1];rfl
 rw[al hn0];simp only[al hn0]at hv1;simp only[cb,hzr,eh,bh,hps,hv1];rfl
theorem j9.fixed(h:j9 B0 w0 nt G0 s G E a w){sz n:Nat}{dd:List (List D)}{vs:Array Value}(et:TypeId)(hh:Holds G E s vs (.arr sz dd))(hl:dd.length=n):
  ∃G',G.le G'∧j9 B0 w0 nt G0 s G' E a (w.alloc (.cells vs et))∧gj G' (.ft sz dd) (.slice (some ⟨w.heap.size,0,none⟩) n n):=by
 let G':fy:={cv:=fun b o=>if b=w.heap.size then vs[o]? else G.cv b o,mv:=G.mv}
 have aoc:∀o,(w.alloc (.cells vs et)).cell? ⟨w.heap.size,o,none⟩=vs[o]? :=fun o=>by
  unfold aKc;simp only[Ld];rfl
 have hle:G.le G':=⟨fun b o v hc=>by
  have:=h.gok.lt hc;show(if b=w.heap.size then vs[o]? else G.cv b o)=_
  rw[al (by omega)];exact hc,fun _ _ h=>h⟩
 have hb:Bel (Plain s.ctx) w.heap.size w (w.alloc (.cells vs et)):=(Bel.refl _ _).alloc (ay _) _
 have hok:GOk G' (w.alloc (.cells vs et)):=by
  refine⟨fun b o v hc=>?_,fun b es hc=>?_⟩
  ·change(if b=w.heap.size then vs[o]? else G.cv b o)=some v at hc;split at hc
   ·rename_i e;subst e;rw[aoc];exact hc
   exact(hb.cell (p:=⟨b,o,none⟩) (h.gok.lt hc)).trans (h.gok.cv b o v hc)
  obtain⟨ents,clock,h1,h2⟩:=h.gok.mv b es hc;exact⟨ents,clock,(hb.block b (h.gok.ltm hc)).trans h1,h2⟩
 refine⟨G',hle,h.a6m hb hle hok (fun b o hlt=>?_) (fun _ _=>rfl),?_⟩
 ·show(if b=w.heap.size then vs[o]? else G.cv b o)=_;rw[al (by omega)]
 have k:=gj.ft (G:=G') (sz:=sz) (l:=dd) (b:=w.heap.size) (o:=0) (c:=n) (by omega) hh.2.1 (fun i j hi hj=>?_) (fun i e j x v hi hj hv=>?_)
 ·rw[hl]at k;exact k
 ·show(if w.heap.size=w.heap.size then vs[0+i*sz+j]? else _).isSome;rw[bm rfl,fj];have h1:=hh.1;have:(i+1)*sz≤dd.length*sz:=fa _ hi;rw[ji,Bd]at this;rw[bd (by omega)];rfl
 change(if w.heap.size=w.heap.size then vs[0+i*sz+j]? else _)=some v at hv;rw[bm rfl,fj]at hv;exact(hh.2.2 i e j x v hi hj hv).mono hle
theorem ak4(h:j9 B0 w0 nt G0 s G E a w){t e:TypeId}{n sz:Nat}{z:List D}{ps:Array (Nat×Operand)}{qs:List (Nat×Nat×me)}(hu:P.underlying t=some (.slice e))(B6:kn P e=some sz)(hz:Fj P e=some z)
  (hn:n*sz≤2^20)(hzl:z.length=sz)(h0:0<sz)(hq:Q4 sz ps.toList=some qs){d:Nat}{dst:Option Nat}{ids:List Nat}{ef:lk}{im:Bool}(he:(jv.yk im n sz z qs).og d s=some (ids,ef)):
  qt P B0 nt w0 G0 a w dst (((aai t n (ps.map fun(p:Nat×Operand)=>(p.1,a.eval p.2))).run P w).andThen fun v w=> .ok (.value v) w) (ef.app dst (s.ta ids)):=by
 simp only[jv.og]at he;split at he
 ·rename_i pd Ya hp;split at he
  ·rename_i ds hf;obtain⟨G',vs,hle,h',hh,hvs,c1,run⟩:=aub h hu B6 hz hn hzl h0 hq hp hf;split at he
   ·simp only[lk.rz,aj,br]at he;obtain⟨rfl,rfl⟩:=he;rw[run];obtain⟨G2,aDo,h2,hr⟩:=h'.fixed e hh c1;exact⟨_,_,_,G2,_,_,.d (.ft sz (chunks sz n ds)),rfl,.inl rfl,h2,hr,rfl⟩
   ·cases he
   simp only[aj,br]at he;obtain⟨rfl,rfl⟩:=he;have hf':=h'.new d _ vs e hh;rw[run];refine⟨_,_,_,G',_,_,.ref d (s.av d+1) n,rfl,.inl rfl,hf',?_,rfl⟩;have:=Av (G':=G') (s':={s.ta Ya with da:=lb (s.ta Ya).da d (some (.arr sz (chunks sz n ds))),av:=lb (s.ta Ya).av d ((s.ta Ya).av d+1)})
    (E':={E with b:=lb E.b d w.heap.size,n:=lb E.n d vs.size}) (id:=d) (sz:=sz) (n:=(chunks sz n ds).length) (len:=n) (cap:=n) (g:=w.heap.size) (ck _ _ _) rfl (ck _ _ _) (by
     show lb E.n d _ d=_
     rw[ck,hvs]) c1 (ay _)
   have hv:lb (s.ta Ya).av d ((s.ta Ya).av d+1) d=s.av d+1:=by rw[ck,PS.a30]
   simpa[hv]using this
  cases he
 cases he
theorem Gi{k:IntKind}{i:Int}{y:Nat}(h0:0≤i)(h1:i≤y)(c:BoundsCode)(w:World):(W2 (.int k i) y c).run P w= .ok i.toNat w:=by
 unfold W2;simp only[cb,R7,bh,bm (aLb h0 h1),eh]
theorem ado(h:j9 B0 w0 nt G0 s G E a w){t e:TypeId}{n:Nat}{x:me}{lo hi:Option me}{vx:Value}{vlo vhi:Option Value}(hu:P.underlying t=some (.slice e))(hn:kn P e=some n)
  (hx:ij G E s (x.ev s) vx)(hlo:(lo=none∧vlo=none)∨∃o v,lo=some o∧vlo=some v∧ij G E s (o.ev s) v)(hhi:(hi=none∧vhi=none)∨∃o v,hi=some o∧vhi=some v∧ij G E s (o.ev s) v)
  {d:Nat}{ids:List Nat}{ef:lk}(he:(jv.slice n x lo hi).og d s=some (ids,ef)):
  ∃u y,(yu t vx vlo vhi none).run P w= .ok u w∧ids=[]∧ef= .val y∧ij G E s y u:=by
 simp only[jv.og]at he;split at he
 ·rename_i sz l io hxe hio;rw[hxe]at hx;split at he
  ·rename_i j hj;split at he
   ·rename_i hc;simp only[lk.rz,aj,br]at he;obtain⟨rfl,rfl⟩:=he;obtain⟨rfl,Io,hjl⟩:=hc
    have key:∀(b:Option Addr) (cap:Nat),vx= .slice b l.length cap→l.length≤cap→(yu t vx vlo vhi none).run P w= .ok (.slice (if cap=io.getD 0 then b else b.map (·.add (io.getD 0*sz))) (j-io.getD 0) (cap-io.getD 0)) w:=by
     intro b cap hv afg;subst hv
     have hb:(pw true l.length cap vlo vhi none).run P w= .ok (io.getD 0,j,cap) w:=by
      unfold pw
      have hh:(vhi=none∧j=l.length)∨∃v,vhi=some v∧∀c,(W2 v cap c).run P w= .ok j w:=by
       rcases hhi with ⟨rfl,rfl⟩|⟨o,v,rfl,rfl,hv⟩
       ·simp only[Qp,aj]at hj;exact .inl ⟨rfl,hj.symm⟩
       simp only[Qp]at hj;split at hj
       ·rename_i k q hq;rw[hq]at hv;cases hv;split at hj
        ·rename_i h0
         injection hj with hj
         subst hj;exact .inr ⟨_,rfl,fun c=>Gi h0 (by omega) c w⟩
        cases hj
       cases hj
      have hl:(vlo=none∧io.getD 0=0)∨∃v,vlo=some v∧∀c,(W2 v j c).run P w= .ok (io.getD 0) w:=by
       rcases hlo with ⟨rfl,rfl⟩|⟨o,v,rfl,rfl,hv⟩
       ·simp only[V7,aj]at hio;subst hio;exact .inl ⟨rfl,rfl⟩
       simp only[V7]at hio;split at hio
       ·rename_i k q hq;rw[hq]at hv;cases hv;split at hio
        ·rename_i h0
         injection hio with hio
         subst hio;exact .inr ⟨_,rfl,fun c=>Gi h0 (by simp at Io;omega) c w⟩
        cases hio
       cases hio
      rcases hh with ⟨rfl,rfl⟩|⟨v1,rfl,e1⟩<;>rcases hl with ⟨rfl,e0⟩|⟨v2,rfl,e2⟩
      ·simp[cb,e0]
      ·simp[cb,e2]
      ·simp[cb,e1,e0]
      simp[cb,e1,e2]
     unfold yu;simp only[cb,underlying,run_program,bh,hu,eh];unfold aKj;simp only[cb,underlying,run_program,bh,hu,eh,hb,qx hn]
    have len:((l.take j).drop (io.getD 0)).length=j-io.getD 0:=by simp;omega
    have get:∀i e,((l.take j).drop (io.getD 0))[i]? =some e→l[io.getD 0+i]? =some e∧i<j-io.getD 0:=by
     intro i e hi;have:=(aw.1 hi).1;rw[oo,jo]at hi;split at hi
     ·exact⟨hi,by omega⟩
     cases hi
    cases hx with
    |V6=>
     have hj0:j=0:=by simpa using hjl
     subst hj0
     have hi0:io.getD 0=0:=by omega
     refine⟨_,_,key none 0 rfl (by simp),rfl,rfl,?_⟩;rw[hi0];exact gj.V6
    | @Xg _ a c=>
     have hj0:j=0:=by simpa using hjl
     subst hj0
     have hi0:io.getD 0=0:=by omega
     refine⟨_,_,key (some a) c rfl (by simp),rfl,rfl,?_⟩;rw[hi0];split<;>exact gj.Xg
    | @ft _ _ b o c hc hs k1 k2=>
     refine⟨_,_,key (some ⟨b,o,none⟩) c rfl hc,rfl,rfl,?_⟩;by_cases hci:c=io.getD 0
     ·have he':(l.take j).drop (io.getD 0)=[]:=ix (by rw[len];omega);rw[bm hci,he']
      have:j-io.getD 0=0:=by omega
      rw[this];exact gj.ft (l:=[]) (by simp) (by simp) (by simp) (by simp)
     rw[al hci];simp only[ir,Ei];rw[←len];refine gj.ft (by rw[len];omega) (fun i e hi=>hs _ e (get i e hi).1) (fun i q hi hq=>?_) (fun i e q x v hi hx hv=>?_)
     ·have:=k1 (io.getD 0+i) q (by omega) hq;rw[ji,←qj]at this;exact this
     refine k2 (io.getD 0+i) e q x v (get i e hi).1 hx ?_;rw[ji,←qj];exact hv
   cases he
  cases he
 ·rename_i io hxe hio;rw[hxe]at hx;cases hx;split at he
  ·rename_i j hj;split at he
   ·rename_i hc;simp only[lk.rz,aj,br]at he;obtain⟨rfl,rfl⟩:=he;obtain⟨hi0,rfl⟩:=hc
    have hb:(pw true 0 0 vlo vhi none).run P w= .ok (0,0,0) w:=by
     unfold pw
     have hh:(vhi=none)∨∃v,vhi=some v∧∀c,(W2 v 0 c).run P w= .ok 0 w:=by
      rcases hhi with ⟨rfl,rfl⟩|⟨o,v,rfl,rfl,hv⟩
      ·exact .inl rfl
      simp only[Qp]at hj;split at hj
      ·rename_i k q hq;rw[hq]at hv;cases hv;split at hj
       ·rename_i h0;simp only[aj]at hj;refine .inr ⟨_,rfl,fun c=>?_⟩;have:=Gi (P:=P) (k:=k) h0 (y:=0) (by omega) c w
        rwa[hj]at this
       cases hj
      cases hj
     have hl:(vlo=none)∨∃v,vlo=some v∧∀c,(W2 v 0 c).run P w= .ok 0 w:=by
      rcases hlo with ⟨rfl,rfl⟩|⟨o,v,rfl,rfl,hv⟩
      ·exact .inl rfl
      simp only[V7]at hio;split at hio
      ·rename_i k q hq;rw[hq]at hv;cases hv;split at hio
       ·rename_i h0;simp only[aj]at hio;subst hio;simp only[j6]at hi0;refine .inr ⟨_,rfl,fun c=>?_⟩;have:=Gi (P:=P) (k:=k) h0 (y:=0) (by omega) c w
        rwa[hi0]at this
       cases hio
      cases hio
     rcases hh with rfl|⟨v1,rfl,e1⟩<;>rcases hl with rfl|⟨v2,rfl,e2⟩
     ·simp[cb]
     ·simp[cb,e2]
     ·simp[cb,e1]
     simp[cb,e1,e2]
    refine⟨.slice none 0 0,.d .cq,?_,rfl,rfl,gj.cq⟩;unfold yu;simp only[cb,underlying,run_program,bh,hu,eh];unfold aKj;simp only[cb,underlying,run_program,bh,hu,eh,hb,qx hn];rfl
   cases he
  cases he
 cases he
theorem j9.aye(h:j9 B0 w0 nt G0 s G E a w){id sz n j m:Nat}{b b':B}(hb:s.da id=some b)(hd:b.Cz=some (sz,n))(hd':b'.Cz=some (sz,j))(hmn:m≤E.n id)(hh:∀cells,Holds G E s cells b→Holds G E s cells b'):
  j9 B0 w0 nt G0 {s with da:=lb s.da id (some b'),av:=lb s.av id (s.av id+1)} G {E with n:=lb E.n id m} a w:=by
 have hne:∀i,lb s.av id (s.av id+1) i=s.av i→i≠id:=by
  intro i hi e;subst e;rw[ck]at hi;omega
 have hm:Hk E {E with n:=lb E.n id m} s {s with da:=lb s.da id (some b'),av:=lb s.av id (s.av id+1)}:=by
  refine⟨fun i=>?_,fun i sz n' hv va=>?_,fun i b1 hv va hva=>?_,fun i hv hp=>⟨hp,rfl⟩⟩
  ·show _≤lb s.av id (s.av id+1) i;by_cases e:i=id
   ·subst e;rw[ck];omega
   rw[gu _ _ _ _ e];exact ay _
  ·have e:=hne i hv;simp only[PS.Cz,gu _ _ _ _ e]at va;exact⟨n',va,ay _,fun _=>⟨rfl,gu _ _ _ _ e⟩⟩
  have e:=hne i hv;simp only[gu _ _ _ _ e]at va;exact⟨⟨b1,va,hva⟩,rfl⟩
 refine⟨h.size,h.defers,h.base,h.below,h.gok,h.gle,h.Ip,fun t=>ij.move (fy.kl _) hm (h.tmp t),fun i b1 va=>?_,fun i k bi bk hi hk hik=>?_,fun i es hi=>?_,h.Qq,fun p=>ij.move (fy.kl _) hm (h.ctx p),h.tb⟩
 ·by_cases e:i=id
  ·subst e;simp only[ck,aj]at va;subst va;obtain⟨k1,k2,cells,et,k3,k4,k5⟩:=h.da i _ hb
   have k5':Holds G E s cells b:=by cases b<;>exact k5
   have k6:=(hh cells k5').move (fy.kl G) hm;unfold Sj;simp only[ck];refine⟨k1,k2,cells,et,k3,by omega,?_⟩;cases b'<;>exact k6
  simp only[gu _ _ _ _ e]at va;have k:=h.da i _ va;exact k.move (fy.kl _) hm rfl k.2.1 rfl (gu _ _ _ _ e)
 ·have un:∀i bi,lb s.da id (some b') i=some bi→∃b2,s.da i=some b2:=by
   intro i bi hi;by_cases e:i=id
   ·subst e;exact⟨_,hb⟩
   rw[gu _ _ _ _ e]at hi;exact⟨bi,hi⟩
  obtain⟨b2,h2⟩:=un i bi hi;obtain⟨b3,h3⟩:=un k bk hk;exact h.inj i k b2 b3 h2 h3 hik
 obtain⟨h1,h2,ents,clock,h3,h4,h5,h6⟩:=h.mp i es hi;exact⟨h1,h2,ents,clock,h3,h4,fun i e x hx hy=>⟨(h5 i e x hx hy).1,ij.Dj (fy.kl _) hm (h5 i e x hx hy).2⟩,h6⟩
theorem Holds.take{cells:Array Value}{sz j:Nat}{dd:List (List D)}(h:Holds G E s cells (.arr sz dd)):Holds G E s cells (.arr sz (dd.take j)):=by
 obtain⟨k5,k6,k7⟩:=h;refine⟨?_,fun q e hq=>?_,fun q e p x u hq hp hu=>?_⟩
 ·have:(dd.take j).length*sz≤dd.length*sz:=fa _ (av3 _ _);omega
 ·rw[jo]at hq;split at hq
  ·exact k6 q e hq
  cases hq
 rw[jo]at hq;split at hq
 ·exact k7 q e p x u hq hp hu
 cases hq
theorem Holds.aCj{cells:Array Value}{sz j:Nat}{dd:List (List C)}(h:Holds G E s cells (.qq sz dd)):Holds G E s cells (.qq sz (dd.take j)):=by
 obtain⟨k5,k6,k7⟩:=h;refine⟨?_,fun q e hq=>?_,fun q e p x u hq hp hu=>?_⟩
 ·have:(dd.take j).length*sz≤dd.length*sz:=fa _ (av3 _ _);omega
 ·rw[jo]at hq;split at hq
  ·exact k6 q e hq
  cases hq
 rw[jo]at hq;split at hq
 ·exact k7 q e p x u hq hp hu
 cases hq
theorem Hp{t e:TypeId}{n:Nat}(hu:P.underlying t=some (.slice e))(hn:kn P e=some n){k k':IntKind}{j:Int}(h0:0≤j){b:Option Addr}{len cap:Nat}(hc:j.toNat≤cap):
  (yu t (.slice b len cap) none (some (.int k j)) (some (.int k' j))).run P w= .ok (.slice (if j.toNat=0 then b else b.map (·.add 0)) j.toNat j.toNat) w:=by
 have hb:(pw true len cap none (some (.int k j)) (some (.int k' j))).run P w= .ok (0,j.toNat,j.toNat) w:=by
  unfold pw;simp only[cb,Gi h0 (show j≤(cap:Nat)by omega),bh,Gi h0 (show j≤(j.toNat:Nat)by omega),eh]
 unfold yu;simp only[cb,underlying,run_program,bh,hu,eh];unfold aKj;simp only[cb,underlying,run_program,bh,hu,eh,hb,qx hn,aly,Uy]
theorem aar(h:j9 B0 w0 nt G0 s G E a w){t e:TypeId}{n:Nat}{x j k:me}{vx vj vk:Value}(hu:P.underlying t=some (.slice e))(hn:kn P e=some n)
  (hx:ij G E s (x.ev s) vx)(hj:ij G E s (j.ev s) vj)(hk:ij G E s (k.ev s) vk){d:Nat}{dst:Option Nat}{ids:List Nat}{ef:lk}(he:(jv.slice3 n x j k).og d s=some (ids,ef)):
  qt P B0 nt w0 G0 a w dst (((yu t vx none (some vj) (some vk)).run P w).andThen fun v w=> .ok (.value v) w) (ef.app dst (s.ta ids)):=by
 simp only[jv.og]at he;split at he
 ·rename_i ka p kb q e2 e3;rw[e2]at hj;rw[e3]at hk;cases hj;cases hk;split at he
  ·rename_i hpq;obtain⟨rfl,h0⟩:=hpq;generalize x.ev s=y at he hx
   cases y with
   |d z=>
    cases z with
    |ft sz l=>
     simp only[Se]at he;split at he
     ·rename_i hc;obtain⟨rfl,hl⟩:=hc;simp only[lk.rz,aj,br]at he;obtain⟨rfl,rfl⟩:=he
      cases hx with
      |V6=>
       rw[Hp hu hn h0 (by simp at hl;omega)]
       have hp:p.toNat=0:=by simp at hl;omega
       rw[hp];simp only[ne_eq,not_true_eq_false,and_false,ee,reduceIte,alz];exact qt.val h rfl gj.V6
      | @Xg _ a c=>
       rw[Hp hu hn h0 (by simp at hl;omega)]
       have hp:p.toNat=0:=by simp at hl;omega
       rw[hp];simp only[ne_eq,not_true_eq_false,and_false,ee,reduceIte,alz];exact qt.val h rfl gj.Xg
      | @ft _ _ b o c hc hs k1 k2=>
       rw[Hp hu hn h0 (by omega)];by_cases hp:p.toNat=0∧l≠[]
       ·rw[bm hp,hp.1];exact qt.val h rfl gj.Np
       rw[al hp]
       have hb:(if p.toNat=0 then(some ⟨b,o,none⟩:Option Addr)else(some ⟨b,o,none⟩:Option Addr).map (·.add 0))=some ⟨b,o,none⟩:=by
        split
        ·rfl
        simp only[ir,Ei,Bw]
       rw[hb];refine qt.val h rfl ?_
       have len:(l.take p.toNat).length=p.toNat:=by simp;omega
       have get:∀(i:Nat) (e:List D),(l.take p.toNat)[i]? =some e→l[i]? =some e:=by
        intro i e hi;rw[jo]at hi;split at hi
        ·exact hi
        cases hi
       have:=gj.ft (G:=G) (sz:=sz) (l:=l.take p.toNat) (b:=b) (o:=o) (c:=p.toNat) (by rw[len];exact ay _) (fun i e hi=>hs i e (get i e hi)) (fun i q hi hq=>k1 i q (by omega) hq) (fun i e q x v hi hx hv=>k2 i e q x v (get i e hi) hx hv);rw[len]at this;exact this
     cases he
    |Np=>
     simp only[Se]at he;split at he
     ·rename_i hp;simp only[lk.rz,aj,br]at he;obtain⟨rfl,rfl⟩:=he;cases hx;rename_i b o c;rw[Hp hu hn h0 (by omega),bm hp,hp];exact qt.val h rfl gj.Np
     cases he
    |cq=>
     simp only[Se]at he;split at he
     ·rename_i hp;simp only[lk.rz,aj,br]at he;obtain⟨rfl,rfl⟩:=he;cases hx;rw[Hp hu hn h0 (by omega),bm hp,hp];exact qt.val h rfl gj.cq
     cases he
    |_=>cases he
   |ref id av n0=>
    simp only[Se]at he;split at he
    ·rename_i sz dd hle;split at he
     ·rename_i hc;obtain⟨rfl,hl,aIi⟩:=hc;simp only[aj,br]at he;obtain⟨rfl,rfl⟩:=he;obtain⟨v1,v2⟩:=xm hle;obtain⟨_,k2⟩:=hx.2 v1 _ _ (vb v2);obtain⟨cap,c1,c2,rfl⟩:=k2 hl;rw[Hp hu hn h0 (by omega)];obtain⟨_,_,_,a56,_,_⟩:=h.xp v2
      have hm0:p.toNat*sz≤E.n id:=by rw[c1];exact fa _ (by omega)
      have hf:=h.aye (b':= .arr sz (dd.take p.toNat)) (j:=p.toNat) v2 rfl (by simp[B.Cz];omega) hm0 (fun _ q=>q.take);refine⟨_,_,w,G,_,_,.ref id (s.av id+1) p.toNat,rfl,.inl rfl,hf,?_,rfl⟩
      have ea:(if p.toNat=0 then some (⟨E.b id,0,none⟩:Addr)else(some (⟨E.b id,0,none⟩:Addr)).map (·.add 0))=some ⟨E.b id,0,none⟩:=by
       split
       ·rfl
       simp[Ei]
      rw[ea];have:=Av (G':=G) (s':={s with da:=lb s.da id (some (.arr sz (dd.take p.toNat))),av:=lb s.av id (s.av id+1)}) (E':={E with n:=lb E.n id (p.toNat*sz)}) (id:=id) (sz:=sz) (n:=p.toNat) (len:=p.toNat) (cap:=p.toNat) (g:=E.b id) (ck _ _ _) (by simp[B.Cz];omega) rfl (ck _ _ _) rfl (ay _);simpa[ck]using this
     cases he
    cases he
   |_=>cases he
  cases he
 cases he
end
end Go.PI
namespace Go.PI
open Go Go.RowKit
section
variable{P:Program}{B0 nt:Nat}{w0 w w':World}{G0 G G':fy}{s s':PS}{E E':Env}{a:Act}
theorem aaq(h:j9 B0 w0 nt G0 s G E a w){t e:TypeId}{n:Nat}{x j:me}{vx vj:Value}(hu:P.underlying t=some (.slice e))(hn:kn P e=some n)
  (hx:ij G E s (x.ev s) vx)(hj:ij G E s (j.ev s) vj){d:Nat}{dst:Option Nat}{ids:List Nat}{ef:lk}(he:(jv.No n x j).og d s=some (ids,ef)):
  qt P B0 nt w0 G0 a w dst (((yu t vx none (some vj) none).run P w).andThen fun v w=> .ok (.value v) w) (ef.app dst (s.ta ids)):=by
 have key:∀(b:Option Addr) (len cap:Nat) (k:IntKind) (p:Int),0≤p→p≤cap→(yu t (.slice b len cap) none (some (.int k p)) none).run P w= .ok (.slice (if cap=0 then b else b.map (·.add 0)) p.toNat cap) w:=by
  intro b len cap k p h0 hc
  have hb:(pw true len cap none (some (.int k p)) none).run P w= .ok (0,p.toNat,cap) w:=by
   unfold pw;simp only[cb,Gi h0 (show p≤(cap:Nat)by omega),bh,eh]
  unfold yu;simp only[cb,underlying,run_program,bh,hu,eh];unfold aKj;simp only[cb,underlying,run_program,bh,hu,eh,hb,qx hn,aly,Uy]
 simp only[jv.og]at he;split at he
 ·rename_i id av m kk k hxe hje;rw[hxe]at hx;rw[hje]at hj;cases hj;split at he
  ·rename_i sz dd hle;split at he
   ·rename_i hc;simp only[aj,br]at he;obtain⟨rfl,rfl⟩:=he;obtain⟨rfl,hl,h0,hkm⟩:=hc;obtain⟨v1,v2⟩:=xm hle;obtain⟨_,k2⟩:=hx.2 v1 _ _ (vb v2);obtain⟨cap,c1,c2,rfl⟩:=k2 hl;rw[key _ _ _ _ _ h0 (by omega)];have hf:=h.aye (b':= .arr sz (dd.take k.toNat)) (j:=k.toNat) (m:=E.n id) v2 rfl (by simp[B.Cz];omega) (ay _) (fun _ q=>q.take);refine⟨_,_,w,G,_,_,.ref id (s.av id+1) k.toNat,rfl,.inl rfl,hf,?_,rfl⟩
    have ea:(if cap=0 then some (⟨E.b id,0,none⟩:Addr)else(some (⟨E.b id,0,none⟩:Addr)).map (·.add 0))=some ⟨E.b id,0,none⟩:=by
     split
     ·rfl
     simp[Ei]
    rw[ea];have:=Av (G':=G) (s':={s with da:=lb s.da id (some (.arr sz (dd.take k.toNat))),av:=lb s.av id (s.av id+1)}) (E':={E with n:=lb E.n id (E.n id)}) (id:=id) (sz:=sz) (n:=k.toNat) (len:=k.toNat) (cap:=cap) (g:=E.b id) (ck _ _ _) (by simp[B.Cz];omega) rfl (by simp only[ck];exact c1) rfl (by omega);simpa[ck]using this
   cases he
  cases he
 ·rename_i kk k hxe hje;rw[hxe]at hx;rw[hje]at hj;cases hj;cases hx;split at he
  ·rename_i hk;simp only[lk.rz,aj,br]at he;obtain⟨rfl,rfl⟩:=he;subst hk;rw[key none 0 0 kk 0 (by omega) (by omega)];exact qt.val h rfl gj.cq
  cases he
 cases he
theorem acx{t u e ty:TypeId}{i:TypeInfo}{z:Value}{ik k:IntKind}(ht:P.underlying t=some (.slice e))(hu:P.underlying u=some (.int ik))(hi:P.info? e=some i)(hz:i.zero=some z){args:Array Value}{Ej:Array TypeId}
  {n:Int}(ha0:args[0]? =some (.slice none 0 0))(ha1:args[1]? =some (.int k n))(h0:Ej[0]? =some t)(h1:Ej[1]? =some u)(hn:0<n)(hs:0<i.size)
  (hb:n*i.bytes≤2^47)(hbp:0<i.bytes):
  (y9 Ej ty args).run P w= .ok (.slice (some ⟨w.heap.size,0,none⟩) n.toNat (grownCap w n.toNat 0 e))
   (w.drew.alloc (.cells (kq z.cells n.toNat++kq z.cells (grownCap w n.toNat 0 e-n.toNat)) e)):=by
 have hle:n≤2^47:=by
  have:n*1≤n*i.bytes:=Z4 (by omega) (by omega);omega
 have hw:ab.wrap n=n:=cu n (by omega) (by omega)
 have axn:¬(n<0):=by omega
 have h48:¬(2^48<n*(i.bytes:Int)):=by omega
 have aGw:¬(281474976710656<n*(i.bytes:Int)):=by omega
 have hn0:¬(n.toNat*i.size=0):=by
  intro h;rcases aIz.1 h with h|h<;>omega
 have a56:¬(0+n.toNat≤0):=by omega
 have aBl:¬(9223372036854775807<((0+n.toNat:Nat):Int)):=by omega
 have hbn:n.toNat*i.bytes≤2^47:=by
  have:((n.toNat*i.bytes:Nat):Int)=n*i.bytes:=by rw[Int.natCast_mul,aJf (by omega)]
  omega
 have aBm:¬(281474976710656<aJ7 n.toNat 0*i.bytes):=by
  have:=growslice_fits (need:=n.toNat) (old:=0) (bytes:=i.bytes) (by omega) (by omega);omega
 have e2:n.toNat≠0:=by omega
 have e3:i.size≠0:=by omega
 have ro:∀w,(l9 i.size 0 (.slice none 0 0)).run P w= .ok ([]:List Value).toArray w:=fun w=>run_firstCells_none w i.size 0 0 0;have ai:∀w,(asInt (.int k n)).run P w= .ok n w:=fun _=>rfl
 have e4:(max n 0:Int)=n:=by omega
 have aGv:¬(9223372036854775807<n):=by omega
 have hmx:¬(n≤0):=by omega
 unfold y9;rw[ha0,ha1,h0,h1];simp[run_underlying ht,run_underlying hu,sizeOf,typeInfo,zeroValue,hi,hz,ai,hw,axn,h48,aGw,e2,e3,aBl,aBm,aGv,e4,hmx,Question.forced,ro,newRow,grownCap];exact fun h=>absurd h hn0
theorem ak8(h:j9 B0 w0 nt G0 s G E a w){t u e ty:TypeId}{i:TypeInfo}{z:Value}{ik:IntKind}{zd:List D}(ht:P.underlying t=some (.slice e))(hu:P.underlying u=some (.int ik))(hi:P.info? e=some i)(hz:i.zero=some z)
  (hzd:Fj P e=some zd)(hzl:zd.length=i.size)(B6:0<i.size)(hbp:0<i.bytes){args:Array Value}{Ej:Array TypeId}{x y:me}{vx vy:Value}(ha0:args[0]? =some vx)(ha1:args[1]? =some vy)(h0:Ej[0]? =some t)(h1:Ej[1]? =some u)
  (hx:ij G E s (x.ev s) vx)(hy:ij G E s (y.ev s) vy){d:Nat}{dst:Option Nat}{ids:List Nat}{ef:lk}(he:(jv.a2t i.size i.bytes zd x y).og d s=some (ids,ef)):
  qt P B0 nt w0 G0 a w dst (((y9 Ej ty args).run P w).andThen fun v w=> .ok (.value v) w) (ef.app dst (s.ta ids)):=by
 simp only[jv.og]at he;split at he
 ·rename_i k n hxe hye;rw[hxe]at hx;rw[hye]at hy;cases hx;cases hy;split at he
  ·rename_i hc;obtain⟨hn,hb⟩:=hc;simp only[aj,br]at he;obtain⟨rfl,rfl⟩:=he;rw[acx (ty:=ty) ht hu hi hz ha0 ha1 h0 h1 hn B6 hb hbp];obtain⟨zv,hzv,_,hzc⟩:=Fi (P:=P) hzd h
   have hzz:zv=z:=by
    rw[hi]at hzv;simpa[hz]using hzv.symm
   subst hzz
   have Ie:zv.cells.size=i.size:=by have:=hzc.1;simp at this;omega
   have To:Holds G E s (kq zv.cells n.toNat++kq zv.cells (grownCap w n.toNat 0 e-n.toNat)) (.arr i.size (j5 n.toNat zd)):=by
    refine⟨by simp[size_zeroCells,Ie,ji],fun q r hq=>?_,fun q r j x u hq hj hu=>?_⟩
    ·rw[Q9]at hq;split at hq
     ·injection hq with hq;subst hq;exact hzl
     cases hq
    rw[Q9]at hq;split at hq
    ·rename_i hqn
     injection hq with hq;subst hq
     have hj':j<i.size:=by have:=(aw.1 hj).1;omega
     have hlt:=Zq hqn hj';rw[Gw,bm (by rw[size_zeroCells,Ie];exact hlt)]at hu;unfold kq at hu;rw[Ie]at hu;simp only[X9,avb,hlt,dj,ir,aj]at hu
     have em:(q*i.size+j)%i.size=j:=by rw[aK5,Nat.mul_add_mod];exact aab hj'
     rw[em]at hu;refine hzc.2 j (.d x) u (by rw[cw,hj];rfl) ?_;rw[←hu,getElem!_pos _ _ (by rw[Ie];exact hj')];exact bd _
    cases hq
   have hf:=h.drew.new d (.arr i.size (j5 n.toNat zd)) _ e To;have hge:=grownCap_ge w n.toNat 0 e;refine⟨_,_,_,G,_,_,.ref d (s.av d+1) n.toNat,rfl,.inl rfl,hf,?_,rfl⟩;have:=Av (G':=G) (s':={s with da:=lb s.da d (some (.arr i.size (j5 n.toNat zd))),av:=lb s.av d (s.av d+1)})
    (E':={E with b:=lb E.b d w.drew.heap.size,n:=lb E.n d (kq zv.cells n.toNat++kq zv.cells (grownCap w n.toNat 0 e-n.toNat)).size}) (id:=d) (sz:=i.size) (n:=n.toNat) (len:=n.toNat) (cap:=grownCap w n.toNat 0 e) (g:=w.heap.size)
    (ck _ _ _) (by simp[B.Cz]) (ck _ _ _) (by
     show lb E.n d _ d=_;rw[ck];simp only[Sc,size_zeroCells,Ie];rw[←ji]
     congr 1
     omega) rfl hge
   have hv:lb s.av d (s.av d+1) d=s.av d+1:=ck _ _ _;simpa[hv]using this
  cases he
 cases he
theorem ajx(h:j9 B0 w0 nt G0 s G E a w){t e ty:TypeId}{x:me}{v:Value}{args:Array Value}{Ej:Array TypeId}(ha:args[0]? =some v)(hat:Ej[0]? =some t)(hu:P.underlying t=some (.slice e))
  (hx:ij G E s (x.ev s) v){d:Nat}{ids:List Nat}{ef:lk}(he:(jv.acn x).og d s=some (ids,ef)):
  ∃u y,(Builtin.cap_ Ej ty args).run P w= .ok u w∧ids=[]∧ef= .val y∧ij G E s y u:=by
 simp only[jv.og]at he;split at he
 ·rename_i hxe;rw[hxe]at hx;cases hx;simp only[lk.rz,aj,br]at he;obtain⟨rfl,rfl⟩:=he;refine⟨.int ab 0,.d (.int ab 0),?_,rfl,rfl,.int⟩;unfold Builtin.cap_;rw[ha,hat];simp[underlying,hu,goInt]
 cases he
theorem ak7(h:j9 B0 w0 nt G0 s G E a w){t e:TypeId}{len n:Nat}{x:me}{v:Value}(hu:P.underlying t=some (.array len e))(hn:kn P e=some n)(hx:ij G E s (x.ev s) v)
  {d:Nat}{ids:List Nat}{ef:lk}(he:(jv.acw len n x).og d s=some (ids,ef)):
  ∃u y,(yu t v none none none).run P w= .ok u w∧ids=[]∧ef= .val y∧ij G E s y u:=by
 simp only[jv.og]at he;split at he
 ·rename_i id av hxe;rw[hxe]at hx;split at he
  ·rename_i cs Ie;split at he
   ·simp only[lk.rz,aj,br]at he;obtain⟨rfl,rfl⟩:=he;obtain⟨e1,e2⟩:=tv Ie;have:=hx.2 e1 ⟨_,e2,rfl⟩;subst this;refine⟨.slice (some ⟨E.b id,0,none⟩) len len,.Ka id av len n,?_,rfl,rfl,hx.1,fun _ _=>rfl⟩
    have hb:(pw false len len none none none).run P w= .ok (0,len,len) w:=by
     unfold pw;simp[cb]
    unfold yu;simp only[cb,underlying,run_program,bh,hu,eh,yv,hb,qx hn,aly,Uy,Ei,Bw,ite_self]
   cases he
  cases he
 cases he
theorem ajr(h:j9 B0 w0 nt G0 s G E a w){t e:TypeId}{n:Nat}{x j k:me}{vx vj vk:Value}(hu:P.underlying t=some (.slice e))(hn:kn P e=some n)
  (hx:ij G E s (x.ev s) vx)(hj:ij G E s (j.ev s) vj)(hk:ij G E s (k.ev s) vk){d:Nat}{ids:List Nat}{ef:lk}(he:(jv.Hg n x j k).og d s=some (ids,ef)):
  ∃u y,(yu t vx none (some vj) (some vk)).run P w= .ok u w∧ids=[]∧ef= .val y∧ij G E s y u:=by
 simp only[jv.og]at he;split at he
 ·rename_i id av m ka p kb q e1 e2 e3;rw[e1]at hx;rw[e2]at hj;rw[e3]at hk;cases hj;cases hk;split at he
  ·rename_i hc;obtain⟨rfl,h0,hm,hel⟩:=hc;simp only[lk.rz,aj,br]at he;obtain⟨rfl,rfl⟩:=he;obtain⟨v1,v2⟩:=G5 hel;obtain⟨k1,k2⟩:=hx.2 v1 _ _ v2;obtain⟨cap,c1,c2,rfl⟩:=k2 rfl;refine⟨_,.Hg id av m p.toNat,Hp hu hn h0 (by omega),rfl,rfl,by omega,hx.1,fun e sz m' hd=>?_⟩;rw[v2]at hd;simp only[aj,br]at hd;obtain⟨rfl,rfl⟩:=hd;refine⟨ay _,fun _=>⟨⟨cap,c1,c2⟩,?_⟩⟩;split
   ·rfl
   simp[Ei]
  cases he
 cases he
theorem arj{lo:Option me}{vlo:Option Value}(hlo:(lo=none∧vlo=none)∨∃o v,lo=some o∧vlo=some v∧ij G E s (o.ev s) v){io:Option Nat}(hi:V7 s lo=some io):
  (vlo=none∧io=none)∨∃v i,vlo=some v∧io=some i∧∀(y:Nat) (c:BoundsCode) (w:World),i≤y→(W2 v y c).run P w= .ok i w:=by
 rcases hlo with ⟨rfl,rfl⟩|⟨o,v,rfl,rfl,hv⟩
 ·simp only[V7,aj]at hi;exact .inl ⟨rfl,hi.symm⟩
 simp only[V7]at hi;split at hi
 ·rename_i k q hq;rw[hq]at hv;cases hv;split at hi
  ·rename_i h0;simp only[aj]at hi;exact .inr ⟨_,_,rfl,hi.symm,fun y c w hy=>Gi h0 (by omega) c w⟩
  cases hi
 cases hi
theorem aek{lo:Option me}{vlo:Option Value}{n:Nat}(hlo:(lo=none∧vlo=none)∨∃o v,lo=some o∧vlo=some v∧ij G E s (o.ev s) v){j:Nat}(hi:Qp s n lo=some j):
  (lo=none∧vlo=none∧j=n)∨∃v,lo≠none∧vlo=some v∧∀(y:Nat) (c:BoundsCode) (w:World),j≤y→(W2 v y c).run P w= .ok j w:=by
 rcases hlo with ⟨rfl,rfl⟩|⟨o,v,rfl,rfl,hv⟩
 ·simp only[Qp,aj]at hi;exact .inl ⟨rfl,rfl,hi.symm⟩
 simp only[Qp]at hi;split at hi
 ·rename_i k q hq;rw[hq]at hv;cases hv;split at hi
  ·rename_i h0;simp only[aj]at hi;subst hi;exact .inr ⟨_,by simp,rfl,fun y c w hy=>Gi h0 (by omega) c w⟩
  cases hi
 cases hi
theorem ad8{t e:TypeId}{n:Nat}(hu:P.underlying t=some (.slice e))(hn:kn P e=some n){id av m l C cap:Nat}(hv:s.av id=av)(hd:s.Cz id=some (n,m))(hE:E.n id=C*n)(h1:m≤cap)(h2:cap≤C)(h3:l≤m)(h0:0<m)
  {lo hi mx:Option me}{vlo vhi vmx:Option Value}(hlo:(lo=none∧vlo=none)∨∃o v,lo=some o∧vlo=some v∧ij G E s (o.ev s) v)(hhi:(hi=none∧vhi=none)∨∃o v,hi=some o∧vhi=some v∧ij G E s (o.ev s) v)
  (hmx:(mx=none∧vmx=none)∨∃o v,mx=some o∧vmx=some v∧ij G E s (o.ev s) v){y:V}(hw:a63 s id av m l lo hi mx=some y):
  ∃u,(yu t (.slice (some ⟨E.b id,0,none⟩) l cap) vlo vhi vmx).run P w= .ok u w∧ij G E s y u:=by
 unfold a63 at hw;split at hw
 ·rename_i io j k q1 q2 q3;split at hw
  ·rename_i hc;obtain⟨c1,c2,rfl,c4⟩:=hc;simp only[aj]at hw;subst hw
   have hb:∃kk,k≤kk∧kk≤cap∧(pw true l cap vlo vhi vmx).run P w= .ok (io.getD 0,j,kk) w:=by
    rcases arj (P:=P) hlo q1 with ⟨rfl,rfl⟩|⟨v,i,rfl,rfl,hr⟩<;>rcases aek (P:=P) hmx q3 with ⟨rfl,rfl,_⟩|⟨vm,hm0,rfl,hrm⟩<;>rcases aek (P:=P) hhi q2 with ⟨hh0,rfl,hjl⟩|⟨vh,hh0,rfl,hrh⟩
    ·exact⟨cap,h1,ay _,by unfold pw;simp[cb,hjl]⟩
    ·exact⟨cap,h1,ay _,by unfold pw;simp[cb,hrh cap _ w (by omega)]⟩
    ·exact absurd (c4 hh0) hm0
    ·exact⟨k,ay _,h1,by unfold pw;simp[cb,hrm cap _ w h1,hrh k _ w c2]⟩
    ·exact⟨cap,h1,ay _,by unfold pw;simp only[j6]at c1;simp[cb,hr l _ w (by omega),hjl]⟩
    ·exact⟨cap,h1,ay _,by unfold pw;simp only[j6]at c1;simp[cb,hrh cap _ w (by omega),hr j _ w c1]⟩
    ·exact absurd (c4 hh0) hm0
    exact⟨k,ay _,h1,by unfold pw;simp only[j6]at c1;simp[cb,hrm cap _ w h1,hrh k _ w c2,hr j _ w c1]⟩
   obtain⟨kk,hk1,hk2,hb⟩:=hb
   generalize io.getD 0=i at*
   refine⟨.slice (if kk=i then some ⟨E.b id,0,none⟩else some ⟨E.b id,i*n,none⟩) (j-i) (kk-i),?_,⟨by omega,h0⟩,aJl hv.symm,fun _ sz m' hd'=>?_⟩
   ·unfold yu;simp only[cb,underlying,run_program,bh,hu,eh];unfold aKj;simp only[cb,underlying,run_program,bh,hu,eh,hb,qx hn,ir,Ei,fj]
   rw[hd]at hd';simp only[aj,br]at hd';obtain⟨rfl,rfl⟩:=hd';refine⟨ay _,fun _=>⟨C,kk-i,if kk=i then 0 else i*n,hE,by omega,by omega,by omega,?_,?_⟩⟩
   ·by_cases hki:kk=i
    ·exact .inl (by omega)
    exact .inr (by rw[al hki])
   by_cases hki:kk=i
   ·rw[bm hki,bm hki]
   rw[al hki,al hki]
  cases hw
 cases hw
theorem agy(h:j9 B0 w0 nt G0 s G E a w){t e:TypeId}{n:Nat}{x:me}{vx:Value}(hu:P.underlying t=some (.slice e))(hn:kn P e=some n)(hx:ij G E s (x.ev s) vx)
  {lo hi mx:Option me}{vlo vhi vmx:Option Value}(hlo:(lo=none∧vlo=none)∨∃o v,lo=some o∧vlo=some v∧ij G E s (o.ev s) v)(hhi:(hi=none∧vhi=none)∨∃o v,hi=some o∧vhi=some v∧ij G E s (o.ev s) v)
  (hmx:(mx=none∧vmx=none)∨∃o v,mx=some o∧vmx=some v∧ij G E s (o.ev s) v){d:Nat}{ids:List Nat}{ef:lk}(he:(jv.Qb n x lo hi mx).og d s=some (ids,ef)):
  ∃u y,(yu t vx vlo vhi vmx).run P w= .ok u w∧ids=[]∧ef= .val y∧ij G E s y u:=by
 simp only[jv.og]at he;split at he
 ·rename_i id av m hxe;rw[hxe]at hx;split at he
  ·rename_i hc;simp only[ao,lk.rz,br]at he;obtain⟨y,hy,rfl,rfl⟩:=he;obtain⟨h0,hel⟩:=hc;obtain⟨v1,v2⟩:=G5 hel;obtain⟨_,k2⟩:=hx.2 v1 _ _ v2;obtain⟨cap,c1,c2,rfl⟩:=k2 rfl;obtain⟨u,hr,hv⟩:=ad8 (P:=P) (w:=w) hu hn v1 v2 c1 c2 (ay _) (ay _) h0 hlo hhi hmx hy;exact⟨u,y,hr,rfl,rfl,hv⟩
  cases he
 ·rename_i id av m o l hxe;rw[hxe]at hx;split at he
  ·rename_i hc;simp only[ao,lk.rz,br]at he;obtain⟨y,hy,rfl,rfl⟩:=he;obtain⟨rfl,hel⟩:=hc;obtain⟨v1,v2⟩:=G5 hel;obtain⟨⟨n1,n2⟩,_,k1⟩:=hx;obtain⟨_,k2⟩:=k1 v1 _ _ v2;obtain⟨C,cap,off,c1,c2,c3,c4,c5,rfl⟩:=k2 rfl
   have afg:cap≠0:=fun h0=>by rw[h0]at c2;exact aL0.2 c2 (by rw[Bw];exact n2)
   have Wp:off=0:=by rw[c5.resolve_left afg,aly]
   subst Wp;obtain⟨u,hr,hv⟩:=ad8 (P:=P) (w:=w) (cap:=cap) hu hn v1 v2 c1 (by omega) (by omega) (by omega) n2 hlo hhi hmx hy;exact⟨u,y,hr,rfl,rfl,hv⟩
  cases he
 cases he
theorem a3l(h:j9 B0 w0 nt G0 s G E a w){x:me}{vx:Value}(hx:ij G E s (x.ev s) vx){d:Nat}{dst:Option Nat}{ids:List Nat}{ef:lk}(he:(jv.trim x).og d s=some (ids,ef)):
  qt P B0 nt w0 G0 a w dst (.ok (.value vx) w) (ef.app dst (s.ta ids)):=by
 simp only[jv.og]at he;split at he
 ·rename_i id av n o l hxe;rw[hxe]at hx;split at he
  ·rename_i sz dd hle;split at he
   ·rename_i hc;simp only[aj,br]at he;obtain⟨rfl,rfl⟩:=he;obtain⟨rfl,rfl⟩:=hc;obtain⟨v1,v2⟩:=xm hle;obtain⟨⟨n1,n2⟩,_,k1⟩:=hx;obtain⟨_,k2⟩:=k1 v1 _ _ (vb v2);obtain⟨C,cap,off,c1,c2,c3,c4,c5,rfl⟩:=k2 rfl
    have afg:cap≠0:=fun h0=>by rw[h0]at c2;exact aL0.2 c2 (by rw[Bw];exact n2)
    have Wp:off=0:=by rw[c5.resolve_left afg,aly]
    subst Wp
    have hm0:cap*sz≤E.n id:=by rw[c1];exact fa _ (by omega)
    have hl:(dd.take l).length=l:=by simp;omega
    have hf:=h.aye (b':= .arr sz (dd.take l)) (j:=l) v2 rfl (by simp[B.Cz];omega) hm0 (fun _ q=>q.take);refine⟨_,_,w,G,_,_,.ref id (s.av id+1) l,rfl,.inl rfl,hf,?_,rfl⟩;have:=Av (G':=G) (s':={s with da:=lb s.da id (some (.arr sz (dd.take l))),av:=lb s.av id (s.av id+1)}) (E':={E with n:=lb E.n id (cap*sz)}) (id:=id) (sz:=sz) (n:=l) (len:=l) (cap:=cap) (g:=E.b id) (ck _ _ _) (by simp[B.Cz];omega) (by simp[ck]) (by simp[ck]) rfl (by omega);simpa[ck]using this
   cases he
  cases he
 cases he
theorem agx{zv:Value}{sz n:Nat}{zd:List D}(Ie:zv.cells.size=sz)(hzl:zd.length=sz)(hzc:Nh G E s (zd.map .d) zv.cells):Holds G E s (kq zv.cells n) (.arr sz (j5 n zd)):=by
 refine⟨by simp[size_zeroCells,Ie],fun q r hq=>?_,fun q r j x u hq hj hu=>?_⟩
 ·rw[Q9]at hq;split at hq
  ·injection hq with hq;subst hq;exact hzl
  cases hq
 rw[Q9]at hq;split at hq
 ·rename_i hqn
  injection hq with hq;subst hq
  have hj':j<sz:=by have:=(aw.1 hj).1;omega
  have hlt:=Zq hqn hj';unfold kq at hu;rw[Ie]at hu;simp only[X9,avb,hlt,dj,ir,aj]at hu
  have em:(q*sz+j)%sz=j:=by rw[aK5,Nat.mul_add_mod];exact aab hj'
  rw[em]at hu;refine hzc.2 j (.d x) u (by rw[cw,hj];rfl) ?_;rw[←hu,getElem!_pos _ _ (by rw[Ie];exact hj')];exact bd _
 cases hq
theorem amb{zv:Value}{sz n:Nat}{zd:List D}(Ie:zv.cells.size=sz)(hzl:zd.length=sz)(hzc:Nh G E s (zd.map .d) zv.cells)(ho:zd.all D.one=true):∀v∈(kq zv.cells n).toList,v.oneCell'=true:=by
 intro v hv;obtain⟨k,hk,rfl⟩:=i6.1 hv
 have hk':k<n*sz:=by simpa[size_zeroCells,Ie]using hk
 have a1y:0<sz:=by
  rcases a74 sz with h0|h0
  ·rw[h0]at hk';simp at hk'
  exact h0
 have hm:k%sz<sz:=a73 _ a1y
 have e:(kq zv.cells n).toList[k]=zv.cells[k%sz]'(by rw[Ie];exact hm):=by
  simp only[kq,aam,Array.getElem_map,Array.getElem_range,Ie];exact getElem!_pos _ _ _
 rw[e];have hx:zd[k%sz]? =some (zd[k%sz]'(by omega)):=ax _;have:=hzc.2 (k%sz) (.d (zd[k%sz]'(by omega))) _ (by rw[cw,hx];rfl) (bd (by rw[Ie];exact hm));exact gj.aem this (cz.1 ho _ (cy _))
theorem ap3(h:j9 B0 w0 nt G0 s G E a w){t e ty:TypeId}{i:TypeInfo}{z:Value}{zd:List D}(ht:P.underlying t=some (.slice e))(hi:P.info? e=some i)(hz:i.zero=some z)(hzz:z.cells.size=i.size)
  (hzd:Fj P e=some zd)(hzl:zd.length=i.size){args:Array Value}{Ej:Array TypeId}{x:me}{vx:Value}(ha0:args[0]? =some vx)(h0:Ej[0]? =some t)(hx:ij G E s (x.ev s) vx)
  {d:Nat}{dst:Option Nat}{ids:List Nat}{ef:lk}(he:(jv.clr zd x).og d s=some (ids,ef)):
  qt P B0 nt w0 G0 a w dst (((aCd Ej ty args).run P w).andThen fun v w=> .ok (.value v) w) (ef.app dst (s.ta ids)):=by
 simp only[jv.og]at he;split at he
 ·rename_i id av n o l hxe;rw[hxe]at hx;split at he
  ·rename_i sz dd hle;split at he
   ·rename_i hc;simp only[aj,br]at he;obtain⟨rfl,rfl⟩:=he;obtain⟨rfl,hzs,Ae⟩:=hc
    obtain rfl:sz=i.size:=by omega
    obtain⟨v1,v2⟩:=xm hle;obtain⟨⟨n1,n2⟩,_,k1⟩:=hx;obtain⟨_,k2⟩:=k1 v1 _ _ (vb v2);obtain⟨C,cap,off,c1,c2,c3,c4,c5,rfl⟩:=k2 rfl;obtain⟨zv,hzv,hzr,hzc⟩:=Fi (P:=P) hzd h
    have aFz:zv=z:=by
     rw[hi]at hzv;simpa[hz]using hzv.symm
    subst aFz;obtain⟨cells,et,hh,hn,hcl,hw⟩:=h.xp v2;have aGg:=hcl.1;rcases a74 l with hl0|hl0
    ·subst hl0
     have e1:dd.take o++j5 0 zd++dd.drop (o+0)=dd:=by simp
     have e2:lb s.da id (some (.arr i.size dd))=s.da:=by
      funext k
      by_cases hk:k=id
      ·subst hk;rw[ck,v2]
      rw[gu _ _ _ _ hk]
     have hr:(aCd Ej ty args).run P w= .ok (.tuple #[]) w:=by
      unfold aCd;rw[ha0,h0];simp[run_underlying ht]
     rw[hr,e1];refine⟨_,.tuple #[],w,G,E,s,.no,rfl,.inl rfl,h,trivial,?_⟩;simp only[lk.app,PS.ta,e2]
    have Wp:off=o*i.size:=c5.resolve_left (fun q=>absurd hl0 (by rw[q]at c4;exact aL0.2 c4));subst Wp
    have aD9:(kq zv.cells l).toList.length=l*i.size:=by simp[size_zeroCells,hzz]
    have O3:o*i.size+(kq zv.cells l).toList.length≤cells.size:=by
     rw[aD9,←ji];exact ie (fa _ n1) aGg
    have re:=run_storeCells_at P (E.b id) (o*i.size) et (kq zv.cells l).toList 0 cells w hh (by simpa using O3) (amb hzz hzl hzc Ae);simp only[Bw]at re
    have hr:(aCd Ej ty args).run P w= .ok (.tuple #[]) (w.setRow (E.b id) (cells.toList.take (o*i.size)++(kq zv.cells l).toList++cells.toList.drop (o*i.size+(kq zv.cells l).toList.length)).toArray):=by
     unfold aCd;rw[ha0,h0];obtain⟨l',rfl⟩:∃l',l=l'+1:=⟨l-1,by omega⟩;simp[run_underlying ht,hzr,re]
    have hh2:=hcl.apy (k:=o) (ys:=j5 l zd) (news:=(kq zv.cells l).toList) (by simpa using n1) (by rw[aD9];simp) (by simpa using agx (n:=l) hzz hzl hzc)
    have hlen:(dd.take o++j5 l zd++dd.drop (o+(j5 l zd).length)).length=dd.length:=by simp;omega
    have hal:Alike (.arr i.size dd) (.arr i.size (dd.take o++j5 l zd++dd.drop (o+(j5 l zd).length))):=Alike.arr (by omega);have hf:=h.set v2 hal (A0.setRow hh _) (by simp only[W0,db,dw,uv,qa];simp only[qa]at O3;omega) hh2;rw[hr];simp only[aIq]at hf;exact⟨_,.tuple #[],_,G,E,_,.no,rfl,.inl rfl,hf,trivial,rfl⟩
   cases he
  cases he
 cases he
end
end Go.PI
namespace Go.PI
open Go Go.RowKit
section
variable{P:Program}{B0 nt:Nat}{w0 w w':World}{G0 G G':fy}{s s':PS}{E E':Env}{a:Act}
theorem ayh(G:fy)(w:World)(em:Bool):∀(n:Nat) (t:TypeId) (l:List LK),Be P n t=some l→∀m,n≤m→∀g,Ap P t=some g→∀(us:Array Value),us.size=l.length→
  (ama em m t (Fa g us)).run P w= .ok () w:=by
 intro n
 induction n with
 |zero=>intro t l h;cases h
 |succ n ih=>
  intro t l h m hm g hg us B6;obtain⟨m,rfl⟩:∃k,m=k+1:=⟨m-1,by omega⟩
  have single:∀(k:LK) (d:TypeDesc),P.underlying t=some d→k.fits d=true→(ama em (m+1) t (Fa g us)).run P w= .ok () w:=by
   intro k d hu hd;generalize Fa g us=v;unfold ama;simp only[cb,underlying,run_program,bh,hu,eh];cases d<;>simp[LK.fits]at hd<;>cases v<;>rfl
  have h0:=h;simp only[Be]at h;split at h
  ·rename_i hu;split at h
   ·injection h with h;exact single .bool _ hu rfl
   cases h
  ·rename_i k hu;split at h
   ·injection h with h;exact single .int _ hu rfl
   cases h
  ·rename_i hu;split at h
   ·injection h with h;exact single .str _ hu rfl
   cases h
  ·rename_i len e hu;split at h
   ·rename_i le hle;split at h
    ·rename_i hs
     injection h with h
     subst h
     have hgt:g=true:=by unfold Ap at hg;rw[hu]at hg;simpa using hg.symm
     subst hgt;obtain⟨g',k1,k2,k3,_⟩:=ay8 (G:=G) (w:=w) n e le hle n (ay _)
     have hul:us.size=len*le.length:=by simpa using B6
     simp only[Fa,dj];unfold ama;simp only[cb,underlying,run_program,bh,hu,eh];simp only[Std.Legacy.Range.forIn_eq_forIn_range',Std.Legacy.Range.size,Uy,Nat.add_one_sub_one,Nat.div_one]
     have each:∀i∈ake 0 len,i<len:=by
      intro i hi;simp[List.mem_range']at hi;omega
     generalize ake 0 len=is at each
     induction is with
     |nil=>simp
     |cons j is ih'=>
      have hj:j*le.length+le.length≤us.size:=by
       have:=each j (by simp);rw[hul];have:(j+1)*le.length≤len*le.length:=fa _ this;rw[ji,Bd]at this;exact this
      have p1:=Kt (w:=w) k1 k2 k3 hj;have p2:=ih e le hle m (by omega) g' k2 (us.extract (j*le.length) (j*le.length+le.length)) (by simp;omega);simp only[List.forIn_cons,cb,qx k1,bh,p1,p2,eh];exact ih' (fun y hy=>each y (by simp[hy]))
    cases h
   cases h
  ·rename_i fs hu;split at h
   ·split at h
    ·rename_i lf hlf;split at h
     ·injection h with h
      subst h
      have hgt:g=true:=by unfold Ap at hg;rw[hu]at hg;simpa using hg.symm
      subst hgt;simp only[Fa,dj];unfold ama;simp only[cb,underlying,run_program,bh,hu,eh];rw[←Array.forIn_toList]
      have key:∀(L:List Field) (off:Nat) (l:List LK),Fz P (Be P n) L off=some l→off+l.length≤us.size→
        ∀f∈L,f.name≠ "_"∧∃g',(part f.type us f.offset).run P w= .ok (Fa g' (us.extract f.offset (f.offset+(P.cellsOf f.type)))) w∧
         ∃lf,Be P n f.type=some lf∧Ap P f.type=some g'∧(us.extract f.offset (f.offset+(P.cellsOf f.type))).size=lf.length:=by
       intro L
       induction L with
       |nil=>intro off l _ _ f hf;cases hf
       |cons f0 r ihr=>
        intro off l hl hlen f hf;simp only[Fz]at hl;split at hl
        ·rename_i hn;split at hl
         ·rename_i l1 hl1;split at hl
          ·rename_i hs1;split at hl
           ·rename_i mr hmr
            injection hl with hl
            subst hl;simp only[db]at hlen;rcases dq.1 hf with rfl|hf
            ·obtain⟨g',k1,k2,k3,_⟩:=ay8 (G:=G) (w:=w) n _ l1 hl1 n (ay _)
             have hc:P.cellsOf f.type=l1.length:=by
              unfold kn at k1;simp only[ao]at k1;obtain⟨i,hi,he⟩:=k1;simp[aEy,hi,he]
             rw[hc,hn.2];exact⟨hn.1,g',Kt k1 k2 k3 (by omega),l1,hl1,k2,by simp;omega⟩
            exact ihr _ _ hmr (by omega) f hf
           cases hl
          cases hl
         cases hl
        cases hl
      have key:=key fs.toList 0 lf hlf (by omega);generalize fs.toList=L at key
      induction L with
      |nil=>simp
      |cons f L ih'=>
       obtain⟨hn,g',p1,l1,hl1,k2,hs1⟩:=key f (by simp);have p2:=ih f.type l1 hl1 m (by omega) g' k2 _ hs1;simp only[List.forIn_cons,cb,hn,ne_eq,not_false_eq_true,dj,bh,p1,p2,eh];exact ih' (fun y hy=>key y (by simp[hy]))
     cases h
    cases h
   cases h
  cases h
def Ic{α:Type}(kk:KK)(k:D):List (D×α)→Nat→Option (Option Nat)
 |[],_=>some none
 |(a,_)::r,i=>match Ep kk k a with
  |some true=>some (some i)
  |some false=>Ic kk k r (i+1)
  |none=>none
theorem a9u{α:Type}{kk:KK}{k:D}:∀{ds:List (D×α)} {r:Option α} (i:Nat),Hc kk k ds=some r→(r=none∧Ic kk k ds i=some none)∨∃j e,Ic kk k ds i=some (some (i+j))∧ds[j]? =some e∧r=some e.2:=by
 intro ds
 induction ds with
 |nil=>intro r i h;simp only[Hc]at h;split at h<;>cases h;exact .inl ⟨rfl,rfl⟩
 |cons e ds ih=>
  obtain⟨a,b⟩:=e;intro r i h;simp only[Hc]at h;split at h
  ·rename_i hk
   injection h with h
   subst h;exact .inr ⟨0,(a,b),by simp[Ic,hk],rfl,rfl⟩
  ·rename_i hk;rcases ih (i+1) h with ⟨h1,h2⟩|⟨j,e,h1,h2,h3⟩
   ·exact .inl ⟨h1,by simp[Ic,hk,h2]⟩
   exact .inr ⟨j+1,e,by simp only[Ic,hk,h1];congr 2;omega,by simpa using h2,h3⟩
  cases h
theorem asg{α:Type}{kk:KK}{k:D}{v:α}:∀{ds ds':List (D×α)} (i:Nat),Mt kk k v ds=some ds'→(ds'=ds++[(k,v)]∧Ic kk k ds i=some none)∨
  ∃j e,Ic kk k ds i=some (some (i+j))∧ds[j]? =some e∧Ep kk k e.1=some true∧ds'=ds.set j (k,v):=by
 intro ds
 induction ds with
 |nil=>intro ds' i h;simp only[Mt]at h;split at h<;>cases h;exact .inl ⟨rfl,rfl⟩
 |cons e ds ih=>
  obtain⟨a,b⟩:=e;intro ds' i h;simp only[Mt]at h;split at h
  ·rename_i hk
   injection h with h
   subst h;exact .inr ⟨0,(a,b),by simp[Ic,hk],rfl,hk,rfl⟩
  ·rename_i hk;simp only[ao]at h;obtain⟨d1,h,rfl⟩:=h;rcases ih (i+1) h with ⟨h1,h2⟩|⟨j,e,h1,h2,h3,h4⟩
   ·exact .inl ⟨by simp[h1],by simp[Ic,hk,h2]⟩
   exact .inr ⟨j+1,e,by simp only[Ic,hk,h1];congr 2;omega,by simpa using h2,h3,by simp[h4]⟩
  cases h
theorem Xm{k:LK}{d:TypeDesc}(hd:k.fits d=true){x y:D}{b:Bool}(he:O2 k x y=some b){u v:Value}(hx:gj G x u)(hy:gj G y v):aIb d u v=some b:=by
 unfold O2 at he;split at he
 ·split at he
  ·rename_i h;subst h
   injection he with he
   subst he;cases hx;cases hy;cases d<;>simp[LK.fits]at hd;simp[aIb]
  cases he
 ·injection he with he
  subst he;cases hx;cases hy;cases d<;>simp[LK.fits]at hd;simp[aIb]
 ·injection he with he
  subst he;cases hx;cases hy;cases d<;>simp[LK.fits]at hd;simp[aIb]
 cases he
theorem Vn{k:LK}{x y:D}(he:O2 k x y=some true){u v:Value}(hx:gj G x u)(hy:gj G y v)(n:Nat):am8 n v u=true:=by
 unfold O2 at he;split at he
 ·split at he
  ·rename_i h;subst h;simp only[aj,beq_iff_eq]at he;subst he;cases hx;cases hy;cases n<;>simp[am8]
  cases he
 ·simp only[aj]at he;have he:=(MapKept.bytes_beq _ _).1 he;subst he;cases hx;cases hy;cases n<;>simp[am8,MapKept.bytes_beq]
 ·simp only[aj,beq_iff_eq]at he;subst he;cases hx;cases hy;cases n<;>simp[am8]
 cases he
theorem aaw{n:Nat}:∀{ks:List LK} {xs ys:List D},As ks xs ys=some true→∀{us vs:List Value},us.length=xs.length→vs.length=ys.length→
  (∀(i:Nat) (x:D) (u:Value),xs[i]? =some x→us[i]? =some u→gj G x u)→(∀(i:Nat) (x:D) (u:Value),ys[i]? =some x→vs[i]? =some u→gj G x u)→
  ((vs.zip us).all fun(x,y)=>am8 n x y)=true:=by
 intro ks
 induction ks with
 |nil=>intro xs ys h us vs h1 h2;cases xs<;>cases ys<;>simp_all [As]
 |cons k ks ih=>
  intro xs ys h us vs h1 h2 r1 r2
  cases xs with
  |nil=>simp[As]at h
  |cons a xs=>
   cases ys with
   |nil=>simp[As]at h
   |cons c ys=>
    simp only[As]at h;split at h
    ·rename_i p q e1 e2;simp only[aj,cj]at h;obtain⟨rfl,rfl⟩:=h
     match us,vs,h1,h2 with
     |u::us,v::vs,h1,h2=>
      simp only[List.zip_cons_cons,Vi,cj]
      exact⟨Vn e1 (r1 0 a u rfl rfl) (r2 0 c v rfl rfl) n,
       ih e2 (by simpa using h1) (by simpa using h2) (fun i x u hx hu=>r1 (i+1) x u (by simpa using hx) (by simpa using hu)) (fun i x u hx hu=>r2 (i+1) x u (by simpa using hx) (by simpa using hu))⟩
    cases h
theorem Xn{kk:KK}{x y:D}(he:Ep kk x y=some true){u v:Value}(hx:gj G x u)(hy:gj G y v):am8 10000 v u=true:=by
 unfold Ep at he;split at he
 ·exact Vn he hx hy _
 ·cases hx with
  |agg l1 h1=>
   cases hy with
   |agg l2 h2=>
    obtain⟨k1,k2⟩:=Ql he;rename_i us vs;have hall:=aaw (n:=9999) he (us:=us.toList) (vs:=vs.toList) (by simpa using l1) (by simpa using l2) (fun i x u hx hu=>h1 i x u hx (by simpa using hu)) (fun i x u hx hu=>h2 i x u hx (by simpa using hu));unfold am8;simp only[cj,beq_iff_eq];exact⟨by omega,hall⟩
 cases he
theorem a8t{t:TypeId}{k:LK}(h:Qd P t=some (.one k)):∃d,P.underlying t=some d∧k.fits d=true∧Be P 8 t=some [k]∧Ap P t=some false:=by
 unfold Qd at h;split at h
 ·rename_i k' h1 h2
  injection h with h
  injection h with h
  subst h;have h3:=h1;simp only[Be]at h1;split at h1
  ·rename_i hu;split at h1<;>simp at h1;subst h1;exact⟨_,hu,rfl,h3,h2⟩
  ·rename_i hu;split at h1<;>simp at h1;subst h1;exact⟨_,hu,rfl,h3,h2⟩
  ·rename_i hu;split at h1<;>simp at h1;subst h1;exact⟨_,hu,rfl,h3,h2⟩
  ·rename_i hu;unfold Ap at h2;rw[hu]at h2;cases h2
  ·rename_i hu;unfold Ap at h2;rw[hu]at h2;cases h2
  cases h1
 ·cases h
 cases h
theorem a8s{t:TypeId}{ks:List LK}(h:Qd P t=some (.row ks)):∃d,P.underlying t=some d∧(∀u v,aIb d u v=none)∧Be P 8 t=some ks∧Ap P t=some true:=by
 unfold Qd at h;split at h
 ·cases h
 ·rename_i h1 h3
  injection h with h
  injection h with h
  subst h;unfold Ap at h3;split at h3
  ·rename_i hu;exact⟨_,hu,fun u v=>by cases u<;>cases v<;>rfl,h1,by unfold Ap;rw[hu]⟩
  ·rename_i hu;exact⟨_,hu,fun u v=>by cases u<;>cases v<;>rfl,h1,by unfold Ap;rw[hu]⟩
  ·cases h3
  cases h3
 cases h
theorem Rr{kk:KK}{x y:D}{b:Bool}(h:Ep kk x y=some b):Ov kk x=true:=by
 unfold Ep at h;split at h
 ·rfl
 ·obtain⟨h1,_⟩:=Ql h;simp[Ov,h1]
 cases h
theorem a4o{α:Type}{kk:KK}{k:D}:∀{ds:List (D×α)} {r:Option α},Hc kk k ds=some r→Ov kk k=true
 |[],_,h=>by simp only[Hc]at h;split at h<;>simp_all
 |(a,b)::ds,r,h=>by
  simp only[Hc]at h;split at h
  ·rename_i hk;exact Rr hk
  ·rename_i hk;exact Rr hk
  cases h
theorem ani{α:Type}{kk:KK}{k:D}{v:α}:∀{ds r:List (D×α)},Mt kk k v ds=some r→Ov kk k=true
 |[],_,h=>by simp only[Mt]at h;split at h<;>simp_all
 |(a,b)::ds,r,h=>by
  simp only[Mt]at h;split at h
  ·rename_i hk;exact Rr hk
  ·rename_i hk;exact Rr hk
  cases h
theorem Zp{kk:KK}{t:TypeId}(h:Qd P t=some kk){k:D}{v:Value}(hv:gj G k v)(hf:Ov kk k=true)(em:Bool):
  (ama em 10000 t v).run P w= .ok () w:=by
 have hk:(∃ks xs,kk= .row ks∧k= .agg xs∧xs.length=ks.length)∨∃l,kk= .one l:=by
  unfold Ov at hf;split at hf
  ·exact .inr ⟨_,rfl⟩
  ·exact .inl ⟨_,_,rfl,rfl,by simpa using hf⟩
  cases hf
 rcases hk with ⟨ks,xs,rfl,rfl,hl⟩|⟨l,rfl⟩
 ·obtain⟨d,hu,_,h1,h2⟩:=a8s h
  cases hv with
  |agg l1 h3=>exact ayh G w em 8 t ks h1 10000 (by omega) true h2 _ (by omega)
 obtain⟨d,hu,hd,_,_⟩:=a8t h;unfold ama;simp only[cb,underlying,run_program,bh,hu,eh];cases d<;>simp[LK.fits]at hd<;>cases v<;>rfl
theorem afv{α:Type}{k:LK}{d:TypeDesc}(hd:k.fits d=true){kd:D}{kv:Value}(hk:gj G kd kv):∀{ds:List (D×α)} {es:List MapEntry} {i:Nat} {r:Option Nat},Ic (.one k) kd ds i=some r→es.length=ds.length→
  (∀(j:Nat) (e:D×α) (x:MapEntry),ds[j]? =some e→es[j]? =some x→gj G e.1 x.key)→
  aId d kv es i=some (r.map fun j=>(j,((es[j-i]?).map (·.val)).getD undef)):=by
 intro ds
 induction ds with
 |nil=>intro es i r h hl hr;cases es with
  |nil=>simp only[Ic,aj]at h;subst h;rfl
  |cons _ _=>cases hl
 |cons e ds ih=>
  obtain⟨a,b⟩:=e;intro es i r h hl hr
  cases es with
  |nil=>cases hl
  |cons x es=>
   have h0:=hr 0 (a,b) x rfl rfl;simp only[Ic]at h;split at h
   ·rename_i hq
    injection h with h
    subst h;simp[aId,Xm hd hq hk h0]
   ·rename_i hq;simp only[aId,Xm hd hq hk h0];rw[ih h (by simpa using hl) (fun j e x he hx=>hr (j+1) e x (by simpa using he) (by simpa using hx))]
    cases r with
    |none=>rfl
    |some j=>
     have hj:i+1≤j:=by
      clear hl hr ih hq h0
      have:∀(ds:List (D×α)) (i j:Nat),Ic (.one k) kd ds i=some (some j)→i≤j:=by
       intro ds
       induction ds with
       |nil=>intro i j h;cases h
       |cons e ds ih=>
        intro i j h;simp only[Ic]at h;split at h
        ·injection h with h;injection h with h;omega
        ·have:=ih _ _ h;omega
        cases h
      exact this _ _ _ h
     obtain⟨m,rfl⟩:∃m,j=i+1+m:=⟨j-(i+1),by omega⟩
     have e1:i+1+m-i=m+1:=by omega
     have e2:i+1+m-(i+1)=m:=by omega
     simp[e1,e2]
   cases h
theorem al9{α:Type}{kk:KK}{kd:D}:∀{ds:List (D×α)} {i j:Nat},Ic kk kd ds i=some (some j)→i≤j:=by
 intro ds
 induction ds with
 |nil=>intro i j h;cases h
 |cons e ds ih=>
  intro i j h;simp only[Ic]at h;split at h
  ·injection h with h;injection h with h;omega
  ·have:=ih h;omega
  cases h
theorem a5s{α:Type}{ks:List LK}{t:TypeId}(hd:Be P 8 t=some ks)(hg:Ap P t=some true){kd:D}{kv:Value}(hk:gj G kd kv):∀{ds:List (D×α)} {es:List MapEntry} {i:Nat} {r:Option Nat},Ic (.row ks) kd ds i=some r→es.length=ds.length→
  (∀(j:Nat) (e:D×α) (x:MapEntry),ds[j]? =some e→es[j]? =some x→gj G e.1 x.key)→
  (azt t kv es i).run P w= .ok (r.map fun j=>(j,((es[j-i]?).map (·.val)).getD undef)) w:=by
 have eq:∀{a:D} {v:Value} {b:Bool},Ep (.row ks) kd a=some b→gj G a v→(aIy t kv v).run P w= .ok b w:=by
  intro a v b he ha;obtain⟨g,k1,k2,k3,k4⟩:=ay8 (G:=G) (w:=w) 8 t ks hd aKm (by decide);rw[hg]at k2
  injection k2 with k2
  subst k2;unfold Ep at he;split at he
  ·rename_i hh;cases hh
  ·rename_i hh
   injection hh with hh
   subst hh
   cases hk with
   |agg l1 h1=>
    cases ha with
    |agg l2 h2=>exact k4 _ _ _ _ b ⟨l1,h1⟩ ⟨l2,h2⟩ he
  cases he
 intro ds
 induction ds with
 |nil=>intro es i r h hl hr;cases es with
  |nil=>simp only[Ic,aj]at h;subst h;simp[azt]
  |cons _ _=>cases hl
 |cons e ds ih=>
  obtain⟨a,b⟩:=e;intro es i r h hl hr
  cases es with
  |nil=>cases hl
  |cons x es=>
   have h0:=hr 0 (a,b) x rfl rfl;simp only[Ic]at h;split at h
   ·rename_i hq
    injection h with h
    subst h;simp[azt,eq hq h0]
   ·rename_i hq;simp only[azt,cb,eq hq h0,bh,fk,ee];rw[ih h (by simpa using hl) (fun j e x he hx=>hr (j+1) e x (by simpa using he) (by simpa using hx))]
    cases r with
    |none=>rfl
    |some j=>
     have hj:=al9 h;obtain⟨m,rfl⟩:∃m,j=i+1+m:=⟨j-(i+1),by omega⟩
     have e1:i+1+m-i=m+1:=by omega
     have e2:i+1+m-(i+1)=m:=by omega
     simp[e1,e2]
   cases h
theorem Tz{α:Type}{kk:KK}{t:TypeId}(h:Qd P t=some kk){kd:D}{kv:Value}(hk:gj G kd kv){ds:List (D×α)}{es:List MapEntry}{r:Option Nat}(hi:Ic kk kd ds 0=some r)(hl:es.length=ds.length)
  (hr:∀(j:Nat) (e:D×α) (x:MapEntry),ds[j]? =some e→es[j]? =some x→gj G e.1 x.key):
  (Instr.findKey t kv es).run P w= .ok (r.map fun j=>(j,((es[j]?).map (·.val)).getD undef)) w:=by
 unfold Instr.findKey
 cases kk with
 |one k=>
  obtain⟨d,hu,hd,_,_⟩:=a8t h;simp only[cb,underlying,run_program,bh,hu,eh,afv hd hk hi hl hr,Uy]
 |row ks=>
  obtain⟨d,hu,hn,h1,h2⟩:=a8s h;simp only[cb,underlying,run_program,bh,hu,eh]
  cases es with
  |nil=>
   cases ds with
   |nil=>simp only[Ic,aj]at hi;subst hi;simp[aId]
   |cons _ _=>cases hl
  |cons x es=>
   simp only[aId,hn];rw[a5s h1 h2 hk hi hl hr];simp only[Uy]
end
section
variable{P:Program}{B0 nt:Nat}{w0 w w':World}{G0 G G':fy}{s s':PS}{E E':Env}{a:Act}
theorem as6(h:j9 B0 w0 nt G0 s G E a w){x:V}{es:List (D×C)}(hx:Cj s x=some es){v:Value}(hv:ij G E s x v):
  ∃ents:Array MapEntry,ents.size=es.length∧(∀(i:Nat) (e:D×C) (x:MapEntry),es[i]? =some e→ents[i]? =some x→gj G e.1 x.key∧xv G E s e.2 x.val)∧
   ((v= .map none∧ents= #[])∨∃r clock,v= .map (some r)∧w.heap[r]? =some (.map ents clock)):=by
 unfold Cj at hx;split at hx
 ·injection hx with hx
  subst hx;cases hv;exact⟨#[],rfl,fun i e x he _=>by simp at he,.inl ⟨rfl,rfl⟩⟩
 ·injection hx with hx
  subst hx
  cases hv with
  | @map _ r fs h0 hl h1 h2=>
   obtain⟨ents,clock,k1,k2⟩:=h.gok.mv _ _ h0
   have B6:ents.size=fs.length:=by rw[←k2];simp
   refine⟨ents,by simp only[ag];omega,fun i e x he hx=>?_,.inr ⟨r,clock,rfl,k1⟩⟩
   have hf:fs[i]? =some (x.key,x.val):=by rw[←k2];simp[hx]
   simp only[cw,ao]at he;obtain⟨e',he',rfl⟩:=he;exact⟨h1 i e' _ he' hf,h2 i e' _ he' hf⟩
 ·rename_i id av;unfold PS.ents at hx;split at hx
  ·rename_i zc;obtain⟨_,hk⟩:=hv;obtain⟨_,_,ents,clock,k1,k2,k3,_⟩:=h.mp id es hx;exact⟨ents,k2,k3,.inr ⟨_,clock,hk zc (by rw[hx];rfl),k1⟩⟩
  cases hx
 cases hx
def Bi(w:World)(r:Nat)(o:Obj):World:={w with heap:=w.heap.setIfInBounds r o}
theorem Nq{r:Nat}{ents:Array MapEntry}{clock:Nat}(h:w.heap[r]? =some (.map ents clock))(o:Obj):(setObj r o).run P w= .ok () (Bi w r o):=by
 simp[setObj,Sem.run,h,Bi]
theorem A0.Bi{r:Nat}{o0:Obj}(h:w.heap[r]? =some o0)(o:Obj):A0 w (Bi w r o) r o:=by
 have hlt:=(ig.1 h).1;exact⟨rfl,rfl,rfl,rfl,by simp[PI.Bi],fun k hk=>by simp[PI.Bi,azv,aL4 hk],by simp[PI.Bi,hlt]⟩
theorem ax6{cs:List C}{vs:Array Value}(hl:vs.size=cs.length)(h:∀(i:Nat) (c:C) (u:Value),cs[i]? =some c→vs[i]? =some u→xv G E s c u):ij G E s (mkt cs) (.tuple vs):=by
 unfold mkt
 cases hd:Om cs with
 |some ds=>
  have e:=R9 hd;subst e;exact gj.Aa (by simpa using hl) fun i x v hx hv=>h i (.d x) v (by simp[hx]) hv
 |none=>exact K0.2 ⟨_,rfl,hl,h⟩
theorem ay9{x:V}{c:C}{v:Value}(hc:x.ent s=some c)(hv:ij G E s x v):xv G E s c v:=by
 cases x with
 |d y=>simp only[V.ent,aj]at hc;subst hc;exact hv
 |ref i u l=>simp only[V.ent]at hc;split at hc<;>simp at hc;subst hc;exact hv
 |kj i u=>simp only[V.ent]at hc;split at hc<;>simp at hc;subst hc;exact hv
 |ic i u o=>simp only[V.ent]at hc;split at hc<;>simp at hc;subst hc;exact hv
 |_=>cases hc
theorem a0i.push{ents:Array MapEntry}{clock:Nat}(h:a0i ents clock)(k v:Value):a0i (ents.push {key:=k,val:=v,born:=clock}) (clock+1):=by
 obtain⟨h1,h2⟩:=h;refine⟨fun i x hx=>?_,fun i j x y hx hy e=>?_⟩
 ·rw[a1o]at hx;split at hx
  ·injection hx with hx;subst hx;exact Nat.lt_succ_self _
  exact Nat.lt_succ_of_lt (h1 i x hx)
 rw[a1o]at hx hy;split at hx
 ·split at hy
  ·omega
  injection hx with hx;subst hx
  have:=h1 j y hy;simp at e;omega
 split at hy
 ·injection hy with hy;subst hy
  have:=h1 i x hx;simp at e;omega
 exact h2 i j x y hx hy e
theorem a0i.modify{ents:Array MapEntry}{clock:Nat}(h:a0i ents clock)(j:Nat){f:MapEntry→MapEntry}(hf:∀e,(f e).born=e.born):a0i (ents.modify j f) clock:=by
 obtain⟨h1,h2⟩:=h
 have get:∀(i:Nat) (x:MapEntry),(ents.modify j f)[i]? =some x→∃y:MapEntry,ents[i]? =some y∧x.born=y.born:=by
  intro i x hx;rw[D4]at hx;split at hx
  ·simp only[ao]at hx;obtain⟨y,hy,rfl⟩:=hx;exact⟨y,hy,hf y⟩
  exact⟨x,hx,rfl⟩
 refine⟨fun i x hx=>?_,fun i k x y hx hy e=>?_⟩
 ·obtain⟨z,hz,e⟩:=get i x hx;rw[e];exact h1 i z hz
 obtain⟨z,hz,e1⟩:=get i x hx;obtain⟨z',hz',e2⟩:=get k y hy;exact h2 i k z z' hz hz' (by omega)
theorem abq(h:j9 B0 w0 nt G0 s G E a w){t kt e:TypeId}{z:Value}{zd:D}{kk:KK}(hu:P.underlying t=some (.map kt e))(hz:(P.info? e).bind (·.zero)=some z)(hzd:X1 z=some zd)(hkk:Qd P kt=some kk)
  {x i:me}{vx vi:Value}{ok:Bool}(hx:ij G E s (x.ev s) vx)(hi:ij G E s (i.ev s) vi){d:Nat}{ids:List Nat}{ef:lk}(he:(jv.lookup kk zd x i ok).og d s=some (ids,ef)):
  ∃u y,(aKk t vx vi ok).run P w= .ok u w∧ids=[]∧ef= .val y∧ij G E s y u:=by
 simp only[jv.og]at he;split at he
 ·rename_i es k hes hk;rw[hk]at hi;split at he
  ·rename_i r hr;simp only[lk.rz,aj,br]at he;obtain⟨rfl,rfl⟩:=he;obtain⟨ents,B6,hrel,hv⟩:=as6 h hes hx
   have hzr:(zeroValue e).run P w= .ok z w:=by
    cases hif:P.info? e with
    |none=>rw[hif]at hz;cases hz
    |some i=>
     rw[hif]at hz;simp only[Of]at hz;simp[zeroValue,typeInfo,hif,hz]
   have hzv:gj G zd z:=h.ev (x:= .const z) (o:= .c zd) (by simp[ur,hzd]);have hch:=Zp (w:=w) hkk hi (a4o hr) ents.isEmpty
   have run:∀idx,Ic kk k es 0=some idx→(aKk t vx vi ok).run P w= .ok (match idx with
     |some j=>if ok then .tuple #[((ents.toList[j]?).map (·.val)).getD undef,.bool true]else((ents.toList[j]?).map (·.val)).getD undef
     |none=>if ok then .tuple #[z,.bool false]else z) w:=by
    intro idx aby;have hf:=Tz (P:=P) (w:=w) hkk hi aby (es:=ents.toList) (by simpa using B6) (fun j e x he hx=>(hrel j e x he (by simpa using hx)).1);unfold aKk;rcases hv with ⟨rfl,rfl⟩|⟨r',clock,rfl,aDu⟩
    ·simp only[cb,underlying,run_program,bh,hu,eh,hch,hf];cases idx<;>simp[hzr]
    simp only[cb,underlying,run_program,bh,hu,eh,Fx aDu,hch,hf];cases idx<;>simp[hzr]
   have pair:∀{x:C} {v:Value} (b:Bool),xv G E s x v→ij G E s (if ok then mkt [x,.d (.bool b)]else x.toV) (if ok then .tuple #[v,.bool b]else v):=by
    intro x v b hx
    cases ok with
    |false=>exact hx
    |true=>
     refine ax6 rfl fun i y u hy hu=>?_
     match i with
     |0=>simp at hy hu;subst hy hu;exact hx
     |1=>simp at hy hu;subst hy hu;exact gj.bool
     |i+2=>simp at hy
   rcases a9u 0 hr with ⟨rfl,h2⟩|⟨j,e',h1,h2,rfl⟩
   ·refine⟨_,_,run _ h2,rfl,rfl,?_⟩;exact pair false hzv
   refine⟨_,_,run _ h1,rfl,rfl,?_⟩
   have hj:j<ents.size:=by have:=(aw.1 h2).1;omega
   have:=(hrel j e' ents[j] h2 (bd hj)).2;simp only[fj]
   have ev:((ents.toList[j]?).map (·.val)).getD undef=ents[j].val:=by simp[hj]
   rw[ev];exact pair true this
  cases he
 cases he
theorem aia(h:j9 B0 w0 nt G0 s G E a w){t kt e:TypeId}{kk:KK}(hu:P.underlying t=some (.map kt e))(hkk:Qd P kt=some kk)
  {x k v:me}{vx vk vv:Value}(hx:ij G E s (x.ev s) vx)(hk:ij G E s (k.ev s) vk)(hv:ij G E s (v.ev s) vv){d:Nat}{dst:Option Nat}{ids:List Nat}{ef:lk}(he:(jv.Wd kk x k v).og d s=some (ids,ef)):
  qt P B0 nt w0 G0 a w dst (((av9 t vx vk vv).run P w).andThen fun _ w=> .ok .skip w) (ef.app dst (s.ta ids)):=by
 simp only[jv.og]at he;split at he
 ·rename_i id av kd vd hxe hke hve;rw[hke]at hk;have hv:=ay9 hve hv;split at he
  ·rename_i es hes;simp only[ao,br]at he;obtain⟨es',Q0,rfl,rfl⟩:=he;rw[hxe]at hx;unfold PS.ents at hes;split at hes
   ·rename_i zc;obtain⟨_,hm⟩:=hx;have hvx:=hm zc (by rw[hes];rfl);subst hvx;obtain⟨_,_,ents,clock,k1,k2,k3,k4⟩:=h.mp id es hes;have hch:=Zp (w:=w) hkk hk (ani Q0) false;have find:=fun idx (hi:Ic kk kd es 0=some idx)=>Tz (P:=P) (w:=w) hkk hk hi (es:=ents.toList) (by simpa using k2) (fun j e x he hx=>(k3 j e x he (by simpa using hx)).1)
    have fin:∀(aa3:Array MapEntry) (ack:Nat),(av9 t (.map (some (E.m id))) vk vv).run P w= .ok () (Bi w (E.m id) (.map aa3 ack))→aa3.size=es'.length→
      (∀(i:Nat) (e:D×C) (x:MapEntry),es'[i]? =some e→aa3[i]? =some x→gj G e.1 x.key∧xv G E s e.2 x.val)→a0i aa3 ack→
      qt P B0 nt w0 G0 a w dst (((av9 t (.map (some (E.m id))) vk vv).run P w).andThen fun _ w=> .ok .skip w) (lk.app dst (s.ta []) (.Za id es')):=by
     intro aa3 ack Jm hl hr hbo;rw[Jm];exact⟨.skip,undef,_,G,E,_,.no,rfl,.inr ⟨rfl,rfl⟩,h.Za hes (A0.Bi k1 _) hl hr hbo,trivial,rfl⟩
    rcases asg 0 Q0 with ⟨rfl,h2⟩|⟨j,e',h1,h2,h3,rfl⟩
    ·refine fin (ents.push {key:=vk,val:=vv,born:=clock}) (clock+1) ?_ (by simp[k2]) (fun i e x he hx=>?_) (k4.push _ _)
     ·unfold av9;simp only[cb,underlying,run_program,bh,hu,eh,Fx k1,hch,find _ h2,av1,Nq k1]
     by_cases hi:i<es.length
     ·rw[l8 hi]at he;rw[a1o,al (by omega)]at hx;exact k3 i e x he hx
     rw[mb (by omega)]at he
     have hi0:i-es.length=0:=by have:=(aw.1 he).1;simp at this;omega
     rw[hi0]at he;simp only[dm,aj]at he;subst he;rw[a1o,bm (by omega)]at hx
     injection hx with hx
     subst hx;exact⟨hk,hv⟩
    have hj:j<ents.size:=by have:=(aw.1 h2).1;omega
    refine fin (ents.modify j fun e=>{e with key:=vk,val:=vv}) clock ?_ (by simp[k2]) (fun i e x he hx=>?_) (k4.modify j fun _=>rfl)
    ·unfold av9;have hs:=Xn h3 hk (k3 j e' ents[j] h2 (bd hj)).1
     have re:(am9 (((ents[j]?).map (·.key)).getD vk) vk).run P w= .ok vk w:=by
      unfold am9;simp only[bd hj,ir,j6,hs,dj,eh]
     simp only[cb,underlying,run_program,bh,hu,eh,Fx k1,hch,find _ h1,ir,fj,re,Nq k1]
    rw[Da]at he;rw[D4]at hx;by_cases Io:j=i
    ·subst Io;rw[bm rfl,bm (by omega)]at he;simp only[dj,ao,aj]at he hx;obtain⟨y,_,rfl⟩:=hx;subst he;exact⟨hk,hv⟩
    rw[al Io]at he;rw[al Io]at hx;exact k3 i e x he hx
   cases hes
  cases he
 cases he
theorem aew(h:j9 B0 w0 nt G0 s G E a w){t:TypeId}{d:Nat}{dst:Option Nat}{ids:List Nat}{ef:lk}(he:jv.H9.og d s=some (ids,ef)):
  qt P B0 nt w0 G0 a w dst (((Instr.makeMap t none).run P w).andThen fun v w=> .ok (.value v) w) (ef.app dst (s.ta ids)):=by
 simp only[jv.og,aj,br]at he;obtain⟨rfl,rfl⟩:=he;have run:(Instr.makeMap t none).run P w= .ok (.map (some w.heap.size)) (w.alloc (.map #[] 0)):=rfl;rw[run];refine⟨_,_,_,G,_,_,.kj d (s.av d+1),rfl,.inl rfl,h.a1u d,?_,rfl⟩;refine⟨by simp[ck,PS.ta],fun _ _=>by simp[ck]⟩
end
section
variable{P:Program}{B0 nt:Nat}{w0 w w':World}{G0 G G':fy}{s s':PS}{E E':Env}{a:Act}
theorem Qt(S:Sem Value):(do pure (alx (←S)):Sem Next).run P w=(S.run P w).andThen fun v w=> .ok (.value v) w:=by
 simp only[cb,eh]
theorem af1(S:Sem Unit):(do S;pure Next.skip:Sem Next).run P w=(S.run P w).andThen fun _ w=> .ok .skip w:=by
 simp only[cb,eh]
theorem qt.lift(h:j9 B0 w0 nt G0 s G E a w){S:Sem Value}{u:Value}{y:V}{dst:Option Nat}(hr:S.run P w= .ok u w)(hv:ij G E s y u):
  qt P B0 nt w0 G0 a w dst ((do pure (alx (←S)):Sem Next).run P w) (lk.app dst (s.ta []) (.val y)):=by
 rw[Qt,hr];exact qt.val h rfl hv
theorem ru{v:V}{ids:List Nat}{e:lk}(h:some (lk.rz v)=some (ids,e)):ids=[]∧e= .val v:=by
 simp only[lk.rz,aj,br]at h;exact⟨h.1.symm,h.2.symm⟩
theorem Aw{α:Type}{x:Option α}{f:α→V}{ids:List Nat}{e:lk}(h:x.map (fun v=>lk.rz (f v))=some (ids,e)):∃v,x=some v∧ids=[]∧e= .val (f v):=by
 simp only[ao]at h;obtain⟨v,h1,h2⟩:=h;obtain⟨h3,h4⟩:=ru (congrArg some h2);exact⟨v,h1,h3,h4⟩
theorem ato(h:j9 B0 w0 nt G0 s G E a w){t:TypeId}{n:Nat}{x:me}{v:Value}(hv:ij G E s (x.ev s) v){d:Nat}{dst:Option Nat}{ids:List Nat}{ef:lk}(he:(jv.box n x).og d s=some (ids,ef)):
  qt P B0 nt w0 G0 a w dst ((do pure (alx (←Instr.box t v)):Sem Next).run P w) (ef.app dst (s.ta ids)):=by
 simp only[jv.og]at he;split at he
 ·rename_i cs Ie;split at he
  ·simp only[aj,br]at he;obtain⟨rfl,rfl⟩:=he;obtain⟨k1,k2⟩:=R6 Ie hv;have hf:=h.new d (.loc cs) v.cells t ⟨k1.symm,k2⟩;refine⟨_,_,_,G,_,_,.ic d (s.av d+1) 0,rfl,.inl rfl,hf,?_,rfl⟩;exact⟨by simp[ck,PS.ta],fun _ _=>by simp[ck]⟩
  cases he
 cases he
theorem ajh(h:j9 B0 w0 nt G0 s G E a w){t:TypeId}{z:List D}(hz:Fj P t=some z){d:Nat}{dst:Option Nat}{ids:List Nat}{ef:lk}(he:(jv.alloc z).og d s=some (ids,ef)):
  qt P B0 nt w0 G0 a w dst ((do pure (alx (←aKf t true (.tuple #[]))):Sem Next).run P w) (ef.app dst (s.ta ids)):=by
 simp only[jv.og,aj,br]at he;obtain⟨rfl,rfl⟩:=he;obtain⟨zv,_,hzr,hzc⟩:=Fi hz h;have hf:=h.new d (.loc (z.map .d)) zv.cells t ⟨hzc.1.symm,hzc.2⟩
 have run:(aKf t true (.tuple #[])).run P w= .ok (.pointer (some ⟨w.heap.size,0,none⟩)) (w.alloc (.cells zv.cells t)):=by
  unfold aKf;simp only[cb,hzr,bh];rfl
 rw[Qt,run];refine⟨_,_,_,G,_,_,.ic d (s.av d+1) 0,rfl,.inl rfl,hf,?_,rfl⟩;exact⟨by simp[ck,PS.ta],fun _ _=>by simp[ck]⟩
theorem ag7(h:j9 B0 w0 nt G0 s G E a w){t:TypeId}{z:List D}(hz:Fj P t=some z){d:Nat}{dst:Option Nat}{ids:List Nat}{ef:lk}(he:(jv.ze z.length).og d s=some (ids,ef)):
  qt P B0 nt w0 G0 a w dst ((do pure (alx (←aKf t true (.tuple #[]))):Sem Next).run P w) (ef.app dst (s.ta ids)):=by
 simp only[jv.og,aj,br]at he;obtain⟨rfl,rfl⟩:=he;obtain⟨zv,_,hzr,hzc⟩:=Fi hz h;have hf:=h.new d (.Ro z.length) zv.cells t (by have:=hzc.1;simp at this;exact this.symm)
 have run:(aKf t true (.tuple #[])).run P w= .ok (.pointer (some ⟨w.heap.size,0,none⟩)) (w.alloc (.cells zv.cells t)):=by
  unfold aKf;simp only[cb,hzr,bh];rfl
 rw[Qt,run];refine⟨_,_,_,G,_,_,.ic d (s.av d+1) 0,rfl,.inl rfl,hf,?_,rfl⟩;exact⟨by simp[ck,PS.ta],fun _ _=>by simp[ck]⟩
theorem ajg(h:j9 B0 w0 nt G0 s G E a w){f:Nat}{first iy:Array Operand}{os:List me}(hf:first.size=0)(hc:It iy.toList=some os){d:Nat}{dst:Option Nat}{ids:List Nat}{ef:lk}(he:(jv.Lr f os).og d s=some (ids,ef)):
  qt P B0 nt w0 G0 a w dst ((do pure (alx (←aJt (.func f) (first.map a.eval) (iy.map a.eval))):Sem Next).run P w) (ef.app dst (s.ta ids)):=by
 have e0:first.map a.eval= #[]:=by
  have:first= #[]:=by simpa using hf
  subst this;simp
 rw[e0];obtain⟨iy⟩:=iy;simp only at hc
 have key:∀(vs:List Value) (y:V),iy.map a.eval=vs→ids=[]→ef= .val y→ij G E s y (.func (.func f) #[] vs.toArray)→qt P B0 nt w0 G0 a w dst ((do pure (alx (←aJt (.func f) #[] (iy.toArray.map a.eval))):Sem Next).run P w) (ef.app dst (s.ta ids)):=by
  intro vs y e1 e2 e3 hv;subst e2 e3;exact qt.lift h (u:= .func (.func f) #[] vs.toArray) (by simp[aJt,←e1]) hv
 have ptr:∀{x:Operand} {t id av:Nat},ur x=some (.t t)→s.tmp t= .ic id av 0→ij G E s (.ic id av 0) (a.eval x):=by
  intro x t id av h1 h2;have:=h.ev h1;simp only[me.ev,h2]at this;exact this
 simp only[jv.og]at he;split at he
 ·rename_i x0 t0
  match iy,hc with
  |[c0],hc=>
   simp only[It]at hc;split at hc
   ·rename_i a0 l0 h0 h1;simp only[It,aj]at h1;subst h1;simp only[aj,av7,and_true]at hc;subst hc;split at he
    ·rename_i id av ht;obtain⟨e1,e2⟩:=ru he;refine key [a.eval c0] _ rfl e1 e2 ?_;obtain⟨p1,p2⟩:=ptr h0 ht;refine⟨fun p hp=>?_,fun hall=>?_⟩
     ·simp at hp;subst hp;exact p1
     have:=p2 (hall (id,av) (by simp)).1 (hall (id,av) (by simp)).2;simp[this]
    ·rename_i x ht;obtain⟨e1,e2⟩:=ru he;refine key [a.eval c0] _ rfl e1 e2 ?_;have:=h.ev h0;simp only[me.ev,ht]at this;refine gj.nu rfl fun i y u hy hu=>?_
     match i with
     |0=>simp at hy hu;subst hy hu;exact this
     |i+1=>simp at hy
    cases he
   cases hc
  |[],hc=>simp[It]at hc
  |c0::c1::r,hc=>
   simp only[It]at hc;split at hc
   ·rename_i a0 l0 h0 h1;simp only[aj,av7]at hc;obtain⟨_,rfl⟩:=hc;split at h1<;>cases h1
   cases hc
 ·rename_i x0 t0 t1
  match iy,hc with
  |[c0,c1],hc=>
   simp only[It]at hc;split at hc
   ·rename_i a0 l0 h0 h1;split at h1
    ·rename_i a1 l1 h2 h3;simp only[aj]at h1 h3;subst h3 h1;simp only[aj,av7,and_true]at hc;obtain⟨rfl,rfl⟩:=hc;split at he
     ·rename_i id av id' a7d ht ht';obtain⟨e1,e2⟩:=ru he;refine key [a.eval c0,a.eval c1] _ rfl e1 e2 ?_;obtain⟨p1,p2⟩:=ptr h0 ht;obtain⟨p3,p4⟩:=ptr h2 ht';refine⟨fun p hp=>?_,fun hall=>?_⟩
      ·simp at hp;rcases hp with rfl|rfl
       ·exact p1
       exact p3
      have q1:=p2 (hall (id,av) (by simp)).1 (hall (id,av) (by simp)).2;have q2:=p4 (hall (id',a7d) (by simp)).1 (hall (id',a7d) (by simp)).2;simp[q1,q2]
     ·rename_i x y ht ht';obtain⟨e1,e2⟩:=ru he;refine key [a.eval c0,a.eval c1] _ rfl e1 e2 ?_;have q1:=h.ev h0;simp only[me.ev,ht]at q1;have q2:=h.ev h2;simp only[me.ev,ht']at q2;refine gj.nu rfl fun i y u hy hu=>?_
      match i with
      |0=>simp at hy hu;subst hy hu;exact q1
      |1=>simp at hy hu;subst hy hu;exact q2
      |i+2=>simp at hy
     cases he
    cases h1
   cases hc
  |[],hc=>simp[It]at hc
  |[c0],hc=>
   simp only[It]at hc;split at hc
   ·rename_i a0 l0 h0 h1;simp only[aj]at h1;subst h1;simp at hc
   cases hc
  |c0::c1::c2::r,hc=>
   simp only[It]at hc;split at hc
   ·rename_i a0 l0 h0 h1;simp only[aj,av7]at hc;obtain⟨_,rfl⟩:=hc;split at h1
    ·rename_i h3;simp only[aj,av7]at h1;obtain⟨_,rfl⟩:=h1;split at h3<;>cases h3
    cases h1
   cases hc
 ·match iy,hc with
  |[],hc=>
   obtain⟨e1,e2⟩:=ru he;exact key [] _ rfl e1 e2 (gj.nu rfl (by simp))
  |c0::r,hc=>
   simp only[It]at hc;split at hc<;>cases hc
 cases he
end
section
variable{P:Program}{B0 nt:Nat}{w0 w w':World}{G0 G G':fy}{s s':PS}{E E':Env}{a:Act}
theorem aa2{op:BinOp}(hop:op= .eql∨op= .neq){t:TypeId}{ks:List LK}(hl:Be P 8 t=some ks)(hg:Ap P t=some true)(hq:P.eqGuardType P.depth t=false){xs ys:List D}{b:Bool}(he:As ks xs ys=some b)
  {u v:Value}(hx:gj G (.agg xs) u)(hy:gj G (.agg ys) v)(ox oy:Operand):
  (do eqGuard op t ox oy u v;binOp op t u v:Sem Value).run P w= .ok (.bool (if decide (op= .neq)then !b else b)) w:=by
 obtain⟨g,k1,k2,k3,k4⟩:=ay8 (G:=G) (w:=w) 8 t ks hl aKm (by decide);rw[hg]at k2
 injection k2 with k2
 subst k2
 cases hx with
 |agg l1 h1=>
  cases hy with
  |agg l2 h2=>
   rename_i us vs;have hr:=k4 us vs xs ys b ⟨l1,h1⟩ ⟨l2,h2⟩ he;simp only[Fa,dj]at hr
   have hgd:(eqGuard op t ox oy (.agg us) (.agg vs)).run P w= .ok () w:=by
    unfold eqGuard;rcases hop with rfl|rfl<;>simp[hq]
   rcases hop with rfl|rfl
   ·simp only[cb,hgd,bh,binOp,aIy,hr];simp
   simp only[cb,hgd,bh,binOp,aIy,hr];simp
theorem ak2:∀{l:List Operand} {os:List me},It l=some os→os.length=l.length∧∀(i:Nat) (x:Operand) (o:me),l[i]? =some x→os[i]? =some o→ur x=some o:=by
 intro l
 induction l with
 |nil=>intro os h;simp only[It,aj]at h;subst h;exact⟨rfl,by simp⟩
 |cons x r ih=>
  intro os h;simp only[It]at h;split at h
  ·rename_i o l' h1 h2
   injection h with h
   subst h;obtain⟨k1,k2⟩:=ih h2;refine⟨by simp[k1],fun i y o' hy ho=>?_⟩
   cases i with
   |zero=>simp at hy ho;subst hy ho;exact h1
   |succ i=>simp at hy ho;exact k2 i y o' hy ho
  cases h
theorem ail{x:V}{v:Value}(hb:isNil s .fn x=some false)(hv:ij G E s x v):∃f p q,v= .func (.func f) p q:=by
 cases x with
 |d z=>cases z with
  |nu f iy=>cases hv;exact⟨_,_,_,rfl⟩
  |_=>simp[isNil]at hb
 |nu f ids=>
  simp only[isNil]at hb;split at hb
  ·rename_i hl;simp only[V.live,cz]at hl;obtain⟨_,k⟩:=hv;refine⟨_,_,_,k fun p hp=>?_⟩;obtain⟨cs,Ie⟩:=jx.1 (hl p hp);obtain⟨e1,e2⟩:=tv Ie;exact⟨e1,_,e2,rfl⟩
  cases hb
 |_=>simp[isNil]at hb
theorem aca:∀{ps:List (Nat×Nat×List C)} {cs out:List C},Ly cs ps=some out→out.length=cs.length:=by
 intro ps
 induction ps with
 |nil=>intro cs out h;simp only[Ly,aj]at h;subst h;rfl
 |cons p ps ih=>
  intro cs out h;obtain⟨o,n,xs⟩:=p;simp only[Ly]at h;split at h
  ·rename_i hc;rw[ih h,qc _ _ _ (by omega)]
  cases h
theorem ajt(h:j9 B0 w0 nt G0 s G E a w){t e:TypeId}{n sz:Nat}{z:List D}{ps:Array (Nat×Operand)}{qs:List (Nat×Nat×me)}(hu:P.underlying t=some (.slice e))(B6:kn P e=some sz)(hz:Fj P e=some z)
  (hn:n*sz≤2^20)(hzl:z.length=sz)(h0:0<sz)(hq:Q4 sz ps.toList=some qs){d:Nat}{dst:Option Nat}{ids:List Nat}{ef:lk}(he:(jv.a09 n sz z qs).og d s=some (ids,ef)):
  qt P B0 nt w0 G0 a w dst (((aai t n (ps.map fun(p:Nat×Operand)=>(p.1,a.eval p.2))).run P w).andThen fun v w=> .ok (.value v) w) (ef.app dst (s.ta ids)):=by
 simp only[jv.og]at he;split at he
 ·rename_i pc hp;split at he
  ·rename_i cs hf;split at he
   ·rename_i Ae;simp only[aj,br]at he;obtain⟨rfl,rfl⟩:=he;obtain⟨zv,hzv,hzr,hzc⟩:=Fi hz h
    have hzs:zv.cells.size=sz:=by have:=hzc.1;simp at this;omega
    have hzero:Nh G E s (((j5 n z).flatten).map .d) ((aKv (n*sz)).map ((if n*sz=0 then(#[]:Array Value)else zv.cells)[· %(if n*sz=0 then(#[]:Array Value)else zv.cells).size]!)):=by
     by_cases hn0:n*sz=0
     ·have hn':n=0:=by
       rcases aIz.1 hn0 with h|h
       ·exact h
       omega
      subst hn';simp[Nh]
     rw[al hn0];have:=a8m h hzc (n:=n) (by omega);rw[hzl]at this;exact this
    obtain⟨q1,q2⟩:=U1 hq
    obtain⟨r1,r2⟩:=Zi h (get:=fun j _=>some (j*sz,sz)) q1 (fun i p q hp hq=>by
     obtain⟨⟨h1,h2⟩,hc⟩:=q2 i p q hp hq
     exact⟨by simp[h1,←h2],hc⟩) hp
    obtain⟨vs,hv1,hv2⟩:=Yp (place:=fun j=>some (j*sz,sz)) (ev:=a.eval) r1 (fun i p q hp hq=>by
     obtain⟨k1,k2⟩:=r2 i p q hp hq
     exact⟨by simpa using k1,k2⟩) hf hzero
    have hlen:=aca hf;simp only[ag,aJc,List.map_replicate,aI5,hzl]at hlen
    have hdl:cs.length=n*sz:=by simpa using hlen
    obtain⟨c1,c2⟩:=a6i sz n cs hdl
    have hvs:vs.size=n*sz:=by have:=hv2.1;omega
    have hh:Holds G E s vs (.qq sz (chunks sz n cs)):=by
     refine⟨by rw[c1,hvs];exact ay _,fun i e hi=>(c2 i e hi).1,fun i e j x u hi hj hu=>?_⟩;obtain⟨k1,k2⟩:=c2 i e hi
     have hjl:j<sz:=by have:=(aw.1 hj).1;omega
     rw[k2 j hjl]at hj;exact hv2.2 (i*sz+j) x u hj hu
    have run:(aai t n (ps.map fun(p:Nat×Operand)=>(p.1,a.eval p.2))).run P w= .ok (.slice (some ⟨w.heap.size,0,none⟩) n n) (w.alloc (.cells vs e)):=by
     unfold aai;simp only[cb,underlying,run_program,bh,hu,eh,qx B6];rw[al (by omega)]
     have hps:(ps.map fun(p:Nat×Operand)=>(p.1,a.eval p.2)).toList=ps.toList.map fun p=>(p.1,a.eval p.2):=by simp
     by_cases hn0:n*sz=0
     ·rw[bm hn0];simp only[bm hn0]at hv1;simp only[cb,eh,bh,hps,hv1];rfl
     rw[al hn0];simp only[al hn0]at hv1;simp only[cb,hzr,eh,bh,hps,hv1];rfl
    have hf':=h.new d _ vs e hh;rw[run];refine⟨_,_,_,G,_,_,.ref d (s.av d+1) n,rfl,.inl rfl,hf',?_,rfl⟩;have:=Av (G':=G) (s':={s with da:=lb s.da d (some (.qq sz (chunks sz n cs))),av:=lb s.av d (s.av d+1)})
     (E':={E with b:=lb E.b d w.heap.size,n:=lb E.n d vs.size}) (id:=d) (sz:=sz) (n:=(chunks sz n cs).length) (len:=n) (cap:=n) (g:=w.heap.size) (ck _ _ _) rfl (ck _ _ _) (by
      show lb E.n d _ d=_
      rw[ck,hvs]) c1 (ay _)
    have hv:lb s.av d (s.av d+1) d=s.av d+1:=ck _ _ _;simpa[hv]using this
   cases he
  cases he
 cases he
theorem Vv(h:j9 B0 w0 nt G0 s G E a w){t:TypeId}{id m j id2 off:Nat}{sz:Nat}{b nb:B}{cs:List C}(hs:kn P t=some 1)(hb:s.da id=some b)(hd:b.Cz=some (sz,m))(hd':nb.Cz=some (sz,j))(hj:j≤m)(hiv:nb.isVar=false)
  (hh:∀cells,Holds G E s cells b→Holds G E s cells nb)(hc:s.cs id2 (s.av id2)=some cs)(Wp:off+1≤cs.length){v:Value}(hv:ij G E s (.Hg id (s.av id) m j) v){cap:Nat}(afg:E.n id=cap*sz)(hmc:m≤cap):
  ∃w' E',(storeVar t ⟨E.b id2,off,none⟩ v).run P w= .ok () w'∧
   j9 B0 w0 nt G0 {s with da:=lb (lb s.da id (some nb)) id2 (some (.loc (patch cs off [.ref id (s.av id+1) j]))),av:=lb s.av id (s.av id+1)} G E' a w':=by
 obtain⟨_,e2⟩:=tv hc
 have hne:id2≠id:=by
  intro e;subst e;rw[hb]at e2
  injection e2 with e2
  subst e2;cases hd
 obtain⟨_,_,k⟩:=hv;obtain⟨_,hv'⟩:=k rfl sz m ((vb hb).trans hd);obtain⟨_,hve⟩:=hv' rfl;subst hve;clear hv' k;have h1:=h.aye (b':=nb) (j:=j) (m:=j*sz) hb hd hd' (by rw[afg];exact fa _ (by omega)) hh
 have e2':lb s.da id (some nb) id2=some (.loc cs):=by rw[gu _ _ _ _ hne];exact e2
 obtain⟨cells,et,Ke,hn,hhc,hw⟩:=h1.xp (id:=id2) e2';obtain⟨hl,hcr⟩:=hhc;have Ie:(aKl (some ⟨E.b id,0,none⟩) j j).cells= #[aKl (some ⟨E.b id,0,none⟩) j j]:=rfl
 have hpl:off+[C.ref id (s.av id+1) j].length≤cs.length:=by simpa using Wp
 have hpv:off+(aKl (some ⟨E.b id,0,none⟩) j j).cells.toList.length≤cells.toList.length:=by rw[Ie];simp;omega
 have run:=N7 (P:=P) (v:= .slice (some ⟨E.b id,0,none⟩) j j) (o:=off) hs (by rw[Ie];rfl) Ke (by omega) (fun u hu=>by rw[Ie]at hu;simp at hu;subst hu;rfl)
 have Nb:=h1.set e2' (b':= .loc (patch cs off [.ref id (s.av id+1) j])) .loc (A0.setRow Ke (patch cells.toList off (aKl (some ⟨E.b id,0,none⟩) j j).cells.toList).toArray) (by simp[qc _ _ _ hpv];exact hn) ⟨by simp[qc _ _ _ hpl,qc _ _ _ hpv,hl],fun q c u hq hu=>by
  rw[Dh _ _ _ hpl]at hq;rw[zh,Dh _ _ _ hpv]at hu;rw[Ie]at hu;simp only[ca,ed,fj]at hq hu;split at hq
  ·rename_i hin
   have hq0:q-off=0:=by omega
   rw[bm hin,hq0]at hu;rw[hq0]at hq;simp at hq hu;subst hq hu;have:=Av (G':=G) (s':={s with da:=lb s.da id (some nb),av:=lb s.av id (s.av id+1)}) (E':={E with n:=lb E.n id (j*sz)}) (id:=id) (sz:=sz) (n:=j) (len:=j) (cap:=j) (g:=E.b id) (ck _ _ _) hd' rfl (ck _ _ _) rfl (ay _);have hv:lb s.av id (s.av id+1) id=s.av id+1:=ck _ _ _;simp only[hv]at this;exact this
  rename_i hin;rw[al hin]at hu
  exact hcr q c u hq (by simpa using hu)⟩
 exact⟨_,_,run,Nb⟩
theorem a6d(h:j9 B0 w0 nt G0 s G E a w){t:TypeId}{n:Nat}{x y:V}{ad v:Value}{ids:List Nat}{ef:lk}{dst:Option Nat}(hs:kn P t=some n)(he:xn s n x y=some (ids,ef))(hx:ij G E s x v)(hy:ij G E s y ad):
  qt P B0 nt w0 G0 a w dst (((aF2 t ad v).run P w).andThen fun _ w=> .ok .skip w) (ef.app dst (s.ta ids)):=by
 cases x with
 |Hg id av m j=>
  cases y with
  |ic id2 aA0 off=>
   have ptr:∀cs,s.cs id2 aA0=some cs→ad= .pointer (some ⟨E.b id2,off,none⟩)∧s.cs id2 (s.av id2)=some cs:=by
    intro cs hc;obtain⟨e1,e2⟩:=tv hc;exact⟨hy.2 e1 ⟨_,e2,rfl⟩,by rw[e1];exact hc⟩
   have go:∀{w':World} {E':Env} {s2:PS},ad= .pointer (some ⟨E.b id2,off,none⟩)→(storeVar t ⟨E.b id2,off,none⟩ v).run P w= .ok () w'→j9 B0 w0 nt G0 s2 G E' a w'→
     qt P B0 nt w0 G0 a w dst (((aF2 t ad v).run P w).andThen fun _ w=> .ok .skip w) (s2.put dst .no):=by
    intro w' E' s2 ha hr hf;subst ha;unfold aF2;simp only[cb,yv,bh,hr];exact⟨_,_,_,G,E',_,.no,rfl,.inr ⟨rfl,rfl⟩,hf,trivial,rfl⟩
   have room:∀sz dd,s.Cz id=some (sz,dd)→s.av id=av→dd=m→∃cap,E.n id=cap*sz∧m≤cap:=fun sz dd hd hv hl=>((hx.2.2 hv sz dd hd).2 hl).1;simp only[xn]at he;split at he
   ·rename_i sz dd cs hb hc;split at he
    ·rename_i hcond;obtain⟨rfl,zc,hlen,Wp⟩:=hcond;simp only[aj,br]at he;obtain⟨rfl,rfl⟩:=he;obtain⟨ha,hc'⟩:=ptr cs hc;subst zc;obtain⟨cap,c1,c2⟩:=room sz dd.length (vb hb) rfl hlen
     obtain⟨w',E',r1,r2⟩:=Vv h hs hb (b:= .arr sz dd) (nb:= .arr sz (dd.take j)) (m:=m) (j:=j) (by simp[B.Cz,hlen]) (by have:=hx.1;simp[B.Cz];omega) hx.1 rfl (fun _ q=>q.take) hc' Wp hx c1 c2
     exact go ha r1 r2
    cases he
   ·rename_i sz dd cs hb hc;split at he
    ·rename_i hcond;obtain⟨rfl,zc,hlen,Wp⟩:=hcond;simp only[aj,br]at he;obtain⟨rfl,rfl⟩:=he;obtain⟨ha,hc'⟩:=ptr cs hc;subst zc;obtain⟨cap,c1,c2⟩:=room sz dd.length (vb hb) rfl hlen
     obtain⟨w',E',r1,r2⟩:=Vv h hs hb (b:= .qq sz dd) (nb:= .qq sz (dd.take j)) (m:=m) (j:=j) (by simp[B.Cz,hlen]) (by have:=hx.1;simp[B.Cz];omega) hx.1 rfl (fun _ q=>q.aCj) hc' Wp hx c1 c2
     exact go ha r1 r2
    cases he
   cases he
  |_=>cases he
 |_=>cases he
theorem aha(h:j9 B0 w0 nt G0 s G E a w){t:TypeId}{x:Operand}{lo hi mx:Option Operand}{kp cv:Bool}{d:Nat}{r:jv}{dst:Option Nat}(hc:S6 P kp cv t x lo hi mx=some r){ids:List Nat}{ef:lk}(he:r.og d s=some (ids,ef)):
  qt P B0 nt w0 G0 a w dst ((do pure (alx (←yu t (a.eval x) (lo.map a.eval) (hi.map a.eval) (mx.map a.eval))):Sem Next).run P w) (ef.app dst (s.ta ids)):=by
 have opt:∀{x:Option Operand} {y:Option me},a6l x=some y→(y=none∧x.map a.eval=none)∨∃o v,y=some o∧x.map a.eval=some v∧ij G E s (o.ev s) v:=by
  intro x y hxy
  cases x with
  |none=>injection hxy with hxy;exact .inl ⟨hxy.symm,rfl⟩
  |some v=>
   simp only[a6l,ao]at hxy;obtain⟨o,ho,rfl⟩:=hxy;exact .inr ⟨o,_,rfl,rfl,h.ev ho⟩
 unfold S6 at hc;split at hc
 ·rename_i e hu;split at hc
  ·split at hc
   ·rename_i n y lo' Ds mx' hn hy hlo hhi hmx
    injection hc with hc
    subst hc;obtain⟨u,v,hr,rfl,rfl,hv⟩:=agy h hu hn (h.ev hy) (opt hlo) (opt hhi) (opt hmx) he;exact qt.lift h hr hv
   cases hc
  split at hc
  ·rename_i n y hn hy;split at hc
   ·rename_i j;simp only[ao]at hc;obtain⟨j',hj,rfl⟩:=hc;have:=aaq (dst:=dst) h hu hn (h.ev hy) (h.ev hj) he;rw[←Qt]at this;exact this
   split at hc
   ·rename_i lo' Ds hlo hhi
    injection hc with hc
    subst hc;obtain⟨u,v,hr,rfl,rfl,hv⟩:=ado h hu hn (h.ev hy) (opt hlo) (opt hhi) he;exact qt.lift h hr hv
   cases hc
  ·rename_i n y k hn hy;split at hc
   ·rename_i j k' hk;simp only[ao]at hc;obtain⟨j',hj,rfl⟩:=hc;split at he
    ·obtain⟨u,v,hr,rfl,rfl,hv⟩:=ajr h hu hn (h.ev hy) (h.ev hj) (h.ev hk) he;exact qt.lift h hr hv
    have:=aar (dst:=dst) h hu hn (h.ev hy) (h.ev hj) (h.ev hk) he;rw[←Qt]at this;exact this
   cases hc
  cases hc
 ·rename_i ln e hu;split at hc
  ·rename_i n y hn hy
   injection hc with hc
   subst hc;obtain⟨u,v,hr,rfl,rfl,hv⟩:=ak7 h hu hn (h.ev hy) he;exact qt.lift h hr hv
  cases hc
 cases hc
theorem ath(h:j9 B0 w0 nt G0 s G E a w){o:Oper}{im kp cv:Bool}{cm d:Nat}{r:jv}(hc:cOp P im kp cv cm o.op=some r){ids:List Nat}{ef:lk}(he:r.og d s=some (ids,ef)):
  qt P B0 nt w0 G0 a w o.dst ((execOp a.eval o).run P w) (ef.app o.dst (s.ta ids)):=by
 unfold execOp;generalize o.op=op at hc⊢;cases op<;>dsimp only
 case makeInterface t x=>
  simp only[cOp,aj]at hc;subst hc;cases he
 case panic x=>
  simp only[cOp,aj]at hc;subst hc;cases he
 case move x=>
  simp only[cOp]at hc;simp only[ao]at hc;obtain⟨y,hy,rfl⟩:=hc
  cases kp with
  |false=>
   obtain⟨rfl,rfl⟩:=ru he;exact qt.val h rfl (h.ev hy)
  |true=>exact a3l h (h.ev hy) he
 case assign x=>
  simp only[cOp]at hc;simp only[ao]at hc;obtain⟨y,hy,rfl⟩:=hc
  cases kp with
  |false=>
   obtain⟨rfl,rfl⟩:=ru he;exact qt.val h rfl (h.ev hy)
  |true=>exact a3l h (h.ev hy) he
 case pick c x y=>
  simp only[cOp]at hc;split at hc
  ·rename_i c' x' y' h1 h2 h3
   injection hc with hc
   subst hc;have hb:=h.ev h1;simp only[jv.og]at he;split at he
   ·rename_i hcv;rw[hcv]at hb;obtain⟨rfl,rfl⟩:=ru he;generalize hcc:a.eval c=vc at hb⊢;cases hb;exact qt.val h (by simp[asBool]) (h.ev h2)
   ·rename_i hcv;rw[hcv]at hb;obtain⟨rfl,rfl⟩:=ru he;generalize hcc:a.eval c=vc at hb⊢;cases hb;exact qt.val h (by simp[asBool]) (h.ev h3)
   cases he
  cases hc
 case alloc t=>
  simp only[cOp]at hc;simp only[ao]at hc;obtain⟨z,hz,rfl⟩:=hc;exact ajh h hz he
 case box t x=>
  simp only[cOp]at hc;split at hc
  ·rename_i n y h1 h2
   injection hc with hc
   subst hc;exact ato h (h.ev h2) he
  cases hc
 case load t x=>
  simp only[cOp]at hc;split at hc
  ·rename_i n g y h1 h2 h3;split at hc
   ·rename_i hg
    injection hc with hc
    subst hc;simp only[jv.og]at he;obtain⟨v,hl,rfl,rfl⟩:=Aw (f:=id) he;obtain⟨u,hr,hv⟩:=Wh h h1 h2 hg hl (h.ev h3);exact qt.lift h hr hv
   cases hc
  cases hc
 case store t x y=>
  simp only[cOp]at hc;split at hc
  ·rename_i n x' y' h1 h2 h3
   injection hc with hc
   subst hc;simp only[jv.og]at he;split at he
   ·rename_i cs Ie;obtain⟨k1,k2⟩:=R6 Ie (h.ev h3)
    obtain⟨w',id,b,hr,heq,hf⟩:=a0l h h1 he (h.ev h2) k1 k2 (fun Ae u hu=>by
     obtain⟨i,hi,hiu⟩:=i6.1 hu
     have Ds:i<(a.eval y).cells.size:=by simpa using hi
     have hic:i<cs.length:=by omega
     have k3:=k2 i cs[i] u (ax hic) (by rw[←hiu];simp[Ds])
     exact xv.aem k3 (cz.1 Ae _ (cy hic)))
    simp only[br]at heq;obtain⟨rfl,rfl⟩:=heq;rw[af1,hr];exact⟨_,_,_,G,E,_,.no,rfl,.inr ⟨rfl,rfl⟩,hf,trivial,rfl⟩
   rw[af1];exact a6d h h1 he (h.ev h3) (h.ev h2)
  cases hc
 case nilCheck x=>
  simp only[cOp]at hc;simp only[ao]at hc;obtain⟨y,hy,rfl⟩:=hc;have hv:=h.ev hy;simp only[jv.og]at he;split at he
  ·rename_i hb;obtain⟨rfl,rfl⟩:=ru he;obtain⟨k,_⟩:=a4v hb hv;obtain⟨ad,e1,e2⟩:=k rfl
   cases ad with
   |none=>cases e2
   |some p=>
    rw[e1]at hv⊢;exact qt.val h rfl hv
  ·rename_i hb _;obtain⟨rfl,rfl⟩:=ru he;obtain⟨f,p,q,e1⟩:=ail hb hv;rw[e1]at hv⊢;exact qt.val h rfl hv
  cases he
 case fieldAddr t x i=>
  simp only[cOp]at hc;split at hc
  ·rename_i fs y hu hy;split at hc
   ·rename_i f hf;split at hc
    ·rename_i n hn;split at hc
     ·cases hc
     rename_i h0
     injection hc with hc
     subst hc;simp only[jv.og]at he;obtain⟨v,hl,rfl,rfl⟩:=Aw (f:=id) he;obtain⟨u,hr,hv⟩:=aoo hu hf hn h0 hl (h.ev hy);exact qt.lift h hr hv
    cases hc
   cases hc
  cases hc
 case indexAddr t x i=>
  simp only[cOp]at hc;split at hc
  ·rename_i len e y j hu hy hj;simp only[ao]at hc;obtain⟨n,hn,rfl⟩:=hc;simp only[jv.og]at he;split at he
   ·rename_i k m hm;have hi:=h.ev hj;rw[hm]at hi;split at he
    ·rename_i hb;obtain⟨v,hl,rfl,rfl⟩:=Aw (f:=id) he;generalize a.eval i=vi at hi⊢;cases hi;obtain⟨u,hr,hv⟩:=air hu hn hb.1 hb.2 hl (h.ev hy);exact qt.lift h hr hv
    cases he
   cases he
  ·rename_i e y j hu hy hj;simp only[ao]at hc;obtain⟨n,hn,rfl⟩:=hc;simp only[jv.og]at he;split at he
   ·rename_i k m hm;have hi:=h.ev hj;rw[hm]at hi;obtain⟨v,hl,rfl,rfl⟩:=Aw (f:=id) he;generalize a.eval i=vi at hi⊢;cases hi;obtain⟨u,hr,hv⟩:=aio h hu hn hl (h.ev hy);exact qt.lift h hr hv
   cases he
  cases hc
 case index t x i=>
  simp only[cOp]at hc;split at hc
  ·rename_i y j hu hy hj
   injection hc with hc
   subst hc;simp only[jv.og]at he;split at he
   ·rename_i b k m hb hm;have hx:=h.ev hy;have hi:=h.ev hj;rw[hb]at hx;rw[hm]at hi;split at he
    ·rename_i u hu';obtain⟨rfl,rfl⟩:=ru he;generalize a.eval i=vi at hi⊢;generalize a.eval x=vx at hx⊢;cases hi;cases hx;exact qt.lift h (aiq hu hu') gj.int
    cases he
   cases he
  ·rename_i len e y j hu hy hj;split at hc
   ·rename_i n g hn hg;split at hc
    ·rename_i h1
     injection hc with hc
     subst hc;simp only[jv.og]at he;split at he
     ·rename_i ds k m hd hm;have hx:=h.ev hy;have hi:=h.ev hj;rw[hd]at hx;rw[hm]at hi;split at he
      ·rename_i hb;obtain⟨rfl,rfl⟩:=ru he;generalize a.eval i=vi at hi⊢;generalize a.eval x=vx at hx⊢;cases hi
       cases hx with
       | @agg _ vs hl hr=>
        obtain⟨u,hu',hv⟩:=ain (P:=P) (w:=w) (G:=G) (E:=E) (s:=s) (cs:=ds.map .d) (vs:=vs) (k:=k) (i:=m) hu hn hg h1 hb.1 hb.2.1 (by simpa using hb.2.2) (by simpa using hl) (fun q c u hq hu=>by
         simp only[cw,ao]at hq;obtain⟨x,hx,rfl⟩:=hq
         exact hr q x u hx hu)
        rw[←aus,←Gx,←a36]at hv;exact qt.lift h hu' hv
      cases he
     cases he
    cases hc
   cases hc
  cases hc
 case field t x i=>
  simp only[cOp]at hc;split at hc
  ·rename_i fs y hu hy;split at hc
   ·rename_i f hf;split at hc
    ·rename_i n g hn hg;split at hc
     ·rename_i h1
      injection hc with hc
      subst hc;have hx:=h.ev hy;simp only[jv.og]at he;split at he
      ·rename_i ds hds;rw[hds]at hx;split at he
       ·rename_i hl;obtain⟨rfl,rfl⟩:=ru he;generalize a.eval x=vx at hx⊢
        cases hx with
        | @agg _ vs B6 hr=>
         obtain⟨u,hru,hv⟩:=a5r (G:=G) (E:=E) (s:=s) (w:=w) (cs:=ds.map .d) hu hf hn hg h1 (by simpa using hl) (by simpa using B6) (fun i c u hc hu=>by
          simp only[cw,ao]at hc;obtain⟨z,hz,rfl⟩:=hc
          exact hr i z u hz hu)
         refine qt.lift h hru ?_;rw[a36,Gx,aus];exact hv
       cases he
      ·rename_i cs Ie;rw[Ie]at hx;split at he
       ·rename_i hl;obtain⟨rfl,rfl⟩:=ru he;obtain⟨vs,e1,B6,hr⟩:=Eu.1 hx;rw[e1];obtain⟨u,hru,hv⟩:=a5r (G:=G) (E:=E) (s:=s) (w:=w) (cs:=cs) hu hf hn hg h1 hl B6 hr;exact qt.lift h hru hv
       cases he
      cases he
     cases hc
    cases hc
   cases hc
  cases hc
 case binOp op t x y yt=>
  simp only[cOp]at hc;split at hc
  ·rename_i p q hp hq;have hx:=h.ev hp;have hy:=h.ev hq
   have nil:∀(k:TK) (d:TypeDesc),P.underlying t=some d→k.fits d=true→a0f op x y k p q=some r→
     qt P B0 nt w0 G0 a w o.dst ((do pure (alx (←(do eqGuard op t x y (a.eval x) (a.eval y);binOp op t (a.eval x) (a.eval y):Sem Value))):Sem Next).run P w) (ef.app o.dst (s.ta ids)):=by
    intro k d hu hf hcn;obtain⟨z,v,hr,rfl,rfl,hv⟩:=af4 hcn hu hf hx hy he;exact qt.lift h hr hv
   have bin:r= .bin op p q→qt P B0 nt w0 G0 a w o.dst ((do pure (alx (←(do eqGuard op t x y (a.eval x) (a.eval y);binOp op t (a.eval x) (a.eval y):Sem Value))):Sem Next).run P w) (ef.app o.dst (s.ta ids)):=by
    intro hr;subst hr;simp only[jv.og]at he;split at he
    ·rename_i d1 d2 e1 e2;obtain⟨v,hl,rfl,rfl⟩:=Aw he;rw[e1]at hx;rw[e2]at hy;obtain⟨z,hr,hv⟩:=apb (P:=P) (w:=w) hl hx hy t x y;exact qt.lift h hr hv
    cases he
   split at hc
   ·injection hc with hc;exact bin hc.symm
   ·injection hc with hc;exact bin hc.symm
   ·rename_i hu;split at hc
    ·rename_i hop
     injection hc with hc
     subst hc;simp only[jv.og]at he;split at he
     ·rename_i b1 b2 e1 e2;rw[e1]at hx;rw[e2]at hy;obtain⟨rfl,rfl⟩:=ru he;generalize a.eval x=vx at hx⊢;generalize a.eval y=vy at hy⊢;cases hx;cases hy;exact qt.lift h (apc hop hu b1 b2 x y) gj.bool
     cases he
    cases hc
   ·rename_i hu;exact nil _ _ hu rfl hc
   ·rename_i hu;exact nil _ _ hu rfl hc
   ·rename_i hu;exact nil _ _ hu rfl hc
   ·rename_i hu;exact nil _ _ hu rfl hc
   ·rename_i hu;split at hc
    ·rename_i ks hks;split at hc
     ·rename_i hcond
      injection hc with hc
      subst hc;simp only[jv.og]at he;split at he
      ·rename_i xs ys e1 e2;obtain⟨b,hb,rfl,rfl⟩:=Aw he;rw[e1]at hx;rw[e2]at hy;exact qt.lift h (aa2 hcond.1 hks (by unfold Ap;rw[hu]) hcond.2 hb hx hy x y) gj.bool
      cases he
     cases hc
    cases hc
   ·rename_i hu;split at hc
    ·rename_i ks hks;split at hc
     ·rename_i hcond
      injection hc with hc
      subst hc;simp only[jv.og]at he;split at he
      ·rename_i xs ys e1 e2;obtain⟨b,hb,rfl,rfl⟩:=Aw he;rw[e1]at hx;rw[e2]at hy;exact qt.lift h (aa2 hcond.1 hks (by unfold Ap;rw[hu]) hcond.2 hb hx hy x y) gj.bool
      cases he
     cases hc
    cases hc
   cases hc
  cases hc
 case unOp op t x=>
  simp only[cOp]at hc;simp only[ao]at hc;obtain⟨y,hy,rfl⟩:=hc;obtain⟨z,v,hr,e1,hv⟩:=apr (P:=P) (w:=w) (h.ev hy) he;simp only[lk.rz,br]at e1;obtain⟨rfl,rfl⟩:=e1;exact qt.lift h hr hv
 case convert t u x=>
  simp only[cOp]at hc;split at hc
  ·rename_i k0 k y h0 h1 hy
   injection hc with hc
   subst hc;simp only[jv.og]at he;split at he
   ·rename_i k' n hn;have hx:=h.ev hy;rw[hn]at hx;obtain⟨rfl,rfl⟩:=ru he;generalize a.eval x=vx at hx⊢;cases hx;exact qt.lift h (aju h0 h1 n) gj.int
   cases he
  ·rename_i y h0 h1 hy
   injection hc with hc
   subst hc;simp only[jv.og]at he;split at he
   ·rename_i b hb;have hx:=h.ev hy;rw[hb]at hx;obtain⟨rfl,rfl⟩:=ru he;generalize a.eval x=vx at hx⊢;cases hx;exact qt.lift h (agd h0 h1 b) gj.str
   cases he
  cases hc
 case build t ps=>
  simp only[cOp]at hc
  have fin:∀(z:List D) (qs:List (Nat×Nat×me)),r= .build z qs→(∀pc cs,Jk s qs=some pc→Ly (z.map .d) pc=some cs→∃us,(aKe t (ps.map fun(p:Nat×Operand)=>(p.1,a.eval p.2))).run P w= .ok (.agg us) w∧Nh G E s cs us)→
    qt P B0 nt w0 G0 a w o.dst ((do pure (alx (←aKe t (ps.map fun(p:Nat×Operand)=>(p.1,a.eval p.2)))):Sem Next).run P w) (ef.app o.dst (s.ta ids)):=by
   intro z qs hr hk;subst hr;simp only[jv.og]at he;split at he
   ·rename_i pc hpc;split at he
    ·rename_i cs Ie;obtain⟨rfl,rfl⟩:=ru he;obtain⟨us,hr,hv⟩:=hk pc cs hpc Ie;exact qt.lift h hr (al7 hv)
    cases he
   cases he
  split at hc
  ·rename_i fs z hu hz;split at hc
   ·rename_i hall;simp only[ao]at hc;obtain⟨qs,hq,rfl⟩:=hc;exact fin z qs rfl fun pc cs h1 h2=>acr h hu hz hall hq h1 h2
   cases hc
  ·rename_i len e z hu hz;split at hc
   ·rename_i n hn;simp only[ao]at hc;obtain⟨qs,hq,rfl⟩:=hc;exact fin z qs rfl fun pc cs h1 h2=>acs h hu hz hn hq h1 h2
   cases hc
  cases hc
 case buildSlice t n ps=>
  simp only[cOp]at hc;split at hc
  ·rename_i e hu;split at hc
   ·rename_i sz z h1 h2;split at hc
    ·rename_i hb;simp only[ao]at hc;obtain⟨qs,hq,rfl⟩:=hc;rw[Qt];split at he
     ·exact ajt h hu h1 h2 hb.1 hb.2.1 hb.2.2 hq he
     exact ak4 h hu h1 h2 hb.1 hb.2.1 hb.2.2 hq he
    cases hc
   cases hc
  cases hc
 case slice t x lo hi mx=>
  simp only[cOp]at hc;exact aha h hc he
 case makeMap t r'=>
  cases r' with
  |some _=>simp[cOp]at hc
  |none=>
   simp only[cOp]at hc;split at hc
   ·injection hc with hc
    subst hc;rw[Qt];exact aew h he
   cases hc
 case lookup t x i ok=>
  simp only[cOp]at hc;split at hc
  ·rename_i kt e hu;split at hc
   ·rename_i z y j kk hz hy hj hk;simp only[ao]at hc;obtain⟨zd,hzd,rfl⟩:=hc;obtain⟨u,v,hr,rfl,rfl,hv⟩:=abq h hu hz hzd hk (h.ev hy) (h.ev hj) he;exact qt.lift h hr hv
   cases hc
  cases hc
 case mapUpdate t m k v=>
  simp only[cOp]at hc;split at hc
  ·rename_i kt e m' k' v' hu hm hk hv;simp only[ao]at hc;obtain⟨kk,hkk,rfl⟩:=hc;rw[af1];exact aia h hu hkk (h.ev hm) (h.ev hk) (h.ev hv) he
  cases hc
 case makeFunc f first iy=>
  cases f with
  |func f=>
   simp only[cOp]at hc;split at hc
   ·rename_i h0;simp only[ao]at hc;obtain⟨os,ho,rfl⟩:=hc;exact ajg h h0 ho he
   cases hc
  |_=>simp[cOp]at hc
 case extract x i=>
  simp only[cOp]at hc;simp only[ao]at hc;obtain⟨y,hy,rfl⟩:=hc;simp only[jv.og]at he;split at he
  ·rename_i vs hvs;have hx:=h.ev hy;rw[hvs]at hx;obtain⟨z,hz,rfl,rfl⟩:=Aw he;obtain⟨u,hr,hv⟩:=a8i (P:=P) (w:=w) hz hx;exact qt.lift h hr hv
  ·rename_i cs Ie;have hx:=h.ev hy;rw[Ie]at hx;obtain⟨z,hz,rfl,rfl⟩:=Aw he;obtain⟨vs,e1,e2,e3⟩:=K0.1 hx;rw[e1]
   have hlt:i<vs.size:=by have:=(aw.1 hz).1;omega
   refine qt.lift h (u:=vs[i]) ?_ (e3 i z _ hz (bd hlt));unfold aJh;simp[hlt]
  cases he
 case call c=>
  obtain⟨callee,args,Ej⟩:=c
  cases callee with
  |invoke x n=>simp[cOp]at hc
  |value f=>
   cases f with
   |func f=>
    simp only[cOp]at hc
    repeat' split at hc
    all_goals(first|(injection hc with hc;subst hc;cases he;done)|cases hc)
   |tmp t=>
    simp only[cOp]at hc
    repeat' split at hc
    all_goals(first|(injection hc with hc;subst hc;cases he;done)|cases hc)
   |const v=>
    simp only[cOp]at hc
    repeat' split at hc
    all_goals(first|(injection hc with hc;subst hc;cases he;done)|cases hc)
   |global g=>
    simp only[cOp]at hc
    repeat' split at hc
    all_goals(first|(injection hc with hc;subst hc;cases he;done)|cases hc)
  |builtin b=>
   have arg:∀{i:Nat} {x:Operand},args[i]? =some x→(args.map a.eval)[i]? =some (a.eval x):=fun h=>by simp[h]
   have two:∀{x y:Operand},args.toList=[x,y]→(args.map a.eval).toList=[a.eval x,a.eval y]:=fun h=>by simp[h]
   cases b with
   |len=>
    simp only[cOp]at hc;split at hc
    ·rename_i t x ht hx
     have lens:∀(k:TK) (d:TypeDesc) (y:me),P.underlying t=some d→k.fits d=true→ur x=some y→r= .len k y→
       qt P B0 nt w0 G0 a w o.dst ((do let d←resolve a.eval ⟨.builtin .len,args,Ej⟩ o.type;invoke d.target d.args:Sem Next).run P w) (ef.app o.dst (s.ta ids)):=by
      intro k d y hu hf hy hr;subst hr;simp only[jv.og]at he;obtain⟨n,hn,rfl,rfl⟩:=Aw he;have Jm:=ao5 (P:=P) (w:=w) h (ty:=o.type) (arg hx) ht hu hf hn (h.ev hy);exact qt.lift h Jm gj.int
     split at hc
     ·rename_i n e hu
      injection hc with hc
      subst hc;obtain⟨rfl,rfl⟩:=ru he
      have Jm:(aKa Ej o.type (args.map a.eval)).run P w= .ok (.int ab n) w:=by
       unfold aKa;simp only[ht,arg hx,cb,underlying,run_program,bh,hu,eh];rfl
      exact qt.lift h Jm gj.int
     ·rename_i y hu hy;injection hc with hc;exact lens _ _ y hu rfl hy hc.symm
     ·rename_i y hu hy;injection hc with hc;exact lens _ _ y hu rfl hy hc.symm
     ·rename_i y hu hy;injection hc with hc;exact lens _ _ y hu rfl hy hc.symm
     cases hc
    cases hc
   |cap=>
    simp only[cOp]at hc;split at hc
    ·rename_i t x ht hx;split at hc
     ·rename_i e y hu hy
      injection hc with hc
      subst hc;obtain⟨u,v,hr,rfl,rfl,hv⟩:=ajx (P:=P) (ty:=o.type) h (arg hx) ht hu (h.ev hy) he;exact qt.lift h hr hv
     cases hc
    cases hc
   |clear=>
    simp only[cOp]at hc;split at hc
    ·rename_i t x ht hx;split at hc
     ·rename_i e y hu hy;split at hc
      ·rename_i i zd hi hzd;split at hc
       ·rename_i hb
        injection hc with hc
        subst hc;obtain⟨hz,hzl⟩:=hb;simp only[ao]at hz;obtain⟨z,hz,hzz⟩:=hz;have:=ap3 (P:=P) (dst:=o.dst) (ty:=o.type) h hu hi hz hzz hzd hzl (arg hx) ht (h.ev hy) he;rw[←Qt]at this;exact this
       cases hc
      cases hc
     cases hc
    cases hc
   |append=>
    simp only[cOp]at hc;split at hc
    ·rename_i t u x y ht hu hx hy;split at hc
     ·rename_i e ik x' y' h1 h2 h3 h4;split at hc
      ·rename_i i zd hi hzd;split at hc
       ·rename_i hb
        injection hc with hc
        subst hc;obtain⟨z,hz,hzz⟩:=ao.1 hb.1;have:=ak8 (dst:=o.dst) (ty:=o.type) h h1 h2 hi hz hzd hb.2.1 hb.2.2.1 hb.2.2.2.1 (arg hx) (arg hy) ht hu (h.ev h3) (h.ev h4) he;rw[←Qt]at this;exact this
       cases hc
      cases hc
     ·rename_i e e' x' y' h1 h2 h3 h4;split at hc
      ·rename_i i hi;split at hc
       ·rename_i hb
        injection hc with hc
        subst hc;obtain⟨z,hz,hzz⟩:=ao.1 hb.1;have:=apd (dst:=o.dst) (ty:=o.type) h h1 h2 hi hz hb.2.1 hb.2.2.1 hzz (arg hx) (arg hy) ht hu (h.ev h3) (h.ev h4) he;rw[←Qt]at this;exact this
       cases hc
      cases hc
     cases hc
    cases hc
   |min=>
    simp only[cOp]at hc;split at hc
    ·rename_i x y hxy;split at hc
     ·rename_i x' y' hx hy
      injection hc with hc
      subst hc;simp only[jv.og]at he;split at he
      ·rename_i k m k' n e1 e2;obtain⟨rfl,rfl⟩:=ru he;have hx:=h.ev hx;have hy:=h.ev hy;rw[e1]at hx;rw[e2]at hy
       have Jm:(Builtin.min_ Ej o.type (args.map a.eval)).run P w= .ok (.int k (if n<m then n else m)) w:=by
        unfold Builtin.min_;rw[two hxy];generalize a.eval x=vx at hx⊢;generalize a.eval y=vy at hy⊢;cases hx;cases hy;rfl
       exact qt.lift h Jm gj.int
      cases he
     cases hc
    cases hc
   |max=>
    simp only[cOp]at hc;split at hc
    ·rename_i x y hxy;split at hc
     ·rename_i x' y' hx hy
      injection hc with hc
      subst hc;simp only[jv.og]at he;split at he
      ·rename_i k m k' n e1 e2;obtain⟨rfl,rfl⟩:=ru he;have hx:=h.ev hx;have hy:=h.ev hy;rw[e1]at hx;rw[e2]at hy
       have Jm:(Builtin.max_ Ej o.type (args.map a.eval)).run P w= .ok (.int k (if n>m then n else m)) w:=by
        unfold Builtin.max_;rw[two hxy];generalize a.eval x=vx at hx⊢;generalize a.eval y=vy at hy⊢;cases hx;cases hy;rfl
       exact qt.lift h Jm gj.int
      cases he
     cases hc
    cases hc
   |_=>simp[cOp]at hc
 all_goals(simp[cOp]at hc)
end
section
variable{P:Program}{B0 nt:Nat}{w0 w w':World}{G0 G G':fy}{s s':PS}{E E':Env}{a:Act}
theorem j9.aEk{f:Nat}(h:j9 B0 w0 nt G0 s G E a w){args:List V}{vs cvs:Array Value}{iy:List D}{own:Bool}(B6:vs.size=args.length)(hcz:cvs.size=iy.length)
  (hv:∀(i:Nat) (x:V) (v:Value),args[i]? =some x→vs[i]? =some v→ij G E s x v)(hcv:∀(i:Nat) (x:D) (v:Value),iy[i]? =some x→cvs[i]? =some v→gj (full w) x v)
  (hcg:own=false→∀(i:Nat) (x:D) (v:Value),iy[i]? =some x→cvs[i]? =some v→gj G x v)
  {ds:List D}{r:D}(hs:J0 s args=some ds)(hf:Oc P s.ctx f (ds++iy) r)(hr:r.flat=true∨(own=false∧args.all V.isD=true)):
  Calls P f (vs++cvs) w fun e w'=>∃v G',e= .returned v∧j9 B0 w0 nt G0 s G' E a w'∧ij G' E s (.d r) v:=by
 obtain⟨hl,hk⟩:=amk hs
 have app:∀{H:fy},(∀(i:Nat) (x:D) (v:Value),ds[i]? =some x→vs[i]? =some v→gj H x v)→(∀(i:Nat) (x:D) (v:Value),iy[i]? =some x→cvs[i]? =some v→gj H x v)→
   ∀(i:Nat) (x:D) (v:Value),(ds++iy)[i]? =some x→(vs++cvs)[i]? =some v→gj H x v:=by
  intro H h1 h2 i x v hx hvv;by_cases hi:i<ds.length
  ·rw[l8 hi]at hx;rw[o7 (by omega)]at hvv;exact h1 i x v hx hvv
  rw[mb (by omega)]at hx;rw[a3j (by omega)]at hvv;rw[B6,←hl]at hvv;exact h2 _ x v hx hvv
 by_cases hall:own=false∧args.all V.isD=true
 ·have hd:∀(i:Nat) (x:D) (v:Value),ds[i]? =some x→vs[i]? =some v→gj G x v:=by
   intro i x v hx hvv
   have hi:i<args.length:=by have:=(aw.1 hx).1;omega
   have hx':args[i]? =some args[i]:=ax hi;have h1:=hk i _ x hx' hx;have h2:=hv i _ v hx' hvv;have h3:=cz.1 hall.2 args[i] (cy hi)
   generalize args[i]=y at*
   cases y with
   |d z=>simp only[snap,aj]at h1;subst h1;exact h2
   |_=>cases h3
  refine(hf.2 G w (vs++cvs) (fun i d v e=>by have:=h.ctx i;rw[e]at this;exact this) (fun i=>(h.tb i).below h.base h.below) h.gok (by simp;omega) (app hd (hcg hall.1))).mono ?_
  rintro e w' ⟨v,G',he,hle,a9v,hok,aiy,hrel⟩;exact⟨v,G',he,h.a6m aiy hle hok a9v.1 a9v.2,hrel⟩
 have asr:r.flat=true:=hr.resolve_right hall
 have hd:∀(i:Nat) (x:D) (v:Value),ds[i]? =some x→vs[i]? =some v→gj (full w) x v:=by
  intro i x v hx hvv
  have hi:i<args.length:=by have:=(aw.1 hx).1;omega
  have hx':args[i]? =some args[i]:=ax hi;exact h.a3q (hk i _ x hx' hx) (hv i _ v hx' hvv)
 refine(hf.2 (full w) w (vs++cvs) (fun i d v e=>by have:=h.ctx i;rw[e]at this;exact h.a3q (x:= .d d) rfl this) (fun i=>(h.tb i).below h.base h.below) (GOk.ay2 w) (by simp;omega) (app hd hcv)).mono ?_
 rintro e w' ⟨v,G',he,hle,a9v,hok,aiy,hrel⟩;refine⟨v,join G G' w.heap.size,he,h.a6m aiy ⟨fun b o v hc=>?_,fun b es hc=>?_⟩ ⟨fun b o v hc=>?_,fun b es hc=>?_⟩ (fun b o hb=>?_) (fun b hb=>?_),gj.flat asr hrel⟩
 ·show(if b<w.heap.size then G.cv b o else G'.cv b o)=_;rw[bm (h.gok.lt hc)];exact hc
 ·show(if b<w.heap.size then G.mv b else G'.mv b)=_;rw[bm (h.gok.ltm hc)];exact hc
 ·change(if b<w.heap.size then G.cv b o else G'.cv b o)=_ at hc;split at hc
  ·rename_i hb;exact(aiy.cell (p:=⟨b,o,none⟩) hb).trans (h.gok.cv b o v hc)
  exact hok.cv b o v hc
 ·change(if b<w.heap.size then G.mv b else G'.mv b)=_ at hc;split at hc
  ·rename_i hb;obtain⟨ents,clock,h1,h2⟩:=h.gok.mv b es hc;exact⟨ents,clock,(aiy.block b hb).trans h1,h2⟩
  exact hok.mv b es hc
 ·show(if b<w.heap.size then G.cv b o else G'.cv b o)=_;rw[bm hb]
 show(if b<w.heap.size then G.mv b else G'.mv b)=_;rw[bm hb]
theorem j9.bump(h:j9 B0 w0 nt G0 s G E a w){id g:Nat}{cs:List C}(hb:s.da id=some (.loc cs))(hv:a.tmps.getD g undef= .pointer (some ⟨E.b id,0,none⟩)):
  j9 B0 w0 nt G0 {s with tmp:=lb s.tmp g (.ic id (s.av id+1) 0),av:=lb s.av id (s.av id+1)} G E a w:=by
 have hm:Hk E E s {s with tmp:=lb s.tmp g (.ic id (s.av id+1) 0),av:=lb s.av id (s.av id+1)}:=by
  refine⟨fun i=>?_,fun i sz T4 hv va=>⟨T4,va,ay _,fun _=>⟨rfl,rfl⟩⟩,fun i b1 hv va hva=>⟨⟨b1,va,hva⟩,rfl⟩,fun i hv hp=>⟨hp,rfl⟩⟩;show _≤lb s.av id (s.av id+1) i;by_cases e:i=id
  ·subst e;rw[ck];omega
  rw[gu _ _ _ _ e];exact ay _
 refine⟨h.size,h.defers,h.base,h.below,h.gok,h.gle,h.Ip,fun t=>?_,fun i b hi=>?_,h.inj,fun i es hi=>?_,h.Qq,fun p=>ij.move (fy.kl _) hm (h.ctx p),h.tb⟩
 ·by_cases e:t=g
  ·subst e;show ij G E _ (lb s.tmp t _ t) _;rw[ck];exact⟨by simp[ck],fun _ _=>hv⟩
  show ij G E _ (lb s.tmp g _ t) _;rw[gu _ _ _ _ e];exact ij.move (fy.kl _) hm (h.tmp t)
 ·have k:=h.da i b hi;exact k.move (fy.kl _) hm rfl k.2.1 rfl rfl
 obtain⟨h1,h2,ents,clock,h3,h4,h5,h6⟩:=h.mp i es hi;exact⟨h1,h2,ents,clock,h3,h4,fun i e x hx hy=>⟨(h5 i e x hx hy).1,ij.Dj (fy.kl _) hm (h5 i e x hx hy).2⟩,h6⟩
theorem A0.refl{g:Nat}{o:Obj}(h:w.heap[g]? =some o):A0 w w g o:=⟨rfl,rfl,rfl,rfl,rfl,fun _ _=>rfl,h⟩
theorem aou(h:j9 B0 w0 nt G0 s G E a w){t:TypeId}{n g:Nat}{xo:me}{v:Value}(hs:kn P t=some n)(hx:ij G E s (xo.ev s) v){d:Nat}{ids:List Nat}{ef:lk}(he:(jv.init g n xo).og d s=some (ids,ef)):
  qt P B0 nt w0 G0 a w none ((do aF2 t (a.tmps.getD g undef) v;pure Next.skip:Sem Next).run P w) (ef.app none (s.ta ids)):=by
 simp only[jv.og]at he;split at he
 ·rename_i id av m cs ht hb Ie;split at he
  ·rename_i hc;obtain⟨hid,rfl,rfl,hlen,Ae⟩:=hc;simp only[aj,br]at he;obtain⟨rfl,rfl⟩:=he;generalize s.base+g=id0 at hid hb ht⊢;subst hid;have hp:=h.tmp g;rw[ht]at hp;have had:=hp.2 rfl ⟨_,hb,rfl⟩;have k0:=h.da id _ hb;obtain⟨_,_,cells,et,k3,k4,k5⟩:=k0;have k5':m=cells.size:=k5
   have h1:=h.set hb (b':= .loc (j5 m (.d .any))) ⟨rfl,fun _ _ h'=>by simp[B.Cz]at h'⟩ (A0.refl k3) k4 ⟨by simp[k5'],fun j c u hc hu=>by
    rw[Q9]at hc;split at hc
    ·injection hc with hc;subst hc;exact gj.any
    cases hc⟩
   have hm:Hk E E s {s with da:=lb s.da id (some (.loc (j5 m (.d .any))))}:=by
    refine⟨fun i=>ay _,fun i sz T4 _ va=>?_,fun i b1 _ va hva=>?_,fun i _ hp=>⟨hp,rfl⟩⟩
    ·by_cases e:i=id
     ·subst e;simp[PS.Cz,B.Cz,ck]at va
     simp only[PS.Cz,gu _ _ _ _ e]at va;exact⟨T4,va,ay _,fun _=>⟨rfl,rfl⟩⟩
    by_cases e:i=id
    ·subst e;exact⟨⟨_,hb,rfl⟩,rfl⟩
    simp only[gu _ _ _ _ e]at va;exact⟨⟨b1,va,hva⟩,rfl⟩
   obtain⟨c1,c2⟩:=R6 Ie hx
   have ast:∀i av,PS.Iw {s with da:=lb s.da id (some (.loc (j5 m (.d .any))))} i av=s.Iw i av:=by
    intro i av;unfold PS.Iw;by_cases e:i=id
    ·subst e;simp[ck,hb,B.Cz]
    simp[gu _ _ _ _ e]
   have aDg:cs.all (C.one {s with da:=lb s.da id (some (.loc (j5 m (.d .any))))})=true:=by
    rw[cz]at Ae⊢;intro c hc;have:=Ae c hc
    cases c with
    |d x=>exact this
    |ref i v l=>simp only[C.one,V.live,ast]at this⊢;exact this
    |kj i v=>exact this
    |ptr i v o=>
     simp only[C.one,V.live,PS.cs]at this⊢;by_cases e:i=id
     ·subst e;simp only[hb]at this;simp at this
     simp only[gu _ _ _ _ e];exact this
   have re:ye {s with da:=lb s.da id (some (.loc (j5 m (.d .any))))} m cs (.ic id (s.av id) 0)=some ([],.set id (.loc cs)):=by
    have e1:PS.cs {s with da:=lb s.da id (some (.loc (j5 m (.d .any))))} id (s.av id)=some (j5 m (.d .any)):=by
     simp[PS.cs,ck]
    simp only[ye,e1];rw[bm ⟨aDg,hlen,by simp⟩]
    have:patch (j5 m (C.d .any)) 0 cs=cs:=by simp[patch,hlen]
    rw[this]
   obtain⟨w',id',b,hr,heq,hf⟩:=a0l h1 hs re (ad:=a.tmps.getD g undef) (v:=v) ⟨ay _,fun _ _=>had⟩ c1 (fun j c u hj hu=>ij.Dj (fy.kl _) hm (c2 j c u hj hu)) (fun _ u hu=>by
    obtain⟨i,hi,hiu⟩:=i6.1 hu
    have Ds:i<v.cells.size:=by simpa using hi
    have hic:i<cs.length:=by omega
    have k3:=c2 i cs[i] u (ax hic) (by rw[←hiu];simp[Ds])
    exact xv.aem k3 (cz.1 Ae _ (cy hic)))
   simp only[br,lk.set.injEq,true_and]at heq;obtain⟨rfl,rfl⟩:=heq;rw[af1,hr];have h2:=hf.bump (id:=id) (g:=g) (cs:=cs) (by simp[ck]) had;refine⟨_,_,_,G,E,_,.no,rfl,.inr ⟨rfl,rfl⟩,h2,trivial,?_⟩
   have e:lb (lb s.da id (some (B.loc (j5 m (C.d .any))))) id (some (B.loc cs))=lb s.da id (some (B.loc cs)):=by
    funext i
    by_cases e:i=id
    ·subst e;simp[ck]
    simp[gu _ _ _ _ e]
   simp only[lk.app,PS.ta,PS.put,e]
  cases he
 cases he
end
section
variable{P:Program}{B0 nt:Nat}{w0 w w':World}{G0 G G':fy}{s s':PS}{E E':Env}{a:Act}
def Fits(P:Program)(nt:Nat)(an:Ann)(ops:Array Oper)(o:Oper)(ri:RI):Prop:=
 ∃r0,a6k P nt an ops o=some r0∧(ri=r0∨(∃z,r0.op= .alloc z∧ri={r0 with op:= .ze z.length})∨∃n g x,r0.op= .store n (.t g) x∧r0.dst=none∧ri={r0 with op:= .init g n x})
def L0(B0 nt:Nat)(w0:World)(G0:fy)(K:PS→Prop)(a:Act)(w:World):Prop:=∃s G E,K s∧j9 B0 w0 nt G0 s G E a w
theorem X4{an:Ann}{ops:Array Oper}{o:Oper}{r0:RI}(h:a6k P nt an ops o=some r0):
  cOp P (an.imm.contains (o.dst.getD 0)) (an.kp.contains (o.dst.getD 0)) (an.cv.contains (o.dst.getD 0)) (if an.ce.contains (o.dst.getD 0)then 2 else if an.cf.contains (o.dst.getD 0)then 1 else if an.cr.contains (o.dst.getD 0)then 3 else 0) o.op=some r0.op∧r0.dst=o.dst∧o.dst.all (· <nt)=true∧
   ((o.guard=none∧r0.guard=none)∨∃j b t,o.guard=some (j,b)∧r0.guard=some (t,b)∧(ops[j]?).bind (·.dst)=some t)∧
   r0.after=(o.after.toList.filter (aIw .any)).map (·.on):=by
 unfold a6k at h;split at h
 ·cases h
 rename_i r hr;split at h
 ·rename_i hg;split at h
  ·rename_i hd;injection h with h;subst h;exact⟨hr,rfl,hd,.inl ⟨hg,rfl⟩,rfl⟩
  cases h
 rename_i j b hg;split at h
 ·rename_i t ht;split at h
  ·rename_i hd;injection h with h;subst h;exact⟨hr,rfl,hd,.inr ⟨j,b,t,hg,rfl,ht⟩,rfl⟩
  cases h
 cases h
theorem Fits.spec{an:Ann}{ops:Array Oper}{o:Oper}{ri:RI}(h:Fits P nt an ops o ri):
  ri.dst=o.dst∧o.dst.all (· <nt)=true∧((o.guard=none∧ri.guard=none)∨∃j b t,o.guard=some (j,b)∧ri.guard=some (t,b)∧(ops[j]?).bind (·.dst)=some t)∧
   ri.after=(o.after.toList.filter (aIw .any)).map (·.on):=by
 obtain⟨r0,hc,rfl|⟨z,_,rfl⟩|⟨n,g,x,_,_,rfl⟩⟩:=h<;>exact(X4 hc).2
theorem C5(h:j9 B0 w0 nt G0 s G E a w){an:Ann}{ops:Array Oper}{o:Oper}{ri:RI}(hf:Fits P nt an ops o ri){b:Bool}(hw:wanted ri s=some b):aJ9 o (yielded ops a.tmps)=b:=by
 obtain⟨_,_,hg,_⟩:=hf.spec;unfold wanted at hw;unfold aJ9;rcases hg with ⟨h1,h2⟩|⟨j,c,t,h1,h2,h3⟩
 ·rw[h2]at hw;rw[h1];simpa using hw
 rw[h2]at hw;rw[h1];simp only at hw⊢;split at hw
 ·rename_i x hx
  injection hw with hw
  have hv:=h.tmp t;rw[hx]at hv;unfold yielded;rw[h3];simp only[Of]
  have abz:a.tmps[t]? =some (.bool x):=by
   generalize hq:a.tmps.getD t undef=q at hv;cases hv;rw[j8]at hq
   cases hz:a.tmps[t]? with
   |none=>rw[hz]at hq;cases hq
   |some y=>rw[hz]at hq;simp at hq;rw[hq]
  rw[abz];subst hw;cases x<;>cases c<;>rfl
 ·rename_i hx
  injection hw with hw
  subst hw;have hv:=h.tmp t;rw[hx]at hv;unfold yielded;rw[h3];simp only[Of]
  cases hz:a.tmps[t]? with
  |none=>rfl
  |some y=>
   rw[j8,hz]at hv;simp only[j6]at hv;cases hv;rfl
 cases hw
theorem qt.wp{o:Oper}{s':PS}{K:PS→Prop}{next:Act→World→Prop}{Q:Exit→Act→World→Prop}(hd:o.dst.all (· <nt)=true)
  (h:qt P B0 nt w0 G0 a w o.dst ((execOp a.eval o).run P w) s')(hK:K s')(hn:∀a w,L0 B0 nt w0 G0 K a w→next a w):o.wp P a w next Q:=by
 obtain⟨n,v,w',G',E',st,x,hr,hnv,hf,hv,rfl⟩:=h;unfold aLg;rw[hr];rcases hnv with rfl|⟨rfl,rfl⟩
 ·exact hn _ _ ⟨_,G',E',hK,hf.a7k hd hv⟩
 exact hn _ _ ⟨_,G',E',hK,hf.a7k hd hv⟩
theorem Jx{f:Nat}(hf:yj P f=true)(args:Array Value):(callFunc f args).run P w= .ok (.enter f args) w:=by
 unfold yj at hf;split at hf
 ·rename_i fn hfn;simp only[cj,bne_iff_ne,ne_eq]at hf;unfold callFunc
  have h2:fn.body≠none:=by intro h;have:=hf.2;rw[h]at this;cases this
  simp[hfn,hf.1,h2]
 cases hf
theorem alj(h:j9 B0 w0 nt G0 s G E a w){o:Oper}{K:PS→Prop}{next:Act→World→Prop}{Q:Exit→Act→World→Prop}(hd:o.dst.all (· <nt)=true){f:Nat}{args:List V}{iy:List D}{own:Bool}{vs cvs:Array Value}
  (re:F9 P f args iy own o.dst s K)(Jm:yj P f=true→(execOp a.eval o).run P w= .ok (.enter f (vs++cvs)) w)(B6:vs.size=args.length)(hcz:cvs.size=iy.length)
  (hv:∀(i:Nat) (x:V) (v:Value),args[i]? =some x→vs[i]? =some v→ij G E s x v)(hcv:∀(i:Nat) (x:D) (v:Value),iy[i]? =some x→cvs[i]? =some v→gj (full w) x v)
  (hcg:own=false→∀(i:Nat) (x:D) (v:Value),iy[i]? =some x→cvs[i]? =some v→gj G x v)(hn:∀a w,L0 B0 nt w0 G0 K a w→next a w):o.wp P a w next Q:=by
 obtain⟨ds,r,hs,hf,hr,hK⟩:=re;unfold aLg;rw[Jm hf.1,aIx];refine(h.aEk B6 hcz hv hcv hcg hs hf hr).mono ?_;rintro e w' ⟨v,G',rfl,hf',hv'⟩;exact hn _ _ ⟨_,G',E,hK,hf'.a7k hd hv'⟩
theorem Ob(h:j9 B0 w0 nt G0 s G E a w){args:Array Operand}{l:List me}(hl:It args.toList=some l):
  (args.map a.eval).size=(l.map (·.ev s)).length∧∀(i:Nat) (x:V) (v:Value),(l.map (·.ev s))[i]? =some x→(args.map a.eval)[i]? =some v→ij G E s x v:=by
 obtain⟨k1,k2⟩:=ak2 hl;refine⟨by simp[k1],fun i x v hx hv=>?_⟩;simp only[cw,ao]at hx;simp only[X9,ao]at hv;obtain⟨y,hy,rfl⟩:=hx;obtain⟨z,hz,rfl⟩:=hv;exact h.ev (k2 i z y (by simpa using hz) hy)
theorem aq1(h:j9 B0 w0 nt G0 s G E a w){x:V}{g:Nat}{iy:List D}(hs:snap s x=some (.nu g iy)){v:Value}(hv:ij G E s x v):
  ∃cvs:Array Value,v= .func (.func g) #[] cvs∧cvs.size=iy.length∧(∀(i:Nat) (x:D) (v:Value),iy[i]? =some x→cvs[i]? =some v→gj (full w) x v)∧
   ((!x.isD)=false→∀(i:Nat) (x:D) (v:Value),iy[i]? =some x→cvs[i]? =some v→gj G x v):=by
 have hf:=h.a3q hs hv
 cases hf with
 | @nu _ _ vs hl hr=>
  refine⟨vs,rfl,hl,hr,fun hx=>?_⟩
  cases x with
  |d z=>
   simp only[snap,aj]at hs;subst hs
   cases hv with
   |nu hl' hr'=>exact hr'
  |_=>cases hx
theorem ap7{im kp cv:Bool}{cm:Nat}{op:Op}{z:List D}(h:cOp P im kp cv cm op=some (.alloc z)):∃t,op= .alloc t∧Fj P t=some z:=by
 unfold cOp at h;split at h
 all_goals(first|(simp only[ao]at h;obtain⟨y,hy,hh⟩:=h;first|(cases hh;exact⟨_,rfl,hy⟩)|cases hh)|skip)
 all_goals(repeat' split at h)
 all_goals(first|unfold a0f at h|unfold S6 at h|skip)
 all_goals(repeat' split at h)
 all_goals(first|cases h|simp[ao]at h)
theorem ap6{im kp cv:Bool}{cm:Nat}{op:Op}{n g:Nat}{xo:me}(h:cOp P im kp cv cm op=some (.store n (.t g) xo)):∃t ad x,op= .store t ad x∧kn P t=some n∧ur ad=some (.t g)∧ur x=some xo:=by
 unfold cOp at h;split at h
 case h_9 t ad x=>
  split at h
  ·rename_i n' a' x' h1 h2 h3;cases h;exact⟨t,ad,x,rfl,h1,h2,h3⟩
  cases h
 all_goals(first|(simp only[ao]at h;obtain⟨y,hy,hh⟩:=h;cases hh)|skip)
 all_goals(repeat' split at h)
 all_goals(first|unfold a0f at h|unfold S6 at h|skip)
 all_goals(repeat' split at h)
 all_goals(first|cases h|simp[ao]at h)
theorem Yv{im kp cv:Bool}{cm:Nat}{op:Op}{f:Nat}{l:List me}{r:jv}(h:cOp P im kp cv cm op=some r)(hr:r= .call f l∨r= .yr f l∨r= .Vw f l∨r= .qb f l):∃args Ej,op= .call ⟨.value (.func f),args,Ej⟩∧It args.toList=some l:=by
 rcases hr with rfl|rfl|rfl|rfl
 all_goals
  unfold cOp at h;split at h
  all_goals(first|(simp only[ao]at h;obtain⟨y,hy,hh⟩:=h;cases hh;done)|skip)
  all_goals(repeat' split at h)
  all_goals(first|unfold a0f at h|unfold S6 at h|skip)
  all_goals(repeat' split at h)
  all_goals(first|(cases h;exact⟨_,_,rfl,by assumption⟩)|cases h|simp[ao]at h)
theorem a0e{im kp cv:Bool}{cm:Nat}{op:Op}{f:me}{l:List me}{r:jv}(h:cOp P im kp cv cm op=some r)(hr:r= .wv f l∨r= .N0 f l∨r= .O9 f l):∃x args Ej,op= .call ⟨.value x,args,Ej⟩∧ur x=some f∧It args.toList=some l:=by
 rcases hr with rfl|rfl|rfl
 all_goals
  unfold cOp at h;split at h
  all_goals(first|(simp only[ao]at h;obtain⟨y,hy,hh⟩:=h;cases hh;done)|skip)
  all_goals(repeat' split at h)
  all_goals(first|unfold a0f at h|unfold S6 at h|skip)
  all_goals(repeat' split at h)
  all_goals(first|(cases h;exact⟨_,_,_,rfl,by assumption,by assumption⟩)|cases h|simp[ao]at h)
theorem au2{im kp cv:Bool}{cm:Nat}{op:Op}{kk:KK}{sz by_:Nat}{x k y:me}{ts:List Nat}(h:cOp P im kp cv cm op=some (.a04 kk sz by_ x k y ts)):False:=by
 unfold cOp at h;split at h
 all_goals(first|(simp only[ao]at h;obtain⟨y,hy,hh⟩:=h;cases hh;done)|skip)
 all_goals(repeat' split at h)
 all_goals(first|unfold a0f at h|unfold S6 at h|skip)
 all_goals(repeat' split at h)
 all_goals(first|cases h|(simp[ao]at h;done)|(simp only[ao]at h;obtain⟨y,hy,hh⟩:=h;first|cases hh|(split at hh<;>cases hh)))
theorem Gc(s:PS)(i av:Nat):zf s s i av:=⟨rfl,rfl,rfl,rfl,rfl,fun _ _ _=>rfl⟩
theorem amo(s:PS)(v:V):Iv s s v:=by
 cases v with
 |agg cs=>intro c _;cases c<;>first|trivial|exact Gc _ _ _
 |Aa cs=>intro c _;cases c<;>first|trivial|exact Gc _ _ _
 |nu f ids=>exact fun p _=>⟨Gc _ _ _,fun cs _ c _=>by cases c<;>first|trivial|exact Gc _ _ _⟩
 |ic i v o=>exact⟨Gc _ _ _,fun cs _ c _=>by cases c<;>first|trivial|exact Gc _ _ _⟩
 |Ka i v l n=>exact⟨Gc _ _ _,fun cs _ c _=>by cases c<;>first|trivial|exact Gc _ _ _⟩
 |d x=>trivial
 |no=>trivial
 |_=>exact Gc _ _ _
theorem a62(h:j9 B0 w0 nt G0 s G E a w){o:Oper}{K:PS→Prop}{next:Act→World→Prop}{Q:Exit→Act→World→Prop}(hd:o.dst.all (· <nt)=true){f:Nat}{args:List V}{m':Mem}{r:V}{vs:Array Value}
  (hE:qz P f s.mem args m' r)(hK:K ((s.j0 m').put o.dst r))(Jm:yj P f=true→(execOp a.eval o).run P w= .ok (.enter f vs) w)(B6:vs.size=args.length)
  (hv:∀(i:Nat) (x:V) (v:Value),args[i]? =some x→vs[i]? =some v→ij G E s x v)(hn:∀a w,L0 B0 nt w0 G0 K a w→next a w):o.wp P a w next Q:=by
 unfold aLg;rw[Jm hE.1,aIx];refine(hE.2 s B0 w0 nt G0 G E a w vs rfl h B6 hv).mono ?_;rintro e w' ⟨v,G',E',rfl,hf',hv'⟩;exact hn _ _ ⟨_,G',E',hK,hf'.a7k hd hv'⟩
theorem a9c(h:j9 B0 w0 nt G0 s G E a w){o:Oper}{K:PS→Prop}{next:Act→World→Prop}{Q:Exit→Act→World→Prop}(hd:o.dst.all (· <nt)=true){f:Nat}{args:List V}{R:Mem→V→Prop}{vs:Array Value}
  (hE:D0 P f s args R)(hK:∀m' r,R m' r→K ((s.j0 m').put o.dst r))(Jm:yj P f=true→(execOp a.eval o).run P w= .ok (.enter f vs) w)(B6:vs.size=args.length)
  (hv:∀(i:Nat) (x:V) (v:Value),args[i]? =some x→vs[i]? =some v→ij G E s x v)(hn:∀a w,L0 B0 nt w0 G0 K a w→next a w):o.wp P a w next Q:=by
 unfold aLg;rw[Jm hE.1,aIx];refine(hE.2 B0 w0 nt G0 G E a w vs h B6 hv).mono ?_;rintro e w' ⟨v,G',E',m',r,rfl,hR,hf',hv'⟩;exact hn _ _ ⟨_,G',E',hK m' r hR,hf'.a7k hd hv'⟩
theorem Td(h:j9 B0 w0 nt G0 s G E a w){an:Ann}{ops:Array Oper}{o:Oper}{ri:RI}(hf:Fits P nt an ops o ri){K:PS→Prop}{next:Act→World→Prop}{Q:Exit→Act→World→Prop}
  (re:Gk P ri s K)(hn:∀a w,L0 B0 nt w0 G0 K a w→next a w):o.wp P a w next Q:=by
 obtain⟨ac0,hd,_,_⟩:=hf.spec;obtain⟨r0,hc,hri⟩:=hf;obtain⟨hop,_,_,_,_⟩:=X4 hc
 have og:(match ri.op.og (s.base+ri.dst.getD 0) s with|some (ids,e)=>K (e.app ri.dst (s.ta ids))|none=>False)→o.wp P a w next Q:=by
  intro hh;split at hh
  ·rename_i ids e he;rw[ac0]at he hh;rcases hri with rfl|⟨z,hz,rfl⟩|⟨n,g,x,hz,hdn,rfl⟩
   ·exact(ath h hop he).wp hd hh hn
   ·rw[hz]at hop;obtain⟨t,ho,ht⟩:=ap7 hop;refine qt.wp hd (s':=lk.app o.dst (s.ta ids) e) ?_ hh hn;unfold execOp;rw[ho];exact ag7 h ht he
   rw[hz]at hop;obtain⟨t,ad,x',ho,hs,had,hx⟩:=ap6 hop;refine qt.wp hd (s':=lk.app o.dst (s.ta ids) e) ?_ hh hn;unfold execOp;rw[ho]
   have e1:a.eval ad=a.tmps.getD g undef:=by
    cases ad with
    |tmp t=>simp only[ur,aj,me.t.injEq]at had;subst had;rfl
    |const v=>simp[ur]at had
    |func f=>simp[ur]at had
    |global g=>cases had
   dsimp only
   rw[e1];have aGq:o.dst=none:=ac0.symm.trans hdn;rw[aGq]at he⊢;exact aou h hs (h.ev hx) he
  exact hh.elim
 unfold Gk at re
 have opc:∀(q:jv),(∀n,q≠ .ze n)→(∀g n x,q≠ .init g n x)→ri.op=q→r0.op=q:=by
  intro q h1 h2 hq;rcases hri with rfl|⟨z,_,rfl⟩|⟨n,g,x,_,_,rfl⟩
  ·exact hq
  ·exact absurd hq.symm (h1 _)
  exact absurd hq.symm (h2 _ _ _)
 have go:∀{f:Nat} {asL:Array Operand} {Ej:Array TypeId},o.op= .call ⟨.value (.func f),asL,Ej⟩→yj P f=true→(execOp a.eval o).run P w= .ok (.enter f (asL.map a.eval)) w:=by
  intro f asL Ej ho hcb;unfold execOp;rw[ho];simp only[cb,resolve,Act.eval,azu,eh,bh,invoke];rw[Jx hcb];simp
 split at re
 ·rename_i hg;have Wo:=opc _ (by simp) (by simp) hg;rw[Wo]at hop;exact(au2 hop).elim
 ·rename_i f args Dw;have Wo:=opc _ (by simp) (by simp) Dw;obtain⟨asL,Ej,ho,hl⟩:=Yv hop (.inr (.inr (.inr Wo)));obtain⟨k1,k2⟩:=Ob h hl;rw[ac0]at re;obtain⟨R,hE,hK⟩:=re;exact a9c h hd hE hK (go ho) k1 k2 hn
 ·rename_i f args Dw;have Wo:=opc _ (by simp) (by simp) Dw;obtain⟨fx,asL,Ej,ho,hfx,hl⟩:=a0e hop (.inr (.inr Wo));obtain⟨k1,k2⟩:=Ob h hl;split at re
  ·rename_i g iy hev;rw[ac0]at re;obtain⟨R,hE,hK⟩:=re;have hfv:=h.ev hfx;rw[hev]at hfv;have hfv:gj G (.nu g iy) (a.eval fx):=hfv;generalize hfe:a.eval fx=fv at hfv
   cases hfv with
   | @nu _ _ cvs hcl hcr=>
    refine a9c h hd hE hK (vs:=asL.map a.eval++cvs) (fun hcb=>?_) (by simp at k1⊢;omega) (fun i x v hx hv=>?_) hn
    ·unfold execOp;rw[ho];simp only[cb,resolve,hfe,azu,eh,bh,invoke];rw[Jx hcb];simp
    by_cases hi:i<(args.map (·.ev s)).length
    ·rw[l8 hi]at hx;rw[o7 (by omega)]at hv;exact k2 i x v hx hv
    rw[mb (by omega)]at hx;rw[a3j (by omega)]at hv;rw[k1]at hv;simp only[cw,ao]at hx;obtain⟨y,hy,rfl⟩:=hx;exact hcr _ y v hy hv
  exact re.elim
 ·rename_i f args Dw;have Wo:=opc _ (by simp) (by simp) Dw;obtain⟨asL,Ej,ho,hl⟩:=Yv hop (.inr (.inl Wo));obtain⟨k1,k2⟩:=Ob h hl;rw[ac0]at re;obtain⟨m',r,hE,hK⟩:=re;exact a62 h hd hE hK (go ho) k1 k2 hn
 ·rename_i f args Dw;have Wo:=opc _ (by simp) (by simp) Dw;obtain⟨asL,Ej,ho,hl⟩:=Yv hop (.inr (.inr (.inl Wo)));obtain⟨k1,k2⟩:=Ob h hl;rw[ac0]at re;obtain⟨r,hF,hK⟩:=re;exact a62 h hd (hF s fun x _=>amo s x) hK (go ho) k1 k2 hn
 ·rename_i f args Dw;have Wo:=opc _ (by simp) (by simp) Dw;obtain⟨fx,asL,Ej,ho,hfx,hl⟩:=a0e hop (.inr (.inl Wo));obtain⟨k1,k2⟩:=Ob h hl;split at re
  ·rename_i g iy hev;rw[ac0]at re;obtain⟨m',r,hE,hK⟩:=re;have hfv:=h.ev hfx;rw[hev]at hfv;have hfv:gj G (.nu g iy) (a.eval fx):=hfv;generalize hfe:a.eval fx=fv at hfv
   cases hfv with
   | @nu _ _ cvs hcl hcr=>
    refine a62 h hd hE hK (vs:=asL.map a.eval++cvs) (fun hcb=>?_) (by simp at k1⊢;omega) (fun i x v hx hv=>?_) hn
    ·unfold execOp;rw[ho];simp only[cb,resolve,hfe,azu,eh,bh,invoke];rw[Jx hcb];simp
    by_cases hi:i<(args.map (·.ev s)).length
    ·rw[l8 hi]at hx;rw[o7 (by omega)]at hv;exact k2 i x v hx hv
    rw[mb (by omega)]at hx;rw[a3j (by omega)]at hv;rw[k1]at hv;simp only[cw,ao]at hx;obtain⟨y,hy,rfl⟩:=hx;exact hcr _ y v hy hv
  exact re.elim
 ·rename_i f args Dw;have Wo:=opc _ (by simp) (by simp) Dw;obtain⟨asL,Ej,ho,hl⟩:=Yv hop (.inl Wo);obtain⟨k1,k2⟩:=Ob h hl;rw[ac0]at re;exact alj h hd (vs:=asL.map a.eval) (cvs:= #[]) re (fun hcb=>by rw[go ho hcb];simp) k1 rfl k2 (fun i x v hx _=>by simp at hx) (fun _ i x v hx _=>by simp at hx) hn
 ·rename_i f args Dw;have Wo:=opc _ (by simp) (by simp) Dw;obtain⟨fx,asL,Ej,ho,hfx,hl⟩:=a0e hop (.inl Wo);obtain⟨k1,k2⟩:=Ob h hl;split at re
  ·rename_i g iy hsn;rw[ac0]at re;obtain⟨cvs,e1,hcz,hcv,hcg⟩:=aq1 h hsn (h.ev hfx);refine alj h hd (vs:=asL.map a.eval) (cvs:=cvs) re (fun hcb=>?_) k1 hcz k2 hcv hcg hn;unfold execOp;rw[ho];simp only[cb,resolve,e1,azu,eh,bh,invoke];rw[Jx hcb];simp
  exact re.elim
 exact og re
end
section
variable{P:Program}{s s':PS}
theorem Yy{α:Type}{l:List α}{p q:α→Bool}(h:∀x∈l,p x=q x):l.all p=l.all q:=by
 induction l with
 |nil=>rfl
 |cons x r ih=>simp only[Vi,h x (by simp),ih fun y hy=>h y (by simp[hy])]
theorem Ur{v:V}(h:Iv s s' v):v.live s'=v.live s:=by
 cases v with
 |ref i v l=>simp only[V.live,h.Iw]
 |kj i v=>simp only[V.live,h.ents]
 |ic i v o=>simp only[V.live,h.1.cs]
 |Hf i v l j o=>simp only[V.live,h.Iw]
 |nu f ids=>
  simp only[V.live]
  exact Yy fun p hp=>by rw[(h p hp).1.cs]
 |Ka i v l n=>simp only[V.live,h.1.cs]
 |Hg i v m j=>simp only[V.live,h.Iw]
 |win i v m o l=>simp only[V.live,h.Iw]
 |_=>rfl
theorem ael{c:C}(h:Hj s s' c):c.one s'=c.one s:=by
 cases c with
 |d x=>rfl
 |ref i v l=>exact Ur (v:= .ref i v l) h
 |kj i v=>exact Ur (v:= .kj i v) h
 |ptr i v o=>simp only[C.one,V.live,h.cs]
theorem O7{v:V}(h:Iv s s' v):v.cells s'=v.cells s:=by
 cases v with
 |ref i v l=>simp only[V.cells,h.Iw]
 |kj i v=>simp only[V.cells,h.ents]
 |ic i v o=>simp only[V.cells,h.1.cs]
 |d x=>cases x<;>rfl
 |_=>rfl
theorem X3{v:V}(h:Iv s s' v){cs:List C}(hc:v.cells s=some cs):∀c∈cs,Hj s s' c:=by
 cases v with
 |d x=>cases x<;>simp[V.cells]at hc<;>(try subst hc)<;>intro c hcm<;>simp at hcm<;>(first|subst hcm|(obtain⟨y,_,rfl⟩:=hcm))<;>trivial
 |ref i v l=>
  simp only[V.cells]at hc;split at hc
  ·split at hc
   ·injection hc with hc;subst hc;intro c hcm;simp at hcm;subst hcm;exact h
   cases hc
  cases hc
 |kj i v=>
  simp only[V.cells]at hc;split at hc
  ·injection hc with hc;subst hc;intro c hcm;simp at hcm;subst hcm;exact h
  cases hc
 |ic i v o=>
  simp only[V.cells]at hc;split at hc
  ·injection hc with hc;subst hc;intro c hcm;simp at hcm;subst hcm;exact h.1
  cases hc
 |agg cs'=>simp only[V.cells,aj]at hc;subst hc;exact h
 |_=>cases hc
theorem ag9{v:V}(h:Iv s s' v)(n:Nat)(g:Bool):Br s' n g v=Br s n g v:=by
 cases v with
 |ic i v o=>simp only[Br,h.1.cs]
 |Hf i v l j o=>simp only[Br,h.dd,h.elc]
 |d x=>cases x<;>rfl
 |_=>rfl
theorem acf{v:V}(h:Iv s s' v){xs:List C}(hx:∀c∈xs,Hj s s' c)(n:Nat):ye s' n xs v=ye s n xs v:=by
 have e:xs.all (C.one s')=xs.all (C.one s):=Yy fun c hc=>ael (hx c hc)
 cases v with
 |ic i v o=>simp only[ye,h.1.cs,e]
 |Hf i v l j o=>simp only[ye,G7,h.dd,h.elc,e]
 |_=>rfl
theorem a68{v:V}(h:Iv s s' v)(off:Nat):R3 s' off v=R3 s off v:=by
 cases v with
 |ic i v o=>simp only[R3,h.1.cs]
 |Hf i v l j o=>simp only[R3,h.Iw]
 |d x=>cases x<;>rfl
 |_=>rfl
theorem aga{v:V}(h:Iv s s' v)(n:Nat)(i:Int):Jv s' n i v=Jv s n i v:=by
 cases v with
 |ref i v l=>simp only[Jv,h.Iw]
 |Ka i v l n=>simp only[Jv,h.1.cs]
 |d x=>cases x<;>rfl
 |_=>rfl
theorem ajj{v:V}(h:Iv s s' v)(k:TK):O6 s' k v=O6 s k v:=by
 cases v with
 |ref i v l=>cases k<;>simp only[O6,h.Iw]
 |kj i v=>cases k<;>simp only[O6,h.ents]
 |Ka i v l n=>cases k<;>simp only[O6,h.1.cs]
 |win i v m o l=>cases k<;>simp only[O6,h.Iw]
 |d x=>cases k<;>cases x<;>rfl
 |_=>cases k<;>rfl
theorem a4w{v:V}(h:Iv s s' v)(k:TK):isNil s' k v=isNil s k v:=by
 have e:=Ur h
 cases v with
 |d x=>cases k<;>cases x with
  |ft n l=>cases l<;>rfl
  |_=>rfl
 |ref i v l=>cases k<;>simp only[isNil,e]
 |kj i v=>cases k<;>simp only[isNil,e]
 |ic i v o=>cases k<;>simp only[isNil,e]
 |Hf i v l j o=>cases k<;>simp only[isNil,e]
 |nu f ids=>cases k<;>simp only[isNil,e]
 |agg cs=>cases k<;>rfl
 |Aa cs=>cases k<;>rfl
 |Ka _ _ _ _=>cases k<;>rfl
 |Hg _ _ _ _=>cases k<;>rfl
 |win _ _ _ _ _=>cases k<;>rfl
 |no=>cases k<;>rfl
theorem anj{c:C}(h:Hj s s' c):Pv s' c=Pv s c:=by
 cases c with
 |d x=>rfl
 |ref i v l=>simp only[Pv,h.dd]
 |kj i v=>simp only[Pv,h.ents]
 |ptr i v o=>rfl
theorem ahx:∀{cs:List C},(∀c∈cs,Hj s s' c)→Ot s' cs=Ot s cs:=by
 intro cs
 induction cs with
 |nil=>intro _;rfl
 |cons c r ih=>intro h;simp only[Ot,anj (h c (by simp)),ih fun c' hc=>h c' (by simp[hc])]
theorem ajk{v:V}(h:Iv s s' v):qm s' v=qm s v:=by
 cases v with
 |ref i v l=>simp only[qm,h.dd]
 |win i v m o l=>simp only[qm,h.dd]
 |d x=>cases x<;>rfl
 |_=>rfl
theorem atc{v:V}(h:Iv s s' v):v.ent s'=v.ent s:=by
 have e:=Ur h
 cases v with
 |d x=>rfl
 |ref i v l=>simp only[V.ent,e]
 |kj i v=>simp only[V.ent,e]
 |ic i v o=>simp only[V.ent,e]
 |_=>rfl
theorem ajl{v:V}(h:Iv s s' v)(n a:Nat):Se s' n a v=Se s n a v:=by
 cases v with
 |ref i v l=>
  simp only[Se,h.dd]
  cases he:s.dd i v with
  |none=>rfl
  |some p=>
   have hp':s'.dd i v=some p:=by rw[h.dd];exact he
   have e:s'.av i=s.av i:=(xm (s:=s') (sz:=p.1) (dd:=p.2) hp').1.trans (xm (s:=s) (sz:=p.1) (dd:=p.2) he).1.symm;simp only[e]
 |d x=>cases x<;>rfl
 |_=>rfl
theorem aji{v:V}(h:Iv s s' v):Cj s' v=Cj s v:=by
 cases v with
 |kj i v=>simp only[Cj,h.ents]
 |d x=>cases x<;>rfl
 |_=>rfl
theorem ah9{c:C}(h:Hj s s' c):rb s' c=rb s c:=by
 cases c with
 |d x=>rfl
 |ref i v l=>simp only[rb,h.dd,h.dp 6 _ (.inl ⟨l,rfl⟩)]
 |kj i v=>simp only[rb,h.dp 6 _ (.inr rfl)]
 |ptr i v o=>rfl
theorem Im:∀{cs:List C},(∀c∈cs,Hj s s' c)→nj s' cs=nj s cs:=by
 intro cs
 induction cs with
 |nil=>intro _;rfl
 |cons c r ih=>intro h;simp only[nj,ah9 (h c (by simp)),ih fun c' hc=>h c' (by simp[hc])]
theorem a8y{v:V}(h:Iv s s' v):snap s' v=snap s v:=by
 cases v with
 |ref i v l=>simp only[snap,h.dd,h.dp 6 _ (.inl ⟨l,rfl⟩)]
 |kj i v=>simp only[snap,h.dp 6 _ (.inr rfl)]
 |Ka i v l n=>
  simp only[snap,h.1.cs]
  cases hc:s.cs i v with
  |none=>rfl
  |some cs=>simp only[Im (h.2 cs hc)]
 |ic i v o=>
  simp only[snap,h.1.cs]
  cases hc:s.cs i v with
  |none=>rfl
  |some cs=>simp only[Im (h.2 cs hc)]
 |nu f ids=>
  match ids,h with
  |[],h=>rfl
  |[p],h=>
   obtain⟨i,v⟩:=p;have h1:=h (i,v) (by simp);simp only[snap,h1.1.cs]
   cases hc:s.cs i v with
   |none=>rfl
   |some cs=>simp only[Im (h1.2 cs hc)]
  |[p,q],h=>
   obtain⟨i,v⟩:=p;obtain⟨j,u⟩:=q;have h1:=h (i,v) (by simp);have h2:=h (j,u) (by simp);simp only[snap,h1.1.cs,h2.1.cs]
   cases hc:s.cs i v with
   |none=>rfl
   |some cs=>
    cases hc':s.cs j u with
    |none=>rfl
    |some cs'=>simp only[Im (h1.2 cs hc),Im (h2.2 cs' hc')]
  |p::q::r::l,h=>rfl
 |agg cs=>simp only[snap,Im h]
 |_=>rfl
def Z0(s s':PS)(x:me):Prop:=x.ev s'=x.ev s∧Iv s s' (x.ev s)
theorem a0t:∀{ps:List (Nat×Nat×me)},(∀p∈ps,Z0 s s' p.2.2)→Jk s' ps=Jk s ps:=by
 intro ps
 induction ps with
 |nil=>intro _;rfl
 |cons p r ih=>
  obtain⟨o,n,x⟩:=p;intro h;obtain⟨h1,h2⟩:=h (o,n,x) (by simp);simp only at h1 h2;simp only[Jk,h1,O7 h2,ih fun p hp=>h p (by simp[hp])]
theorem aef:∀{ps:List (Nat×Nat×me)},(∀p∈ps,Z0 s s' p.2.2)→Nz s' ps=Nz s ps:=by
 intro ps
 induction ps with
 |nil=>intro _;rfl
 |cons p r ih=>
  obtain⟨o,n,x⟩:=p;intro h;obtain⟨h1,h2⟩:=h (o,n,x) (by simp);simp only at h1 h2;simp only[Nz,h1,O7 h2,ih fun p hp=>h p (by simp[hp])]
  cases hc:(x.ev s).cells s with
  |none=>rfl
  |some cs=>
   cases hq:Nz s r with
   |none=>rfl
   |some q=>simp only[ahx (X3 h2 hc)]
theorem a9i{x:Option me}(h:∀o∈x.toList,Z0 s s' o):V7 s' x=V7 s x:=by
 cases x with
 |none=>rfl
 |some o=>simp only[V7,(h o (by simp)).1]
theorem Zj{x:Option me}(h:∀o∈x.toList,Z0 s s' o)(n:Nat):Qp s' n x=Qp s n x:=by
 cases x with
 |none=>rfl
 |some o=>simp only[Qp,(h o (by simp)).1]
theorem ah8:∀{l:List me},(∀x∈l,Z0 s s' x)→J0 s' (l.map (·.ev s'))=J0 s (l.map (·.ev s)):=by
 intro l
 induction l with
 |nil=>intro _;rfl
 |cons x r ih=>
  intro h;obtain⟨h1,h2⟩:=h x (by simp);simp only[gf,J0,h1,a8y h2,ih fun p hp=>h p (by simp[hp])]
theorem aic(h:s'.mem=s.mem)(d sz b:Nat)(x y:V):Q5 s' d sz b x y=Q5 s d sz b x y:=by
 cases s;cases s';simp only[PS.mem,Mem.mk.injEq]at h;obtain⟨rfl,rfl,rfl⟩:=h;rfl
theorem ax9(h:s'.mem=s.mem)(n:Nat)(x y:V):xn s' n x y=xn s n x y:=by
 cases s;cases s';simp only[PS.mem,Mem.mk.injEq]at h;obtain⟨rfl,rfl,rfl⟩:=h;rfl
theorem ax8(h:s'.mem=s.mem)(c:C):c.one s'=c.one s:=by
 cases s;cases s';simp only[PS.mem,Mem.mk.injEq]at h;obtain⟨rfl,rfl,rfl⟩:=h;rfl
theorem as4(h:s'.mem=s.mem)(i v:Nat):s'.ents i v=s.ents i v:=by
 cases s;cases s';simp only[PS.mem,Mem.mk.injEq]at h;obtain⟨rfl,rfl,rfl⟩:=h;rfl
theorem Uq(h:s'.mem=s.mem)(i v:Nat):s'.dd i v=s.dd i v∧s'.av=s.av:=by
 cases s;cases s';simp only[PS.mem,Mem.mk.injEq]at h;obtain⟨rfl,rfl,rfl⟩:=h;exact⟨rfl,rfl⟩
theorem ati{d:Nat}{r:jv}(hme:r.kind= .write→s'.mem=s.mem)(ho:∀x∈r.qn,Z0 s s' x)(hbs:s'.base=s.base)(hv:s'.av d=s.av d)(hi:∀g n x,r= .init g n x→s'.da (s.base+g)=s.da (s.base+g)∧s'.av (s.base+g)=s.av (s.base+g)):r.og d s'=r.og d s:=by
 cases r with
 |j7 x=>simp only[jv.og,(ho x (by simp[jv.qn])).1]
 |pick c a b=>simp only[jv.og,(ho c (by simp[jv.qn])).1,(ho a (by simp[jv.qn])).1,(ho b (by simp[jv.qn])).1]
 |alloc z=>simp only[jv.og,hv]
 |box n x=>obtain⟨h1,h2⟩:=ho x (by simp[jv.qn]);simp only[jv.og,h1,O7 h2,hv]
 |load n g x=>obtain⟨h1,h2⟩:=ho x (by simp[jv.qn]);simp only[jv.og,h1,ag9 h2]
 |store n a x=>
  obtain⟨h1,h2⟩:=ho x (by simp[jv.qn]);obtain⟨h3,h4⟩:=ho a (by simp[jv.qn]);simp only[jv.og,h1,h3,O7 h2]
  cases hc:(x.ev s).cells s with
  |none=>exact ax9 (hme rfl) _ _ _
  |some cs=>simp only[acf h4 (X3 h2 hc)]
 |Y4 x=>obtain⟨h1,h2⟩:=ho x (by simp[jv.qn]);simp only[jv.og,h1,a4w h2]
 |Fg o x=>obtain⟨h1,h2⟩:=ho x (by simp[jv.qn]);simp only[jv.og,h1,a68 h2]
 |ux l n x i=>obtain⟨h1,h2⟩:=ho x (by simp[jv.qn]);simp only[jv.og,h1,a68 h2,(ho i (by simp[jv.qn])).1]
 |sq n x i=>obtain⟨h1,h2⟩:=ho x (by simp[jv.qn]);simp only[jv.og,h1,aga h2,(ho i (by simp[jv.qn])).1]
 |Zr x i=>simp only[jv.og,(ho x (by simp[jv.qn])).1,(ho i (by simp[jv.qn])).1]
 |a2q o n g x=>simp only[jv.og,(ho x (by simp[jv.qn])).1]
 |len k x=>obtain⟨h1,h2⟩:=ho x (by simp[jv.qn]);simp only[jv.og,h1,ajj h2]
 |bin op x y=>simp only[jv.og,(ho x (by simp[jv.qn])).1,(ho y (by simp[jv.qn])).1]
 |eqs ks n x y=>simp only[jv.og,(ho x (by simp[jv.qn])).1,(ho y (by simp[jv.qn])).1]
 |Jl k n x=>obtain⟨h1,h2⟩:=ho x (by simp[jv.qn]);simp only[jv.og,h1,a4w h2]
 |beq n x y=>simp only[jv.og,(ho x (by simp[jv.qn])).1,(ho y (by simp[jv.qn])).1]
 |un op x=>simp only[jv.og,(ho x (by simp[jv.qn])).1]
 |conv k x=>simp only[jv.og,(ho x (by simp[jv.qn])).1]
 |a19 x=>simp only[jv.og,(ho x (by simp[jv.qn])).1]
 |build z ps=>simp only[jv.og,a0t fun p hp=>ho p.2.2 (by simp only[jv.qn,iw];exact⟨p,hp,rfl⟩)]
 |yk im n sz z ps=>simp only[jv.og,hv,aef fun p hp=>ho p.2.2 (by simp only[jv.qn,iw];exact⟨p,hp,rfl⟩)]
 |app sz b x y=>
  obtain⟨h1,h2⟩:=ho x (by simp[jv.qn]);obtain⟨h3,h4⟩:=ho y (by simp[jv.qn]);simp only[jv.og,h1,h3,ajk h4,hv,aic (hme rfl)];generalize x.ev s=vx at h2⊢
  cases vx with
  |ref i v l=>simp only[h2.dd]
  |win i v m o l=>simp only[h2.dd]
  |d z=>cases z<;>rfl
  |_=>rfl
 |a09 n sz z ps=>
  have e:∀cs:List C,cs.all (C.one s')=cs.all (C.one s):=fun cs=>Yy fun c _=>ax8 (hme rfl) c;simp only[jv.og,hv,e,a0t fun p hp=>ho p.2.2 (by simp only[jv.qn,iw];exact⟨p,hp,rfl⟩)]
 |a04 kk sz b x k y ts=>rfl
 |bad=>rfl
 |a2t sz b z x y=>simp only[jv.og,(ho x (by simp[jv.qn])).1,(ho y (by simp[jv.qn])).1,hv]
 |acn x=>simp only[jv.og,(ho x (by simp[jv.qn])).1]
 |acw l n x=>
  obtain⟨h1,h2⟩:=ho x (by simp[jv.qn]);simp only[jv.og,h1];generalize x.ev s=vx at h2⊢
  cases vx with
  |ic i v o=>cases o<;>first|rfl|simp only[h2.1.cs]
  |_=>rfl
 |Hg n x j k=>
  obtain⟨h1,h2⟩:=ho x (by simp[jv.qn]);simp only[jv.og,h1,(ho j (by simp[jv.qn])).1,(ho k (by simp[jv.qn])).1];generalize x.ev s=vx at h2⊢;generalize j.ev s=vj;generalize k.ev s=vk
  cases vx with
  |ref i v l=>cases vj with
   |d zj=>cases zj with
    |int _ _=>cases vk with
     |d zk=>cases zk with
      |int _ _=>simp only[h2.Iw]
      |_=>rfl
     |_=>rfl
    |_=>rfl
   |_=>rfl
  |_=>rfl
 |No n x j=>
  obtain⟨h1,h2⟩:=ho x (by simp[jv.qn]);simp only[jv.og,h1,(ho j (by simp[jv.qn])).1,(Uq (hme rfl) 0 0).2,fun i v=>(Uq (hme rfl) i v).1]
 |Qb n x lo up mx=>
  obtain⟨h1,h2⟩:=ho x (by simp[jv.qn]);have e1:V7 s' lo=V7 s lo:=a9i fun o h=>ho o (by simp only[jv.qn,dq,jm];exact .inr (.inl (.inl h)));have e2:∀n,Qp s' n up=Qp s n up:=Zj fun o h=>ho o (by simp only[jv.qn,dq,jm];exact .inr (.inl (.inr h)));have e3:∀n,Qp s' n mx=Qp s n mx:=Zj fun o h=>ho o (by simp only[jv.qn,dq,jm];exact .inr (.inr h));simp only[jv.og,h1];generalize x.ev s=vx at h2⊢
  cases vx with
  |ref i v l=>simp only[h2.Iw,a63,e1,e2,e3]
  |win i v m o l=>simp only[h2.Iw,a63,e1,e2,e3]
  |_=>rfl
 |trim x=>
  obtain⟨h1,h2⟩:=ho x (by simp[jv.qn]);simp only[jv.og,h1,(Uq (hme rfl) 0 0).2,fun i v=>(Uq (hme rfl) i v).1]
 |clr z x=>
  obtain⟨h1,h2⟩:=ho x (by simp[jv.qn]);simp only[jv.og,h1,(Uq (hme rfl) 0 0).2,fun i v=>(Uq (hme rfl) i v).1]
 |slice n x lo up=>
  obtain⟨h1,h2⟩:=ho x (by simp[jv.qn]);have e1:V7 s' lo=V7 s lo:=a9i fun o h=>ho o (by simp only[jv.qn,dq,jm];exact .inr (.inl h));have e2:∀n,Qp s' n up=Qp s n up:=Zj fun o h=>ho o (by simp only[jv.qn,dq,jm];exact .inr (.inr h));simp only[jv.og,h1,e1,e2]
 |H9=>simp only[jv.og,hv]
 |lookup kk z x i ok=>obtain⟨h1,h2⟩:=ho x (by simp[jv.qn]);simp only[jv.og,h1,aji h2,(ho i (by simp[jv.qn])).1]
 |Wd kk x k v=>
  obtain⟨h1,h2⟩:=ho x (by simp[jv.qn]);obtain⟨h3,h4⟩:=ho v (by simp[jv.qn]);simp only[jv.og,h1,(ho k (by simp[jv.qn])).1,h3,atc h4,as4 (hme rfl)]
 |Lr f iy=>
  match iy,ho with
  |[],ho=>rfl
  |[.t a],ho=>have h1:s'.tmp a=s.tmp a:=(ho (.t a) (by simp[jv.qn])).1;simp only[jv.og,h1]
  |[.t a,.t b],ho=>
   have h1:s'.tmp a=s.tmp a:=(ho (.t a) (by simp[jv.qn])).1;have h2:s'.tmp b=s.tmp b:=(ho (.t b) (by simp[jv.qn])).1;simp only[jv.og,h1,h2]
  |[.c x],ho=>rfl
  |[.c x,y],ho=>rfl
  |[.t a,.c y],ho=>rfl
  |x::y::z::l,ho=>cases x<;>cases y<;>rfl
 |ext x i=>simp only[jv.og,(ho x (by simp[jv.qn])).1]
 |Ee m x y=>simp only[jv.og,(ho x (by simp[jv.qn])).1,(ho y (by simp[jv.qn])).1]
 |call f args=>rfl
 |wv f args=>rfl
 |yr f args=>rfl
 |Vw f args=>rfl
 |N0 f args=>rfl
 |qb f args=>rfl
 |O9 f args=>rfl
 |a4z l n g x i=>simp only[jv.og,(ho x (by simp[jv.qn])).1,(ho i (by simp[jv.qn])).1]
 |slice3 n x j k=>
  obtain⟨h1,h2⟩:=ho x (by simp[jv.qn]);simp only[jv.og,h1,(ho j (by simp[jv.qn])).1,(ho k (by simp[jv.qn])).1,ajl h2]
 |ze n=>simp only[jv.og,hv]
 |init g n x=>
  obtain⟨h1,h2⟩:=ho x (by simp[jv.qn]);have h3:s'.tmp g=s.tmp g:=(ho (.t g) (by simp[jv.qn])).1;obtain⟨h4,h5⟩:=hi g n x rfl;have e:∀cs,(x.ev s).cells s=some cs→cs.all (C.one s')=cs.all (C.one s):=fun cs hc=>Yy fun c hcm=>ael (X3 h2 hc c hcm);simp only[jv.og,h1,h3,hbs,h4,h5,O7 h2];generalize(x.ev s).cells s=q at e⊢
  cases s.tmp g with
  |ic id av off=>
   cases off with
   |zero=>
    cases s.da (s.base+g)with
    |none=>rfl
    |some b=>
     cases b with
     |Ro m=>
      cases q with
      |none=>rfl
      |some cs=>simp only[e cs rfl]
     |_=>rfl
   |succ _=>rfl
  |_=>rfl
end
section
variable{P:Program}{s s':PS}
def lk.tw(d:Option Nat):lk→Option (Nat×V)
 | .val v=>d.map (·,v)
 | .new v _ _=>d.map (·,v)
 | .set _ _=>d.map (·,.no)
 | .grow v _ _=>d.map (·,v)
 | .a1u v _=>d.map (·,v)
 | .Za _ _=>d.map (·,.no)
 | .init v t _ _=>some (t,v)
 | .cut v _ _=>d.map (·,v)
 | .Ij .. =>d.map (·,.no)
 | .mem _ v=>d.map (·,v)
def lk.bw:lk→Option (Nat×Option B)
 | .new _ id b=>some (id,some b)
 | .set id b=>some (id,some b)
 | .grow _ id b=>some (id,some b)
 | .init _ _ id cs=>some (id,some (.loc cs))
 | .cut _ id b=>some (id,some b)
 |_=>none
def lk.vw:lk→Option Nat
 | .new _ id _=>some id
 | .a1u _ id=>some id
 | .init _ _ id _=>some id
 | .cut _ id _=>some id
 |_=>none
def lk.isM:lk→Bool
 | .mem .. =>true
 | .Ij .. =>true
 |_=>false
def lk.mw:lk→Option (Nat×Option (List (D×C)))
 | .a1u _ id=>some (id,some [])
 | .Za id es=>some (id,some es)
 |_=>none
def mod{α:Type}(f:Nat→α):Option (Nat×α)→Nat→α
 |none=>f
 |some (i,a)=>lb f i a
def inc(f:Nat→Nat):Option Nat→Nat→Nat
 |none=>f
 |some i=>lb f i (f i+1)
theorem Ud(d:Option Nat)(s:PS)(e:lk)(hm:e.isM=false):e.app d s=⟨mod s.tmp (e.tw d),mod s.da e.bw,inc s.av e.vw,mod s.mp e.mw,s.base,s.ctx⟩:=by
 cases e<;>cases d<;>first|rfl|cases hm
theorem ayp(d:Option Nat)(s:PS)(e:lk):(e.app d s).tmp=mod s.tmp (e.tw d):=by
 cases e<;>cases d<;>rfl
theorem R8(d:Option Nat)(s:PS)(e:lk):(e.app d s).base=s.base:=by
 cases e<;>cases d<;>rfl
theorem Yx(d:Option Nat)(s:PS)(e:lk):(e.app d s).ctx=s.ctx:=by
 cases e<;>cases d<;>rfl
theorem Fu(ids:List Nat):∀(s:PS),(s.ta ids).base=s.base∧(s.ta ids).ctx=s.ctx:=by
 induction ids with
 |nil=>intro s;exact⟨rfl,rfl⟩
 |cons i r ih=>intro s;rw[PS.Ln];exact ih _
theorem a4l{α:Type}(f:Nat→α){x y:Option (Nat×α)}(h:∀i a j b,x=some (i,a)→y=some (j,b)→i≠j):mod (mod f x) y=mod (mod f y) x:=by
 cases x with
 |none=>rfl
 |some p=>
  cases y with
  |none=>rfl
  |some q=>
   obtain⟨i,a⟩:=p;obtain⟨j,b⟩:=q;have Io:=h i a j b rfl rfl
   funext k
   simp only[mod,ak]
   split<;>split<;>first|rfl|(subst_vars;exact absurd rfl Io)
theorem asd(f:Nat→Nat){x y:Option Nat}(h:∀i j,x=some i→y=some j→i≠j):inc (inc f x) y=inc (inc f y) x:=by
 cases x with
 |none=>rfl
 |some i=>
  cases y with
  |none=>rfl
  |some j=>
   have Io:=h i j rfl rfl
   funext k
   simp only[inc,ak]
   split<;>split<;>subst_vars<;>first|rfl|exact absurd rfl Io|simp_all
theorem agn{d1 d2:Option Nat}{e1 e2:lk}(ht:∀i a j b,e1.tw d1=some (i,a)→e2.tw d2=some (j,b)→i≠j)(hb:∀i a j b,e1.bw=some (i,a)→e2.bw=some (j,b)→i≠j)
  (hv:∀i j,e1.vw=some i→e2.vw=some j→i≠j)(hm:∀i a j b,e1.mw=some (i,a)→e2.mw=some (j,b)→i≠j)(m1:e1.isM=false)(m2:e2.isM=false):e2.app d2 (e1.app d1 s)=e1.app d1 (e2.app d2 s):=by
 rw[Ud _ _ _ m1,Ud _ _ _ m2,Ud _ _ _ m2,Ud _ _ _ m1];simp only[a4l s.tmp ht,a4l s.da hb,asd s.av hv,a4l s.mp hm]
theorem awj(ids:List Nat):∀(s:PS) (d:Option Nat) (v:V),(s.put d v).ta ids=(s.ta ids).put d v:=by
 induction ids with
 |nil=>intro s d v;rfl
 |cons i r ih=>intro s d v;rw[PS.Ln,PS.Ln,←ih];rfl
theorem a34(ids:List Nat):∀(s:PS),(s.ta ids).tmp=s.tmp:=by
 induction ids with
 |nil=>intro s;rfl
 |cons i r ih=>intro s;rw[PS.Ln,ih];rfl
theorem ard(ids:List Nat):∀(s:PS) (i:Nat),(i∈ids∨(s.da i=none∧s.mp i=none))→(s.ta ids).da i=none∧(s.ta ids).mp i=none:=by
 induction ids with
 |nil=>
  intro s i h;rcases h with h|h
  ·cases h
  exact h
 |cons j r ih=>
  intro s i h;rw[PS.Ln];apply ih;by_cases e:i=j
  ·subst e;exact .inr ⟨ck _ _ _,ck _ _ _⟩
  rcases h with h|⟨h1,h2⟩
  ·exact .inl ((dq.1 h).resolve_left e)
  exact .inr ⟨(gu _ _ _ _ e).trans h1,(gu _ _ _ _ e).trans h2⟩
theorem akz(ids:List Nat):∀(s:PS) (i:Nat),((s.ta ids).da i=none∨(s.ta ids).da i=s.da i)∧((s.ta ids).mp i=none∨(s.ta ids).mp i=s.mp i):=by
 induction ids with
 |nil=>intro s i;exact⟨.inr rfl,.inr rfl⟩
 |cons j r ih=>
  intro s i;rw[PS.Ln];obtain⟨h1,h2⟩:=ih (s.Hy j) i;by_cases e:i=j
  ·subst e;have e1:(s.Hy i).da i=none:=ck _ _ _;have e2:(s.Hy i).mp i=none:=ck _ _ _;rw[e1]at h1;rw[e2]at h2;exact⟨.inl (h1.elim id id),.inl (h2.elim id id)⟩
  have e1:(s.Hy j).da i=s.da i:=gu _ _ _ _ e;have e2:(s.Hy j).mp i=s.mp i:=gu _ _ _ _ e;rw[e1]at h1;rw[e2]at h2;exact⟨h1,h2⟩
def ad5(P:Program)(f:Nat)(args:List V)(iy:List D)(own:Bool)(s:PS)(r:D):Prop:=
 ∃ds,J0 s args=some ds∧Oc P s.ctx f (ds++iy) r∧(r.flat=true∨(own=false∧args.all V.isD=true))
def Spec(P:Program)(o:RI)(s:PS)(ids:List Nat)(e:lk):Prop:=
 (∃f args m' r,o.op= .yr f args∧ids=[]∧e= .mem m' r∧qz P f s.mem (args.map (·.ev s)) m' r)∨
 (∃f args g iy m' r,o.op= .N0 f args∧f.ev s= .d (.nu g iy)∧ids=[]∧e= .mem m' r∧qz P g s.mem (args.map (·.ev s)++iy.map .d) m' r)∨
 (∃f args r,o.op= .Vw f args∧ids=[]∧e= .val (.d r)∧apj P f s (args.map (·.ev s)) r)
def Ni(P:Program)(o:RI)(s:PS)(ids:List Nat)(e:lk):Prop:=
 (wanted o s=some false∧ids=[]∧e= .val (.d (.Aa [])))∨(wanted o s=some true∧
  ((∃f args r,o.op= .call f args∧ids=[]∧e= .val (.d r)∧ad5 P f (args.map (·.ev s)) [] false s r)∨
   (∃f args g iy r,o.op= .wv f args∧snap s (f.ev s)=some (.nu g iy)∧ids=[]∧e= .val (.d r)∧ad5 P g (args.map (·.ev s)) iy (!(f.ev s).isD) s r)∨
   o.op.og (s.base+o.dst.getD 0) s=some (ids,e)∨Spec P o s ids e))
def Stp(P:Program)(o:RI)(s s1:PS):Prop:=∃ids e,Ni P o s ids e∧s1=e.app o.dst (s.ta ids)
def ags(P:Program):List RI→PS→PS→Prop
 |[],s,s'=>s=s'
 |o::r,s,s'=>∃s1,Stp P o s s1∧ags P r s1 s'
theorem an9{o:RI}{K:PS→Prop}(Bc:o.isR=false)(hw:wanted o s=some true)(h:Gk P o s K):∃ids e,Ni P o s ids e∧K (e.app o.dst (s.ta ids)):=by
 unfold Gk at h;split at h
 ·rename_i ho;unfold RI.isR at Bc;rw[ho]at Bc;cases Bc
 ·rename_i f args ho;unfold RI.isR at Bc;rw[ho]at Bc;cases Bc
 ·rename_i f args ho;unfold RI.isR at Bc;rw[ho]at Bc;cases Bc
 ·rename_i f args ho;obtain⟨m',r,h1,h2⟩:=h;exact⟨[],.mem m' r,.inr ⟨hw,.inr (.inr (.inr (.inl ⟨f,args,m',r,ho,rfl,rfl,h1⟩)))⟩,h2⟩
 ·rename_i f args ho;obtain⟨r,h1,h2⟩:=h;exact⟨[],.val (.d r),.inr ⟨hw,.inr (.inr (.inr (.inr (.inr ⟨f,args,r,ho,rfl,rfl,h1⟩))))⟩,h2⟩
 ·rename_i f args ho;split at h
  ·rename_i g iy hs;obtain⟨m',r,h1,h2⟩:=h;exact⟨[],.mem m' r,.inr ⟨hw,.inr (.inr (.inr (.inr (.inl ⟨f,args,g,iy,m',r,ho,hs,rfl,rfl,h1⟩))))⟩,h2⟩
  exact h.elim
 ·rename_i f args ho;obtain⟨ds,r,h1,h2,h3,h4⟩:=h;exact⟨[],.val (.d r),.inr ⟨hw,.inl ⟨f,args,r,ho,rfl,rfl,ds,h1,h2,h3⟩⟩,h4⟩
 ·rename_i f args ho;split at h
  ·rename_i g iy hs;obtain⟨ds,r,h1,h2,h3,h4⟩:=h;exact⟨[],.val (.d r),.inr ⟨hw,.inr (.inl ⟨f,args,g,iy,r,ho,hs,rfl,rfl,ds,h1,h2,h3⟩)⟩,h4⟩
  exact h.elim
 split at h
 ·rename_i ids e he;exact⟨ids,e,.inr ⟨hw,.inr (.inr (.inl he))⟩,h⟩
 exact h.elim
theorem a9h{o:RI}{ids:List Nat}{e:lk}(hw:wanted o s=some true)(h:Ni P o s ids e):Gk P o s (· =e.app o.dst (s.ta ids)):=by
 rcases h with ⟨h,_⟩|⟨_,⟨f,args,r,ho,rfl,rfl,ds,h1,h2,h3⟩|⟨f,args,g,iy,r,ho,hs,rfl,rfl,ds,h1,h2,h3⟩|he|⟨f,args,m',r,ho,rfl,rfl,h1⟩|⟨f,args,g,iy,m',r,ho,hs,rfl,rfl,h1⟩|⟨f,args,r,ho,rfl,rfl,h1⟩⟩
 ·rw[hw]at h;cases h
 ·unfold Gk;rw[ho];exact⟨ds,r,h1,h2,h3,rfl⟩
 ·unfold Gk;rw[ho];simp only[hs];exact⟨ds,r,h1,h2,h3,rfl⟩
 ·unfold Gk;split
  ·rename_i ho;rw[ho]at he;cases he
  ·rename_i ho;rw[ho]at he;cases he
  ·rename_i ho;rw[ho]at he;cases he
  ·rename_i ho;rw[ho]at he;cases he
  ·rename_i ho;rw[ho]at he;cases he
  ·rename_i ho;rw[ho]at he;cases he
  ·rename_i ho;rw[ho]at he;cases he
  ·rename_i ho;rw[ho]at he;cases he
  simp only[he]
 ·unfold Gk;rw[ho];exact⟨m',r,h1,rfl⟩
 ·unfold Gk;rw[ho];simp only[hs];exact⟨m',r,h1,rfl⟩
 unfold Gk;rw[ho];exact⟨r,h1,rfl⟩
theorem ahq:∀{l:List RI} {s:PS} {K:PS→Prop},(∀o∈l,o.isR=false)→l5 P l s K→∃s',ags P l s s'∧K s':=by
 intro l
 induction l with
 |nil=>intro s K _ h;exact⟨s,rfl,h⟩
 |cons o r ih=>
  intro s K Bc h;rw[B5]at h;split at h
  ·rename_i hw;obtain⟨ids,e,h1,h2⟩:=an9 (Bc o (by simp)) hw h;obtain⟨s',h3,h4⟩:=ih (fun x hx=>Bc x (by simp[hx])) h2;exact⟨s',⟨_,⟨ids,e,h1,rfl⟩,h3⟩,h4⟩
  ·rename_i hw;obtain⟨s',h3,h4⟩:=ih (fun x hx=>Bc x (by simp[hx])) h;exact⟨s',⟨_,⟨[],.val (.d (.Aa [])),.inl ⟨hw,rfl,rfl⟩,rfl⟩,h3⟩,h4⟩
  exact h.elim
theorem Um{o:RI}{ids:List Nat}{e:lk}(hk:o.op.kind= .pure∨o.op.kind= .read)(h:Ni P o s ids e):ids=[]∧∃v,e= .val v:=by
 rcases h with ⟨_,rfl,rfl⟩|⟨_,⟨f,args,r,ho,rfl,rfl,_⟩|⟨f,args,g,iy,r,ho,hs,rfl,rfl,_⟩|he|⟨f,args,m',r,ho,rfl,rfl,h1⟩|⟨f,args,g,iy,m',r,ho,hs,rfl,rfl,h1⟩|⟨f,args,r,ho,rfl,rfl,h1⟩⟩
 ·exact⟨rfl,_,rfl⟩
 ·exact⟨rfl,_,rfl⟩
 ·exact⟨rfl,_,rfl⟩
 rotate_left
 ·rw[ho]at hk;simp[jv.kind]at hk
 ·rw[ho]at hk;simp[jv.kind]at hk
 ·exact⟨rfl,_,rfl⟩
 generalize o.op=op at hk he;cases op<;>simp only[jv.kind,reduceCtorEq,or_self,or_false,or_true,false_or]at hk<;>simp only[jv.og,ao]at he
 case yk im n sz z ps=>
  cases im with
  |false=>simp at hk
  |true=>
   repeat' split at he
   all_goals first|(cases he;done)|(obtain⟨rfl,rfl⟩:=ru he;exact⟨rfl,_,rfl⟩)|skip
   all_goals simp_all
 all_goals(repeat' split at he)
 all_goals first
  |(cases he;done)
  |(obtain⟨rfl,rfl⟩:=ru he;exact⟨rfl,_,rfl⟩)
  |(obtain⟨_,_,he⟩:=he;obtain⟨rfl,rfl⟩:=ru (congrArg some he);exact⟨rfl,_,rfl⟩)
  |(simp only[ao]at he;obtain⟨_,_,he⟩:=he;obtain⟨rfl,rfl⟩:=ru (congrArg some he);exact⟨rfl,_,rfl⟩)
def lk.Lc(i:Nat):lk→Prop
 | .val _=>True
 | .new _ id _=>id=i
 | .a1u _ id=>id=i
 | .init _ _ id _=>id=i
 |_=>False
theorem ano{o:RI}{ids:List Nat}{e:lk}(hk:o.op.kind= .alloc)(h:Ni P o s ids e):ids=[]∧∃i,e.Lc i∧((∃g n x,o.op= .init g n x∧i=s.base+g∧∀v t id cs,e= .init v t id cs→t=g)∨((∀g n x,o.op≠ .init g n x)∧i=s.base+o.dst.getD 0)):=by
 rcases h with ⟨_,rfl,rfl⟩|⟨_,⟨f,args,r,ho,rfl,rfl,_⟩|⟨f,args,g,iy,r,ho,hs,rfl,rfl,_⟩|he|⟨f,args,m',r,ho,rfl,rfl,h1⟩|⟨f,args,g,iy,m',r,ho,hs,rfl,rfl,h1⟩|⟨f,args,r,ho,rfl,rfl,h1⟩⟩
 ·refine⟨rfl,?_⟩;by_cases hi:∃g n x,o.op= .init g n x
  ·obtain⟨g,n,x,hi⟩:=hi;exact⟨s.base+g,trivial,.inl ⟨g,n,x,hi,rfl,by simp⟩⟩
  exact⟨_,trivial,.inr ⟨fun g n x hh=>hi ⟨g,n,x,hh⟩,rfl⟩⟩
 ·rw[ho]at hk;cases hk
 ·rw[ho]at hk;cases hk
 rotate_left
 ·rw[ho]at hk;cases hk
 ·rw[ho]at hk;cases hk
 ·rw[ho]at hk;cases hk
 generalize o.op=op at hk he;cases op<;>simp only[jv.kind,reduceCtorEq]at hk<;>simp only[jv.og]at he
 case alloc z=>simp only[aj,br]at he;obtain⟨rfl,rfl⟩:=he;exact⟨rfl,_,rfl,.inr ⟨by simp,rfl⟩⟩
 case box n x=>
  repeat' split at he
  all_goals first|(cases he;done)|(simp only[aj,br]at he;obtain⟨rfl,rfl⟩:=he;exact⟨rfl,_,rfl,.inr ⟨by simp,rfl⟩⟩)
 case H9=>simp only[aj,br]at he;obtain⟨rfl,rfl⟩:=he;exact⟨rfl,_,rfl,.inr ⟨by simp,rfl⟩⟩
 case ze n=>simp only[aj,br]at he;obtain⟨rfl,rfl⟩:=he;exact⟨rfl,_,rfl,.inr ⟨by simp,rfl⟩⟩
 case init g n x=>
  repeat' split at he
  all_goals first|(cases he;done)|(simp only[aj,br]at he;obtain⟨rfl,rfl⟩:=he;exact⟨rfl,_,rfl,.inl ⟨g,n,x,rfl,rfl,fun _ _ _ _ hh=>by cases hh;rfl⟩⟩)
 case yk im n sz z ps=>cases im<;>simp at hk
end
section
variable{P:Program}{s s' s1 s2:PS}
def CWf(s:PS):C→Prop
 | .d _=>True
 | .ref i av _=>av≤s.av i
 | .kj i av=>av≤s.av i
 | .ptr i av _=>av≤s.av i
def VWf(s:PS):V→Prop
 | .d _=>True
 | .ref i av _=>av≤s.av i
 | .kj i av=>av≤s.av i
 | .ic i av _=>av≤s.av i
 | .Hf i av _ _ _=>av≤s.av i
 | .nu _ ids=>∀p∈ids,p.2≤s.av p.1
 | .agg cs=>∀c∈cs,CWf s c
 | .Aa cs=>∀c∈cs,CWf s c
 | .Ka i av _ _=>av≤s.av i
 | .Hg i av _ _=>av≤s.av i
 | .win i av _ _ _=>av≤s.av i
 | .no=>True
structure Wf(s:PS):Prop where
 tmp:∀t,VWf s (s.tmp t)
 loc:∀id cs,s.da id=some (.loc cs)→∀c∈cs,CWf s c
 qq:∀id sz dd,s.da id=some (.qq sz dd)→∀e∈dd,∀c∈e,CWf s c
 mp:∀id es,s.mp id=some es→∀e∈es,CWf s e.2
def K3(s:PS)(d:Nat):Prop:=∀av,s.dd d av=none∧s.cs d av=none∧s.ents d av=none∧s.elc d av=none∧s.Iw d av=none
theorem atp(hl:∀i av,s'.elc i av=s.elc i av∧s'.ents i av=s.ents i av):∀(n:Nat) (c:C),deep s' n c=deep s n c:=by
 intro n
 induction n with
 |zero=>intro c;cases c<;>rfl
 |succ n ih=>
  intro c;have ih':deep s' n=deep s n:=funext ih
  cases c with
  |d x=>rfl
  |ref i av l=>simp only[deep,(hl i av).1,ih']
  |kj i av=>simp only[deep,(hl i av).2,ih']
  |ptr _ _ _=>rfl
theorem a4m(hb:s'.da=s.da)(hv:s'.av=s.av)(hm:s'.mp=s.mp)(i av:Nat):zf s s' i av:=by
 have k1:∀i av,s'.elc i av=s.elc i av:=fun i av=>by unfold PS.elc;rw[hb,hv]
 have k2:∀i av,s'.ents i av=s.ents i av:=fun i av=>by unfold PS.ents;rw[hm,hv]
 exact⟨by unfold PS.dd;rw[hb,hv],by unfold PS.cs;rw[hb,hv],k2 i av,k1 i av,by unfold PS.Iw;rw[hb,hv],fun n c _=>atp (fun i v=>⟨k1 i v,k2 i v⟩) n c⟩
theorem Gz(h:∀i av,zf s s' i av)(c:C):Hj s s' c:=by cases c<;>first|trivial|exact h _ _
theorem Xk(h:∀i av,zf s s' i av)(v:V):Iv s s' v:=by
 cases v with
 |agg cs=>exact fun c _=>Gz h c
 |Aa cs=>exact fun c _=>Gz h c
 |nu f ids=>exact fun p _=>⟨h _ _,fun cs _ c _=>Gz h c⟩
 |ic i v o=>exact⟨h _ _,fun cs _ c _=>Gz h c⟩
 |Ka i v l n=>exact⟨h _ _,fun cs _ c _=>Gz h c⟩
 |d x=>trivial
 |no=>trivial
 |_=>exact h _ _
theorem Lm(h:∀i av,av≤s.av i→zf s s' i av){c:C}(hw:CWf s c):Hj s s' c:=by cases c<;>first|trivial|exact h _ _ hw
theorem ahc(h:∀i av,av≤s.av i→zf s s' i av)(hb:∀id cs,s.da id=some (.loc cs)→∀c∈cs,CWf s c){v:V}(hw:VWf s v):Iv s s' v:=by
 cases v with
 |agg cs=>exact fun c hc=>Lm h (hw c hc)
 |Aa cs=>exact fun c hc=>Lm h (hw c hc)
 |nu f ids=>exact fun p hp=>⟨h _ _ (hw p hp),fun cs Ie c hc=>Lm h (hb _ _ (tv Ie).2 c hc)⟩
 |ic i v o=>exact⟨h _ _ hw,fun cs Ie c hc=>Lm h (hb _ _ (tv Ie).2 c hc)⟩
 |Ka i v l n=>exact⟨h i v hw,fun cs Ie c hc=>Lm h (hb _ _ (tv Ie).2 c hc)⟩
 |Hg i v m j=>exact h i v hw
 |win i v m o l=>exact h i v hw
 |d x=>trivial
 |no=>trivial
 |_=>exact h _ _ hw
theorem aos{i av sz:Nat}{dd:List (List C)}(wf:Wf s)(h:s.elc i av=some (sz,dd)):∀e∈dd,∀c∈e,CWf s c:=by
 obtain⟨_,b,hb,_,hk⟩:=Ju h;rcases hk with ⟨ds,rfl,rfl⟩|rfl
 ·intro e he c hc;obtain⟨e',_,rfl⟩:=iw.1 he;obtain⟨x,_,rfl⟩:=iw.1 hc;trivial
 exact wf.qq i sz dd hb
theorem aox(wf:Wf s)(hl:∀i av,av≤s.av i→s'.elc i av=s.elc i av∧s'.ents i av=s.ents i av):∀(n:Nat) (c:C),CWf s c→deep s' n c=deep s n c:=by
 intro n
 induction n with
 |zero=>intro c _;cases c<;>rfl
 |succ n ih=>
  intro c hc
  cases c with
  |d x=>rfl
  |ref i av l=>
   simp only[deep,(hl i av hc).1]
   cases he:s.elc i av with
   |none=>rfl
   |some p=>
    obtain⟨sz,dd⟩:=p
    have e:dd.map (fun e=>N9 (e.map (deep s' n)))=dd.map fun e=>N9 (e.map (deep s n)):=
     Cy fun e hem=>by rw[Cy fun c hcm=>ih c (aos wf he e hem c hcm)]
    simp only[e]
  |kj i av=>
   simp only[deep,(hl i av hc).2]
   cases he:s.ents i av with
   |none=>rfl
   |some es=>
    have e:es.map (fun e=>(deep s' n e.2).map fun x=>(e.1,x))=es.map fun e=>(deep s n e.2).map fun x=>(e.1,x):=
     Cy fun e hem=>by rw[ih e.2 (wf.mp i es (F3 he).2 e hem)]
    simp only[e]
  |ptr _ _ _=>rfl
theorem as8(wf:Wf s)(hl:∀i av,av≤s.av i→s'.dd i av=s.dd i av∧s'.cs i av=s.cs i av∧s'.ents i av=s.ents i av∧s'.elc i av=s.elc i av∧s'.Iw i av=s.Iw i av):
  ∀i av,av≤s.av i→zf s s' i av:=by
 intro i av hi;obtain⟨h1,h2,h3,h4,h5⟩:=hl i av hi;refine⟨h1,h2,h3,h4,h5,fun n c hc=>aox wf (fun i av h=>⟨(hl i av h).2.2.2.1,(hl i av h).2.2.1⟩) n c ?_⟩;rcases hc with ⟨l,rfl⟩|rfl<;>exact hi
theorem aif(wf:Wf s){e:lk}{i:Nat}(he:e.Lc i)(hd:K3 s i)(d:Option Nat):∀j av,av≤s.av j→zf s (e.app d s) j av:=by
 rw[Ud _ _ _ (by cases e<;>first|rfl|exact he.elim)]
 have new:∀{aBx:Nat→Option B} {mp':Nat→Option (List (D×C))} {tmp':Nat→V} {id:Nat},id=i→(∀k,k≠id→aBx k=s.da k)→(∀k,k≠id→mp' k=s.mp k)→
   ∀j av,av≤s.av j→zf s ⟨tmp',aBx,lb s.av id (s.av id+1),mp',s.base,s.ctx⟩ j av:=by
  intro aBx mp' tmp' id hid hb hm;subst hid;refine as8 wf fun j av hj=>?_;by_cases e:j=id
  ·subst e;obtain⟨h1,h2,h3,h4,h5⟩:=hd av
   have hne:¬(lb s.av j (s.av j+1) j=av):=by rw[ck];omega
   refine⟨?_,?_,?_,?_,?_⟩
   ·rw[h1];unfold PS.dd;exact al hne
   ·rw[h2];unfold PS.cs;exact al hne
   ·rw[h3];unfold PS.ents;exact al hne
   ·rw[h4];unfold PS.elc;exact al hne
   rw[h5];unfold PS.Iw;exact al hne
  refine⟨?_,?_,?_,?_,?_⟩<;>simp only[PS.dd,PS.cs,PS.ents,PS.elc,PS.Iw,gu _ _ _ _ e,hb j e,hm j e]
 intro j av hj
 cases e with
 |val v=>exact a4m (s:=s) (s':=⟨mod s.tmp ((lk.val v).tw d),s.da,s.av,s.mp,s.base,s.ctx⟩) rfl rfl rfl j av
 |set _ _=>exact he.elim
 |grow _ _ _=>exact he.elim
 |Za _ _=>exact he.elim
 |cut _ _ _=>exact he.elim
 |Ij _ _ _ _=>exact he.elim
 |mem _ _=>exact he.elim
 |new v id b=>exact new he (fun k hk=>gu _ _ _ _ hk) (fun _ _=>rfl) j av hj
 |a1u v id=>exact new he (fun _ _=>rfl) (fun k hk=>gu _ _ _ _ hk) j av hj
 |init v t id cs=>exact new he (fun k hk=>gu _ _ _ _ hk) (fun _ _=>rfl) j av hj
theorem Wa{o:RI}{x:me}{t:Nat}(hx:x∈o.op.qn)(ht:x= .t t):t∈o.looks:=by
 subst ht;unfold RI.looks;exact aae _ (Ff.2 ⟨_,hx,by simp[me.ts]⟩)
theorem ari{o:RI}(h:∀t∈o.looks,s'.tmp t=s.tmp t∧Iv s s' (s.tmp t)):∀x∈o.op.qn,Z0 s s' x:=by
 intro x hx
 cases x with
 |c y=>exact⟨rfl,trivial⟩
 |t n=>exact h n (Wa hx rfl)
theorem T6{o:RI}(h:∀t∈o.looks,s'.tmp t=s.tmp t):wanted o s'=wanted o s:=by
 unfold wanted
 cases hg:o.guard with
 |none=>rfl
 |some p=>
  obtain⟨t,b⟩:=p
  have:t∈o.looks:=by unfold RI.looks;rw[hg];simp
  simp only[h t this]
theorem abn{l:List me}(h:∀x∈l,Z0 s s' x):l.map (·.ev s')=l.map (·.ev s):=Cy fun x hx=>(h x hx).1
theorem a1b{f:Nat}{l:List me}{iy:List D}{own:Bool}{r:D}(hcx:s'.ctx=s.ctx)(h:∀x∈l,Z0 s s' x)(hc:ad5 P f (l.map (·.ev s)) iy own s r):ad5 P f (l.map (·.ev s')) iy own s' r:=by
 obtain⟨ds,h1,h2,h3⟩:=hc;refine⟨ds,by rw[ah8 h];exact h1,by rw[hcx];exact h2,?_⟩;rw[abn h];exact h3
theorem Iv.trans{s1 s2 s3:PS}{v:V}(h:Iv s1 s2 v)(k:Iv s2 s3 v):Iv s1 s3 v:=by
 have lt:∀{i av},zf s1 s2 i av→zf s2 s3 i av→zf s1 s3 i av:=fun a b=>⟨b.dd.trans a.dd,b.cs.trans a.cs,b.ents.trans a.ents,b.elc.trans a.elc,b.Iw.trans a.Iw,fun n c hc=>(b.dp n c hc).trans (a.dp n c hc)⟩
 have ct:∀{c},Hj s1 s2 c→Hj s2 s3 c→Hj s1 s3 c:=by
  intro c a b
  cases c with
  |d x=>trivial
  |_=>exact lt a b
 have bt:∀{i av},Rb s1 s2 i av→Rb s2 s3 i av→Rb s1 s3 i av:=fun a b=>⟨lt a.1 b.1,fun cs Ie c hc=>ct (a.2 cs Ie c hc) (b.2 cs (a.1.cs.trans Ie) c hc)⟩
 cases v with
 |agg cs=>exact fun c hc=>ct (h c hc) (k c hc)
 |Aa cs=>exact fun c hc=>ct (h c hc) (k c hc)
 |nu f ids=>exact fun p hp=>bt (h p hp) (k p hp)
 |ic i v o=>exact bt h k
 |Ka i v l n=>exact bt h k
 |d x=>trivial
 |no=>trivial
 |_=>exact lt h k
theorem Xx{o:RI}(hcx:s'.ctx=s.ctx)(h:∀t∈o.looks,s'.tmp t=s.tmp t∧Iv s s' (s.tmp t))(hbs:s'.base=s.base)(hE:o.op.kind= .write→s'.mem=s.mem)(hv:s'.av (s.base+o.dst.getD 0)=s.av (s.base+o.dst.getD 0))(hi:∀g n x,o.op= .init g n x→s'.da (s.base+g)=s.da (s.base+g)∧s'.av (s.base+g)=s.av (s.base+g))
  {ids:List Nat}{e:lk}(ho:Ni P o s ids e):Ni P o s' ids e:=by
 have hs:=ari h;have hw:=T6 fun t ht=>(h t ht).1;unfold Ni at ho⊢;rw[hw];rcases ho with ho|⟨h0,⟨f,args,r,h1,h2,h3,h4⟩|⟨f,args,g,iy,r,h1,h2,h3,h4,h5⟩|he|⟨f,args,m',r,h1,h2,h3,h4⟩|⟨f,args,g,iy,m',r,h1,h2,h3,h4,h5⟩|⟨f,args,r,h1,h2,h3,h4⟩⟩
 ·exact .inl ho
 ·rw[h1]at hs;exact .inr ⟨h0,.inl ⟨f,args,r,h1,h2,h3,a1b hcx hs h4⟩⟩
 ·rw[h1]at hs;obtain⟨k1,k2⟩:=hs f (by simp[jv.qn]);refine .inr ⟨h0,.inr (.inl ⟨f,args,g,iy,r,h1,?_,h3,h4,?_⟩)⟩
  ·rw[k1,a8y k2];exact h2
  rw[k1];exact a1b hcx (fun x hx=>hs x (by simp[jv.qn,hx])) h5
 ·exact .inr ⟨h0,.inr (.inr (.inl (by rw[hbs,ati hE hs hbs hv hi];exact he)))⟩
 ·have hme:=hE (by rw[h1];rfl);rw[h1]at hs;exact .inr ⟨h0,.inr (.inr (.inr (.inl ⟨f,args,m',r,h1,h2,h3,by rw[hme,abn (l:=args) hs];exact h4⟩)))⟩
 ·have hme:=hE (by rw[h1];rfl);rw[h1]at hs;exact .inr ⟨h0,.inr (.inr (.inr (.inr (.inl ⟨f,args,g,iy,m',r,h1,by rw[(hs f (by simp[jv.qn])).1];exact h2,h3,h4,by rw[hme,abn fun x hx=>hs x (by simp[jv.qn,hx])];exact h5⟩))))⟩
 rw[h1]at hs;refine .inr ⟨h0,.inr (.inr (.inr (.inr (.inr ⟨f,args,r,h1,h2,h3,?_⟩))))⟩;rw[abn (l:=args) hs];intro s2 h2';refine h4 s2 fun x hx=>?_;obtain⟨y,hy,rfl⟩:=iw.1 hx;exact(hs y hy).2.trans (h2' _ hx)
theorem atg{d:Nat}{r:jv}(hk:r.kind= .pure)(ho:∀x∈r.qn,x.ev s'=x.ev s):r.og d s'=r.og d s:=by
 cases r<;>simp only[jv.kind,reduceCtorEq]at hk<;>simp only[jv.qn,dq,kh,or_false,forall_eq_or_imp,forall_eq]at ho
 case j7 x=>simp only[jv.og,ho]
 case pick c a b=>simp only[jv.og,ho.1,ho.2.1,ho.2.2]
 case Zr x i=>simp only[jv.og,ho.1,ho.2]
 case a4z l n g x i=>simp only[jv.og,ho.1,ho.2]
 case a2q o n g x=>simp only[jv.og,ho]
 case bin op x y=>simp only[jv.og,ho.1,ho.2]
 case eqs ks n x y=>simp only[jv.og,ho.1,ho.2]
 case beq n x y=>simp only[jv.og,ho.1,ho.2]
 case un op x=>simp only[jv.og,ho]
 case conv k x=>simp only[jv.og,ho]
 case a19 x=>simp only[jv.og,ho]
 case yk im n sz z ps=>cases im<;>simp at hk
 case ext x i=>simp only[jv.og,ho]
 case Ee m x y=>simp only[jv.og,ho.1,ho.2]
theorem aej{o:RI}(hk:o.op.kind= .pure)(hbs:s'.base=s.base)(h:∀t∈o.looks,s'.tmp t=s.tmp t){ids:List Nat}{e:lk}(ho:Ni P o s ids e):Ni P o s' ids e:=by
 have hw:=T6 h;unfold Ni at ho⊢;rw[hw];rcases ho with ho|⟨h0,⟨f,args,r,h1,h2,h3,h4⟩|⟨f,args,g,iy,r,h1,h2,h3,h4,h5⟩|he|⟨f,args,m',r,h1,h2,h3,h4⟩|⟨f,args,g,iy,m',r,h1,h2,h3,h4,h5⟩|⟨f,args,r,h1,h2,h3,h4⟩⟩
 ·exact .inl ho
 ·rw[h1]at hk;cases hk
 ·rw[h1]at hk;cases hk
 rotate_left
 ·rw[h1]at hk;cases hk
 ·rw[h1]at hk;cases hk
 ·rw[h1]at hk;cases hk
 refine .inr ⟨h0,.inr (.inr (.inl ?_))⟩;rw[hbs,atg hk]
 ·exact he
 intro x hx
 cases x with
 |c y=>rfl
 |t n=>exact h n (Wa hx rfl)
structure alu(x y:RI):Prop where
 kind:x.op.kind.ok y.op.kind=true∨x.soft y=true∨y.soft x=true
 aIl:∀d∈x.makes,d∉y.pt
 aGz:∀d∈y.makes,d∉x.pt
 aI4:x.isE=true→y.pt=[]
 aE8:y.isE=true→x.pt=[]
 aCm:∀d∈x.pt,d≠y.dst.getD 0
 aCl:∀d∈y.pt,d≠x.dst.getD 0
 w1:∀d,x.writes=some d→d∉y.looks∧y.writes≠some d
 w2:∀d,y.writes=some d→d∉x.looks∧x.writes≠some d
 n1:x.writes=none→x.op.kind≠ .alloc
 n2:y.writes=none→y.op.kind≠ .alloc
theorem RI.aci{x y:RI}(h:x.acj y=true):alu x y:=by
 unfold RI.acj RI.far at h;simp only[cj,cz,pz,aJ4,decide_eq_false_iff_not,bne_iff_ne,ne_eq,N2,List.isEmpty_iff]at h;obtain⟨⟨⟨⟨⟨⟨h1,h2,h2'⟩,h3,h3'⟩,h4⟩,h5⟩,h6⟩,h7⟩:=h;refine⟨h1,h2,h3,fun he=>h2'.resolve_left (by simp[he]),fun he=>h3'.resolve_left (by simp[he]),h4,h5,fun d hd=>?_,fun d hd=>?_,fun hn=>?_,fun hn=>?_⟩
 ·rw[hd]at h6;simpa using h6
 ·rw[hd]at h7;refine⟨by simpa using h7,fun hx=>?_⟩;rw[hx]at h6;simp at h6;exact h6.2 hd
 ·rw[hn]at h6;simpa using h6
 rw[hn]at h7;simpa using h7
end
section
variable{P:Program}{s s' s1 s2:PS}
theorem zf.symm{i av:Nat}(h:zf s s' i av):zf s' s i av:=⟨h.dd.symm,h.cs.symm,h.ents.symm,h.elc.symm,h.Iw.symm,fun n c hc=>(h.dp n c hc).symm⟩
theorem Hj.symm{c:C}(h:Hj s s' c):Hj s' s c:=by cases c<;>first|trivial|exact zf.symm h
theorem Rb.symm{i av:Nat}(h:Rb s s' i av):Rb s' s i av:=⟨h.1.symm,fun cs Ie c hc=>Hj.symm (h.2 cs (h.1.cs.symm.trans Ie) c hc)⟩
theorem Iv.symm{v:V}(h:Iv s s' v):Iv s' s v:=by
 cases v with
 |agg cs=>exact fun c hc=>Hj.symm (h c hc)
 |Aa cs=>exact fun c hc=>Hj.symm (h c hc)
 |nu f ids=>exact fun p hp=>Rb.symm (h p hp)
 |ic i v o=>exact Rb.symm h
 |Ka i v l n=>exact Rb.symm h
 |d x=>trivial
 |no=>trivial
 |_=>exact zf.symm h
def Good(o:RI):Prop:=∀g n x,o.op= .init g n x→o.dst=none
def a6w(b:Nat)(o:RI)(e:lk):Prop:=(∀i a,e.tw o.dst=some (i,a)→o.writes=some i)∧((∃v,e= .val v)∨∃w,o.writes=some w∧w∈o.pt∧e.Lc (b+w))
theorem Kj{o:RI}(h:∀g n x,o.op≠ .init g n x):o.writes=o.dst:=by
 unfold RI.writes;split
 ·rename_i g n x ho;exact absurd ho (h g n x)
 rfl
theorem a69{n a:Nat}{v:V}{ids:List Nat}{e:lk}(h:Se s n a v=some (ids,e)):ids=[]∧((∃x,e= .val x)∨∃x id b,e= .cut x id b∧¬K3 s id):=by
 cases v with
 |d z=>
  cases z<;>simp only[Se,reduceCtorEq]at h<;>(split at h)<;>(first|(cases h;exact⟨rfl,.inl ⟨_,rfl⟩⟩)|cases h)
 |ref id av n0=>
  simp only[Se]at h;split at h
  ·rename_i sz dd he;split at h
   ·cases h;exact⟨rfl,.inr ⟨_,_,_,rfl,fun hd=>by rw[(hd av).1]at he;cases he⟩⟩
   cases h
  cases h
 |_=>simp[Se]at h
theorem ace{n:Nat}{xs:List C}{v:V}{ids:List Nat}{e:lk}(h:ye s n xs v=some (ids,e)):∃id b,e= .set id b:=by
 have c:∀{id av ln i off},G7 s n xs id av ln i off=some (ids,e)→∃id b,e= .set id b:=by
  intro id av ln i off h;unfold G7 at h
  repeat' split at h
  all_goals first|(cases h;done)|(cases h;exact⟨_,_,rfl⟩)
 cases v with
 |ic id av off=>
  simp only[ye]at h
  repeat' split at h
  all_goals first|(cases h;done)|(cases h;exact⟨_,_,rfl⟩)
 |Hf id av ln i off=>
  simp only[ye]at h;split at h
  ·split at h
   ·split at h
    ·cases h;exact⟨_,_,rfl⟩
    cases h
   exact c h
  exact c h
 |_=>cases h
theorem aov{n:Nat}{x y:V}{ids:List Nat}{e:lk}(h:xn s n x y=some (ids,e)):∃id b id2 b2,e= .Ij id b id2 b2∧s.da id≠none∧(∃b,s.da id2=some b∧b.isVar=true):=by
 unfold xn at h;split at h
 ·split at h
  ·rename_i h1 h2;split at h
   ·cases h;exact⟨_,_,_,_,rfl,by rw[h1];simp,_,(tv h2).2,rfl⟩
   cases h
  ·rename_i h1 h2;split at h
   ·cases h;exact⟨_,_,_,_,rfl,by rw[h1];simp,_,(tv h2).2,rfl⟩
   cases h
  cases h
 cases h
theorem U5{d sz b:Nat}{x y:V}{ids:List Nat}{e:lk}(h:Q5 s d sz b x y=some (ids,e)):ids=[]∧((∃v,e= .val v)∨(∃v b,e= .new v d b)∨∃v id b,e= .grow v id b∧¬K3 s id):=by
 unfold Q5 at h;split at h
 ·split at h
  ·split at h
   ·split at h
    ·cases h;exact⟨rfl,.inl ⟨_,rfl⟩⟩
    split at h
    ·cases h;exact⟨rfl,.inr (.inl ⟨_,_,rfl⟩)⟩
    cases h
   ·split at h
    ·rename_i he;split at h
     ·cases h;exact⟨rfl,.inr (.inr ⟨_,_,_,rfl,fun hd=>by rw[(hd _).2.2.2.1]at he;cases he⟩)⟩
     cases h
    cases h
   cases h
  cases h
 cases h
theorem a61{d:Nat}{r:jv}{ids:List Nat}{v:V}{t g:Nat}{cs:List C}(h:r.og d s=some (ids,.init v t g cs)):∃n x,r= .init t n x:=by
 cases r<;>simp only[jv.og,ao]at h
 case init g' n x=>
  repeat' split at h
  all_goals first|(cases h;done)|(simp only[aj,br,lk.init.injEq]at h;obtain⟨_,_,rfl,_,_⟩:=h;exact⟨_,_,rfl⟩)
 case store n a x=>
  split at h
  ·obtain⟨_,_,h⟩:=ace h;cases h
  obtain⟨_,_,_,_,h,_⟩:=aov h;cases h
 case app sz b x y=>
  split at h
  ·split at h
   ·split at h
    ·repeat' split at h
     all_goals(cases h)
    ·split at h
     ·split at h<;>cases h
     rcases(U5 h).2 with ⟨_,h⟩|⟨_,_,h⟩|⟨_,_,_,h,_⟩<;>cases h
    ·split at h
     ·split at h<;>cases h
     cases h
    cases h
   cases h
  rcases(U5 h).2 with ⟨_,h⟩|⟨_,_,h⟩|⟨_,_,_,h,_⟩<;>cases h
 case slice3 n x j k=>
  split at h
  ·split at h
   ·rcases(a69 h).2 with ⟨_,h⟩|⟨_,_,_,h,_⟩<;>cases h
   cases h
  cases h
 all_goals(repeat' split at h)
 all_goals first
  |(cases h;done)
  |(obtain⟨_,_,h⟩:=h;cases h;done)
  |(simp only[ao]at h;obtain⟨_,_,h⟩:=h;cases h;done)
theorem az5{o:RI}{ids:List Nat}{e:lk}(hg:Good o)(hk:o.op.kind≠ .write)(hn:o.writes=none→o.op.kind≠ .alloc)(ho:Ni P o s ids e):ids=[]∧a6w s.base o e:=by
 have val:∀v,e= .val v→a6w s.base o e:=by
  intro v hv;subst hv;refine⟨fun i a hi=>?_,.inl ⟨v,rfl⟩⟩;simp only[lk.tw,ao,br]at hi;obtain⟨d,hd,rfl,_⟩:=hi;rw[Kj]
  ·exact hd
  intro g n x hx;rw[hg g n x hx]at hd;cases hd
 cases hkk:o.op.kind with
 |pure=>obtain⟨h1,v,h2⟩:=Um (.inl hkk) ho;exact⟨h1,val v h2⟩
 |read=>obtain⟨h1,v,h2⟩:=Um (.inr hkk) ho;exact⟨h1,val v h2⟩
 |write=>exact absurd hkk hk
 |alloc=>
  obtain⟨h1,i,h2,h3⟩:=ano hkk ho;refine⟨h1,?_⟩;by_cases hv:∃v,e= .val v
  ·obtain⟨v,hv⟩:=hv;exact val v hv
  rcases h3 with ⟨g,n,x,hx,rfl,htg⟩|⟨hx,rfl⟩
  ·have hd:=hg g n x hx
   have hwr:o.writes=some g:=by unfold RI.writes;rw[hx];simp[hd]
   refine⟨fun j a hj=>?_,.inr ⟨g,hwr,by unfold RI.pt;rw[hx];simp,h2⟩⟩
   cases e with
   |init v t id cs=>simp only[lk.tw,aj,br]at hj;rw[hwr,←hj.1,htg v t id cs rfl]
   |val v=>exact absurd ⟨v,rfl⟩ hv
   |_=>simp[lk.tw,hd]at hj
  cases hd:o.dst with
  |none=>exact absurd hkk (hn (by rw[Kj hx];exact hd))
  |some d=>
   have hwr:o.writes=some d:=by rw[Kj hx];exact hd
   rw[hd]at h2;simp only[j6]at h2;refine⟨fun j a hj=>?_,.inr ⟨d,hwr,?_,h2⟩⟩
   ·rw[hwr];rw[hd]at hj
    cases e with
    |init v t id cs=>
     rcases ho with ⟨_,_,h⟩|⟨_,⟨_,_,_,_,_,h,_⟩|⟨_,_,_,_,_,_,_,_,h,_⟩|h|⟨_,_,_,_,_,_,h,_⟩|⟨_,_,_,_,_,_,_,_,_,h,_⟩|⟨_,_,_,_,_,h,_⟩⟩
     ·cases h
     ·cases h
     ·cases h
     ·obtain⟨n,x,h⟩:=a61 h;exact absurd h (hx _ n x)
     ·cases h
     ·cases h
     cases h
    |val v=>exact absurd ⟨v,rfl⟩ hv
    |_=>simp only[lk.tw,ir,aj,br]at hj;exact congrArg some hj.1
   unfold RI.pt;generalize o.op=op at hkk hx;cases op<;>simp only[jv.kind,reduceCtorEq]at hkk<;>simp only[hd,alv,X7]
   case yk im n sz z ps=>cases im<;>simp at hkk
   case init g n x=>exact absurd rfl (hx g n x)
theorem Qe{e:lk}{d:Option Nat}{t:Nat}(h:∀i a,e.tw d=some (i,a)→i≠t):(e.app d s).tmp t=s.tmp t:=by
 rw[ayp];show mod s.tmp (e.tw d) t=s.tmp t
 cases ht:e.tw d with
 |none=>rfl
 |some p=>obtain⟨i,a⟩:=p;exact gu _ _ _ _ (aL4 (h i a ht))
theorem ao1{e:lk}{w:Nat}(h:e.Lc w):(∀i a,e.bw=some (i,a)→i=w)∧(∀i,e.vw=some i→i=w)∧(∀i a,e.mw=some (i,a)→i=w):=by
 cases e with
 |val v=>exact⟨by simp[lk.bw],by simp[lk.vw],by simp[lk.mw]⟩
 |new v id b=>refine⟨?_,?_,?_⟩<;>simp only[lk.bw,lk.vw,lk.mw,aj,br,reduceCtorEq,false_implies,implies_true]<;>(first|(intro i a hi;rw[←hi.1];exact h)|(intro i hi;rw[←hi];exact h))
 |a1u v id=>refine⟨?_,?_,?_⟩<;>simp only[lk.bw,lk.vw,lk.mw,aj,br,reduceCtorEq,false_implies,implies_true]<;>(first|(intro i a hi;rw[←hi.1];exact h)|(intro i hi;rw[←hi];exact h))
 |init v t id cs=>refine⟨?_,?_,?_⟩<;>simp only[lk.bw,lk.vw,lk.mw,aj,br,reduceCtorEq,false_implies,implies_true]<;>(first|(intro i a hi;rw[←hi.1];exact h)|(intro i hi;rw[←hi];exact h))
 |set _ _=>exact h.elim
 |grow _ _ _=>exact h.elim
 |Za _ _=>exact h.elim
 |cut _ _ _=>exact h.elim
 |Ij _ _ _ _=>exact h.elim
 |mem _ _=>exact h.elim
theorem Zm{b:Nat}{o:RI}{e:lk}(h:a6w b o e):(∀i a,e.bw=some (i,a)→∃w,i=b+w∧o.writes=some w∧w∈o.pt)∧(∀i,e.vw=some i→∃w,i=b+w∧o.writes=some w∧w∈o.pt)∧
  (∀i a,e.mw=some (i,a)→∃w,i=b+w∧o.writes=some w∧w∈o.pt)∧e.isM=false:=by
 rcases h.2 with ⟨v,rfl⟩|⟨w,h1,h2,h3⟩
 ·exact⟨by simp[lk.bw],by simp[lk.vw],by simp[lk.mw],rfl⟩
 obtain⟨k1,k2,k3⟩:=ao1 h3
 exact⟨fun i a hi=>⟨w,k1 i a hi,h1,h2⟩,fun i hi=>⟨w,k2 i hi,h1,h2⟩,fun i a hi=>⟨w,k3 i a hi,h1,h2⟩,by cases e<;>first|rfl|exact h3.elim⟩
theorem ade(d:Option Nat)(x v:V):Iv s (lk.app d s (.val x)) v:=by
 refine Xk (s':=lk.app d s (.val x)) (a4m ?_ ?_ ?_) v<;>cases d<;>rfl
theorem a4s{o:RI}{e:lk}(h:a6w s.base o e)(hd:∀d∈o.pt,K3 s (s.base+d))(wf:Wf s){v:V}(hw:VWf s v):Iv s (e.app o.dst s) v:=by
 rcases h.2 with ⟨v',rfl⟩|⟨w,h1,h2,h3⟩
 ·refine Xk (s':=lk.app o.dst s (.val v')) (a4m ?_ ?_ ?_) v<;>cases o.dst<;>rfl
 exact ahc (aif wf h3 (hd w h2) o.dst) wf.loc hw
theorem a4t{o z:RI}{e:lk}(h:a6w s.base o e)(hz:Good z)(hzE:z.op.kind≠ .write)(hd:∀d∈o.pt,K3 s (s.base+d))(wf:Wf s)(hl:∀w,o.writes=some w→w∉z.looks∧z.writes≠some w)(hs:∀d∈o.pt,d≠z.dst.getD 0){ids:List Nat}{e':lk}:
  Ni P z (e.app o.dst s) ids e'↔Ni P z s ids e':=by
 obtain⟨kb,kv,km,kM⟩:=Zm h;have ht:∀t∈z.looks,(e.app o.dst s).tmp t=s.tmp t:=fun t ht=>Qe fun i a hi hit=>(hl i (h.1 i a hi)).1 (hit▸ht)
 have hv:∀j,(∀i,e.vw=some i→i≠j)→(e.app o.dst s).av j=s.av j:=by
  intro j hj;rw[Ud _ _ _ kM];show inc s.av e.vw j=s.av j
  cases hvw:e.vw with
  |none=>rfl
  |some i=>exact gu _ _ _ _ (aL4 (hj i hvw))
 have hb:∀j,(∀i a,e.bw=some (i,a)→i≠j)→(e.app o.dst s).da j=s.da j:=by
  intro j hj;rw[Ud _ _ _ kM];show mod s.da e.bw j=s.da j
  cases hbw:e.bw with
  |none=>rfl
  |some p=>obtain⟨i,a⟩:=p;exact gu _ _ _ _ (aL4 (hj i a hbw))
 have hbs:=R8 o.dst s e
 have slot:(e.app o.dst s).av (s.base+z.dst.getD 0)=s.av (s.base+z.dst.getD 0):=hv _ fun i hi Io=>by
  obtain⟨w,rfl,_,hw⟩:=kv i hi;exact hs w hw (by omega)
 have ini:∀g n x,z.op= .init g n x→(e.app o.dst s).da (s.base+g)=s.da (s.base+g)∧(e.app o.dst s).av (s.base+g)=s.av (s.base+g):=by
  intro g n x hx
  have hwz:z.writes=some g:=by unfold RI.writes;rw[hx];simp[hz g n x hx]
  refine⟨hb _ fun i a hi hig=>?_,hv _ fun i hi hig=>?_⟩
  ·obtain⟨w,rfl,hw,_⟩:=kb i a hi
   have:w=g:=by omega
   subst this;exact(hl w hw).2 hwz
  obtain⟨w,rfl,hw,_⟩:=kv i hi
  have:w=g:=by omega
  subst this;exact(hl w hw).2 hwz
 constructor
 ·intro ho;refine Xx (s:=e.app o.dst s) (s':=s) (Yx _ _ _).symm (fun t htl=>⟨(ht t htl).symm,?_⟩) hbs.symm (fun hh=>absurd hh hzE) (by rw[hbs];exact slot.symm) (fun g n x hx=>by rw[hbs];exact⟨(ini g n x hx).1.symm,(ini g n x hx).2.symm⟩) ho;rw[ht t htl];exact(a4s h hd wf (wf.tmp t)).symm
 intro ho;exact Xx (Yx _ _ _) (fun t htl=>⟨ht t htl,a4s h hd wf (wf.tmp t)⟩) hbs (fun hh=>absurd hh hzE) slot ini ho
theorem afd{o:RI}{ids:List Nat}{e:lk}(hk:o.op.kind= .write)(ho:Ni P o s ids e):o.writes=o.dst∧∀i a,e.tw o.dst=some (i,a)→o.writes=some i:=by
 have hx:∀g n x,o.op≠ .init g n x:=by intro g n x h;rw[h]at hk;cases hk
 have hw:=Kj hx;refine⟨hw,fun i a hi=>?_⟩;rw[hw]
 have:∀v t g cs,e≠ .init v t g cs:=by
  intro v t g cs he;subst he;rcases ho with ⟨_,_,h⟩|⟨_,⟨_,_,_,_,_,h,_⟩|⟨_,_,_,_,_,_,_,_,h,_⟩|h|⟨_,_,_,_,_,_,h,_⟩|⟨_,_,_,_,_,_,_,_,_,h,_⟩|⟨_,_,_,_,_,h,_⟩⟩
  ·cases h
  ·cases h
  ·cases h
  ·obtain⟨n,x,h⟩:=a61 h;exact hx t n x h
  ·cases h
  ·cases h
  cases h
 cases hd:o.dst with
 |none=>rw[hd]at hi;cases e<;>first|(simp[lk.tw]at hi;done)|exact absurd rfl (this _ _ _ _)
 |some d=>rw[hd]at hi;cases e<;>first|(simp only[lk.tw,ir,aj,br]at hi;rw[hi.1];done)|exact absurd rfl (this _ _ _ _)
theorem Yw{e:lk}{d1 d2:Option Nat}{v:V}{ids:List Nat}(ht:∀i a j b,e.tw d1=some (i,a)→(lk.val v).tw d2=some (j,b)→i≠j):
  (lk.val v).app d2 (e.app d1 (s.ta ids))=e.app d1 ((s.put d2 v).ta ids):=by
 rw[awj]
 cases hM:e.isM with
 |false=>exact agn (e2:= .val v) (d2:=d2) ht (by simp[lk.bw]) (by simp[lk.vw]) (by simp[lk.mw]) hM rfl
 |true=>
  cases e with
  |mem m r=>
   cases d1 with
   |none=>cases d2<;>rfl
   |some i=>
    cases d2 with
    |none=>rfl
    |some j=>
     have Io:=ht i r j v rfl rfl
     have e:∀(f:Nat→V),lb (lb f i r) j v=lb (lb f j v) i r:=by
      intro f
      funext k
      simp only[ak]
      split<;>split<;>first|rfl|(subst_vars;exact absurd rfl Io)
     show PS.mk _ _ _ _ _ _=PS.mk _ _ _ _ _ _
     congr 1
     exact e _
  |Ij id b id2 b2=>
   cases d1 with
   |none=>cases d2<;>rfl
   |some i=>
    cases d2 with
    |none=>rfl
    |some j=>
     have Io:=ht i .no j v rfl rfl
     have e:∀(f:Nat→V),lb (lb f i .no) j v=lb (lb f j v) i .no:=by
      intro f
      funext k
      simp only[ak]
      split<;>split<;>first|rfl|(subst_vars;exact absurd rfl Io)
     show PS.mk _ _ _ _ _ _=PS.mk _ _ _ _ _ _
     congr 1
     exact e _
  |_=>cases hM
theorem Qi{x y:RI}(h:x.soft y=true):∃n m j k n' a v,x.op= .Hg n m j k∧y.op= .store n' a v∧n'≠1:=by
 unfold RI.soft at h;split at h
 ·rename_i h1 h2;exact⟨_,_,_,_,_,_,_,h1,h2,by simpa using h⟩
 cases h
theorem aau{id:Nat}{b b':B}(d:Option Nat)(hb:s.da id=some b)(hd:b'.Cz=b.Cz):∀i av,(lk.app d s (.set id b')).Iw i av=s.Iw i av:=by
 intro i av
 have e1:(lk.app d s (.set id b')).av=s.av:=by cases d<;>rfl
 have e2:(lk.app d s (.set id b')).da=lb s.da id (some b'):=by cases d<;>rfl
 unfold PS.Iw;rw[e1,e2];by_cases hi:i=id
 ·subst hi;rw[ck,hb];simp only[hd]
 rw[ak,al hi]
theorem Yq{n id av ln i off:Nat}{xs:List C}{ids:List Nat}{e:lk}(d:Option Nat)(h:G7 s n xs id av ln i off=some (ids,e)):ids=[]∧∀i av,(e.app d s).Iw i av=s.Iw i av:=by
 unfold G7 at h;split at h
 ·rename_i sz dd he;split at h
  ·split at h
   ·cases h;obtain⟨_,b,hb,hd,_⟩:=Ju he;exact⟨rfl,aau d hb (by rw[hd];simp[B.Cz])⟩
   cases h
  cases h
 cases h
theorem ag8{n:Nat}{xs:List C}{v:V}{ids:List Nat}{e:lk}(d:Option Nat)(h:ye s n xs v=some (ids,e)):ids=[]∧∀i av,(e.app d s).Iw i av=s.Iw i av:=by
 cases v with
 |ic id av off=>
  simp only[ye]at h;split at h
  ·rename_i cs Ie;split at h
   ·cases h;exact⟨rfl,aau d (tv Ie).2 rfl⟩
   cases h
  cases h
 |Hf id av ln i off=>
  simp only[ye]at h;split at h
  ·rename_i sz dd he;split at h
   ·split at h
    ·cases h;exact⟨rfl,aau d (xm he).2 (by simp[B.Cz])⟩
    cases h
   exact Yq d h
  exact Yq d h
 |_=>cases h
theorem a9g{o:RI}{ids:List Nat}{e:lk}{n:Nat}{a v:me}(ho:o.op= .store n a v)(hn:n≠1)(h:Ni P o s ids e):∀i av,(e.app o.dst (s.ta ids)).Iw i av=s.Iw i av:=by
 have val:∀x:V,ids=[]→e= .val x→∀i av,(e.app o.dst (s.ta ids)).Iw i av=s.Iw i av:=by
  rintro x rfl rfl i av;cases o.dst<;>rfl
 rcases h with ⟨_,h1,h2⟩|⟨_,⟨f,args,r,h1,_⟩|⟨f,args,g,iy,r,h1,_⟩|he|hsp⟩
 ·exact val _ h1 h2
 ·rw[ho]at h1;cases h1
 ·rw[ho]at h1;cases h1
 ·rw[ho]at he;simp only[jv.og]at he;split at he
  ·obtain⟨rfl,h2⟩:=ag8 o.dst he;exact h2
  exfalso;unfold xn at he;split at he
  ·split at he
   ·split at he
    ·rename_i hq;exact hn hq.1
    cases he
   ·split at he
    ·rename_i hq;exact hn hq.1
    cases he
   cases he
  cases he
 rcases hsp with ⟨_,_,_,_,h1,_⟩|⟨_,_,_,_,_,_,h1,_⟩|⟨_,_,_,h1,_⟩<;>(rw[ho]at h1;cases h1)
theorem aei{o:RI}{n:Nat}{x j k:me}(ho:o.op= .Hg n x j k)(hbs:s'.base=s.base)(hel:∀i av,s'.Iw i av=s.Iw i av)(h:∀t∈o.looks,s'.tmp t=s.tmp t){ids:List Nat}{e:lk}(hq:Ni P o s ids e):Ni P o s' ids e:=by
 have hw:=T6 h;unfold Ni at hq⊢;rw[hw];rcases hq with hq|⟨h0,⟨f,args,r,h1,_⟩|⟨f,args,g,iy,r,h1,_⟩|he|hsp⟩
 ·exact .inl hq
 ·rw[ho]at h1;cases h1
 ·rw[ho]at h1;cases h1
 ·refine .inr ⟨h0,.inr (.inr (.inl ?_))⟩
  have ev:∀y∈o.op.qn,y.ev s'=y.ev s:=fun y hy=>by
   cases y with
   |c z=>rfl
   |t m=>exact h m (Wa hy rfl)
  rw[ho]at he ev⊢;simp only[jv.qn,dq,kh,or_false,forall_eq_or_imp,forall_eq]at ev;rw[hbs];simp only[jv.og,ev.1,ev.2.1,ev.2.2,hel]at he⊢;exact he
 rcases hsp with ⟨_,_,_,_,h1,_⟩|⟨_,_,_,_,_,_,h1,_⟩|⟨_,_,_,h1,_⟩<;>(rw[ho]at h1;cases h1)
theorem swap{x y:RI}(hc:alu x y)(gx:Good x)(gy:Good y)(wf:Wf s)(dx:∀d∈x.pt,K3 s (s.base+d))(dy:∀d∈y.pt,K3 s (s.base+d))(h1:Stp P x s s1)(h2:Stp P y s1 s2):∃s1',Stp P y s s1'∧Stp P x s1' s2:=by
 obtain⟨i1,e1,o1,rfl⟩:=h1;obtain⟨i2,e2,o2,rfl⟩:=h2;have hkk:=hc.kind;by_cases kx:x.op.kind= .write
 ·have ky:y.op.kind= .pure∨y.soft x=true:=by
   rcases hkk with hkk|hkk|hkk
   ·rw[kx]at hkk
    cases h:y.op.kind<;>rw[h]at hkk<;>first|exact .inl rfl|cases hkk
   ·obtain⟨_,_,_,_,_,_,_,h,_⟩:=Qi hkk;rw[h]at kx;cases kx
   exact .inr hkk
  have kr:y.op.kind= .pure∨y.op.kind= .read:=by
   rcases ky with ky|ky
   ·exact .inl ky
   obtain⟨_,_,_,_,_,_,_,h,_⟩:=Qi ky;exact .inr (by rw[h];rfl)
  obtain⟨w1,w2⟩:=afd kx o1;obtain⟨rfl,v,rfl⟩:=Um kr o2
  have hyd:y.writes=y.dst:=Kj (fun g n z h=>by rw[h]at kr;rcases kr with kr|kr<;>cases kr)
  have ht:∀t∈y.looks,(e1.app x.dst (s.ta i1)).tmp t=s.tmp t:=fun t htl=>by
   rw[Qe fun i a hi hit=>(hc.w1 i (w2 i a hi)).1 (hit▸htl),a34]
  have hb1:(e1.app x.dst (s.ta i1)).base=s.base:=by rw[R8,(Fu i1 s).1]
  have oy:Ni P y s [] (.val v):=by
   rcases ky with ky|ky
   ·exact aej ky hb1.symm (fun t htl=>(ht t htl).symm) o2
   obtain⟨_,_,_,_,_,_,_,h1,h2,h3⟩:=Qi ky;exact aei h1 hb1.symm (fun i av=>(a9g h2 h3 o1 i av).symm) (fun t htl=>(ht t htl).symm) o2
  refine⟨_,⟨[],.val v,oy,rfl⟩,i1,e1,?_,?_⟩
  ·have htx:∀t∈x.looks,(lk.app y.dst s (.val v)).tmp t=s.tmp t:=fun t htl=>Qe fun i a hi hit=>by
    simp only[lk.tw,ao,br]at hi;obtain⟨d,hd,rfl,_⟩:=hi;exact(hc.w2 d (hyd.trans hd)).1 (hit▸htl)
   exact Xx (s:=s) (Yx _ _ _) (fun t htl=>⟨htx t htl,ade _ _ _⟩) rfl (fun _=>rfl) rfl (fun _ _ _ _=>⟨rfl,rfl⟩) o1
  exact Yw fun i a j b hi hj Io=>by
   simp only[lk.tw,ao,br]at hj;obtain⟨d,hd,rfl,_⟩:=hj;exact(hc.w1 i (w2 i a hi)).2 (Io▸(hyd.trans hd))
 obtain⟨rfl,l1⟩:=az5 gx kx hc.n1 o1;by_cases ky:y.op.kind= .write
 ·have kx':x.op.kind= .pure∨x.soft y=true:=by
   rcases hkk with hkk|hkk|hkk
   ·rw[ky]at hkk
    cases h:x.op.kind<;>rw[h]at hkk<;>first|exact .inl rfl|cases hkk
   ·exact .inr hkk
   obtain⟨_,_,_,_,_,_,_,h,_⟩:=Qi hkk;rw[h]at ky;cases ky
  have kr:x.op.kind= .pure∨x.op.kind= .read:=by
   rcases kx' with kx'|kx'
   ·exact .inl kx'
   obtain⟨_,_,_,_,_,_,_,h,_⟩:=Qi kx';exact .inr (by rw[h];rfl)
  obtain⟨w1,w2⟩:=afd ky o2;obtain⟨_,v,rfl⟩:=Um kr o1
  have hxd:x.writes=x.dst:=Kj (fun g n z h=>by rw[h]at kr;rcases kr with kr|kr<;>cases kr)
  have hty:∀t∈y.looks,(lk.app x.dst s (.val v)).tmp t=s.tmp t:=fun t htl=>Qe fun i a hi hit=>by
   simp only[lk.tw,ao,br]at hi;obtain⟨d,hd,rfl,_⟩:=hi;exact(hc.w1 d (hxd.trans hd)).1 (hit▸htl)
  have oy:Ni P y s i2 e2:=Xx (s:=lk.app x.dst s (.val v)) (s':=s) (Yx _ _ _).symm (fun t htl=>⟨(hty t htl).symm,(ade _ _ _).symm⟩) rfl (fun _=>rfl) rfl (fun _ _ _ _=>⟨rfl,rfl⟩) o2;refine⟨_,⟨i2,e2,oy,rfl⟩,[],.val v,?_,?_⟩
  ·have ht:∀t∈x.looks,(e2.app y.dst (s.ta i2)).tmp t=s.tmp t:=fun t htl=>by
    rw[Qe fun i a hi hit=>(hc.w2 i (w2 i a hi)).1 (hit▸htl),a34]
   rcases kx' with kx'|kx'
   ·exact aej kx' (by rw[R8,(Fu i2 s).1]) ht o1
   obtain⟨_,_,_,_,_,_,_,h1,h2,h3⟩:=Qi kx';exact aei h1 (by rw[R8,(Fu i2 s).1]) (a9g h2 h3 oy) ht o1
  exact(Yw fun i a j b hi hj Io=>by
   simp only[lk.tw,ao,br]at hj;obtain⟨d,hd,rfl,_⟩:=hj
   exact(hc.w2 i (w2 i a hi)).2 (Io▸(hxd.trans hd))).symm
 obtain⟨rfl,l2⟩:=az5 gy ky hc.n2 o2;have hb1:=R8 x.dst s e1
 have l2':a6w s.base y e2:=by
  have:(lk.app x.dst s e1).base=s.base:=hb1;change a6w (lk.app x.dst (s.ta []) e1).base y e2 at l2
  rwa[show(lk.app x.dst (s.ta []) e1).base=s.base from hb1]at l2
 have oy:Ni P y s [] e2:=(a4t l1 gy ky dx wf hc.w1 hc.aCm).1 o2;have ox:Ni P x (e2.app y.dst s) [] e1:=(a4t l2' gx kx dy wf hc.w2 hc.aCl).2 o1;refine⟨_,⟨[],e2,oy,rfl⟩,[],e1,ox,?_⟩;show e2.app y.dst (e1.app x.dst s)=e1.app x.dst (e2.app y.dst s);obtain⟨b1,v1,m1,M1⟩:=Zm l1;obtain⟨b2,v2,m2,M2⟩:=Zm l2'
 have off:∀{p q:Nat},x.writes=some p→y.writes=some q→s.base+p≠s.base+q:=by
  intro p q hp hq hpq
  have:p=q:=by omega
  subst this;exact(hc.w1 p hp).2 hq
 exact agn (fun i a j b hi hj Io=>(hc.w1 i (l1.1 i a hi)).2 (Io▸l2.1 j b hj)) (fun i a j b hi hj=>by obtain⟨p,rfl,hp,_⟩:=b1 i a hi;obtain⟨q,rfl,hq,_⟩:=b2 j b hj;exact off hp hq)
  (fun i j hi hj=>by obtain⟨p,rfl,hp,_⟩:=v1 i hi;obtain⟨q,rfl,hq,_⟩:=v2 j hj;exact off hp hq) (fun i a j b hi hj=>by obtain⟨p,rfl,hp,_⟩:=m1 i a hi;obtain⟨q,rfl,hq,_⟩:=m2 j b hj;exact off hp hq) M1 M2
end
section
variable{P:Program}{B0 nt:Nat}{w0 w w':World}{G0 G G':fy}{s s':PS}{E E':Env}{a:Act}
theorem Zg(ids:List Nat):∀(s:PS) (i:Nat),(s.ta ids).da i=(if i∈ids then none else s.da i)∧(s.ta ids).mp i=(if i∈ids then none else s.mp i):=by
 induction ids with
 |nil=>intro s i;simp[PS.ta]
 |cons j r ih=>
  intro s i;obtain⟨h1,h2⟩:=ih (s.Hy j) i;rw[PS.Ln,h1,h2];by_cases e:i=j
  ·subst e;simp[PS.Hy,ck]
  simp[PS.Hy,gu _ _ _ _ e,e]
theorem aph:∀{dd:List (List C)} {ds:List (List D)},a1g dd=some ds→dd=ds.map fun e=>e.map .d:=by
 intro dd
 induction dd with
 |nil=>intro ds h;simp only[a1g,aj]at h;subst h;rfl
 |cons e r ih=>
  intro ds h;simp only[a1g]at h;split at h
  ·rename_i x l h1 h2
   injection h with h
   subst h;rw[ih h2,R9 h1];rfl
  cases h
def aoj(s:PS)(ids:List Nat):B→B
 | .loc cs=> .loc (cs.map (C.uu s ids))
 | .qq sz dd=>Y2 (.qq sz (dd.map fun e=>e.map (C.uu s ids)))
 |b=>b
theorem a0v(sz:Nat)(dd:List (List C)):(∃ds,Y2 (.qq sz dd)= .arr sz ds∧dd=ds.map fun e=>e.map .d)∨Y2 (.qq sz dd)= .qq sz dd:=by
 cases h:a1g dd with
 |some ds=>exact .inl ⟨ds,by simp only[Y2,h],aph h⟩
 |none=>exact .inr (by simp only[Y2,h])
theorem a9z(s:PS)(ids:List Nat)(sz:Nat)(dd:List (List C)):aoj s ids (.qq sz dd)=Y2 (.qq sz (dd.map fun e=>e.map (C.uu s ids))):=by simp only[aoj]
theorem afr(s:PS)(ids:List Nat)(b:B):(aoj s ids b).Cz=b.Cz∧(aoj s ids b).isVar=b.isVar:=by
 cases b with
 |qq sz dd=>
  rw[a9z];rcases a0v sz (dd.map fun e=>e.map (C.uu s ids))with ⟨ds,e1,e2⟩|e1
  ·rw[e1];have:=congrArg a3h e2;simp only[ag]at this;exact⟨by simp[B.Cz,this],rfl⟩
  rw[e1];exact⟨by simp[B.Cz],rfl⟩
 |_=>exact⟨rfl,rfl⟩
theorem j9.uu(h:j9 B0 w0 nt G0 s G E a w)(ids:List Nat):∃G',G.le G'∧j9 B0 w0 nt G0 (s.uu ids) G' E a w:=by
 cases ids with
 |nil=>exact⟨G,fy.kl _,h⟩
 |cons i0 r0=>
  generalize V9:i0::r0=ids;obtain⟨G',hle,h',hg⟩:=h.ta ids;refine⟨G',hle,?_⟩
  have hf:s.uu ids=PS.ta ids {s with tmp:=fun t=>(s.tmp t).uu s ids,da:=fun i=>(s.da i).map (aoj s ids),mp:=fun i=>(s.mp i).map fun es=>es.map fun e=>(e.1,C.uu s ids e.2)}:=by
   subst V9;show PS.ta _ _=PS.ta _ _
   congr 1
   congr 1
   funext i
   cases s.da i with
   |none=>rfl
   |some b=>cases b<;>rfl
  generalize hs2:s.uu ids=s2 at hf⊢
  have aG3:∀t,s2.tmp t=(s.tmp t).uu s ids:=fun t=>by rw[hf,a34]
  have zc:∀i,s2.av i=s.av i:=fun i=>by rw[hf,PS.a30]
  have hmp:∀i es,s2.mp i=some es→∃es0,(s.ta ids).mp i=some es0∧s.mp i=some es0∧es=es0.map fun e=>(e.1,C.uu s ids e.2):=by
   intro i es hi;rw[hf,(Zg ids _ i).2]at hi;split at hi
   ·cases hi
   rename_i hni;simp only[ao]at hi;obtain⟨es0,h0,rfl⟩:=hi;exact⟨es0,by rw[(Zg ids s i).2,al hni];exact h0,h0,rfl⟩
  have hblk:∀i b,s2.da i=some b→i∉ids∧∃b0,s.da i=some b0∧b=aoj s ids b0:=by
   intro i b hb;rw[hf,(Zg ids _ i).1]at hb;split at hb
   ·cases hb
   rename_i hi;simp only[ao]at hb;obtain⟨b0,h0,rfl⟩:=hb;exact⟨hi,b0,h0,rfl⟩
  have hm:Hk E E s s2:=by
   refine⟨fun i=>by rw[zc];exact ay _,fun i sz n' _ hb=>?_,fun i b _ hb hva=>?_,fun i _ hp=>?_⟩
   ·obtain⟨b,hb,hd⟩:=aya hb;obtain⟨_,b0,h0,rfl⟩:=hblk i _ hb;rw[(afr s ids b0).1]at hd;exact⟨n',(vb h0).trans hd,ay _,fun _=>⟨rfl,rfl⟩⟩
   ·obtain⟨_,b0,h0,rfl⟩:=hblk i _ hb;rw[(afr s ids b0).2]at hva;exact⟨⟨b0,h0,hva⟩,rfl⟩
   obtain⟨es,he⟩:=jx.1 hp;obtain⟨es0,_,h0,_⟩:=hmp i es he;exact⟨by rw[h0];rfl,rfl⟩
  have cell:∀(c:C) (u:Value),xv G E s c u→xv G' E s2 (c.uu s ids) u:=by
   intro c u hc
   cases c with
   |d x=>exact gj.mono hle hc
   |ref id av len=>
    simp only[C.uu];split
    ·rename_i hid;split
     ·rename_i sz dd he;split
      ·rename_i hl;obtain⟨e1,e2⟩:=xm he;subst hl;exact(hg id hid).1 sz dd av u e2 e1 hc
      exact ij.Dj hle hm (c:= .ref id av len) hc
     exact ij.Dj hle hm (c:= .ref id av len) hc
    exact ij.Dj hle hm (c:= .ref id av len) hc
   |kj id av=>
    simp only[C.uu];split
    ·rename_i hid;split
     ·rename_i ds he;simp only[agv]at he;obtain⟨es,he,hds⟩:=he;obtain⟨e1,e2⟩:=F3 he;exact(hg id hid).2 es ds av u e2 hds e1 hc
     exact ij.Dj hle hm (c:= .kj id av) hc
    exact ij.Dj hle hm (c:= .kj id av) hc
   |ptr id av off=>exact ij.Dj hle hm (c:= .ptr id av off) hc
  have Zt:s2.ctx=s.ctx:=by rw[hf,(Fu ids _).2]
  refine⟨h'.size,h'.defers,h'.base,h'.below.M7 (by rw[Zt,(Fu ids s).2];exact id),h'.gok,h'.gle,h'.Ip,fun t=>?_,fun i b hb=>?_,fun i j bi bj hi hj Io=>?_,fun i es hi=>?_,fun i j bi bj hi hj Io=>?_,fun p=>by rw[Zt];exact ij.move hle hm (h.ctx p),fun p=>by rw[Zt];exact h.tb p⟩
  ·rw[aG3];have hv:=h.tmp t;generalize s.tmp t=x at hv⊢
   cases x with
   |ref id av len=>exact cell (.ref id av len) _ hv
   |kj id av=>exact cell (.kj id av) _ hv
   |agg cs=>
    obtain⟨vs,e1,e2,e3⟩:=Eu.1 hv;rw[e1];refine al7 ⟨by simpa using e2,fun i c u hc hu=>?_⟩;simp only[cw,ao]at hc;obtain⟨c0,hc0,rfl⟩:=hc;exact cell c0 u (e3 i c0 u hc0 hu)
   |Aa cs=>
    obtain⟨vs,e1,e2,e3⟩:=K0.1 hv;rw[e1];refine K0.2 ⟨vs,rfl,by simpa using e2,fun i c u hc hu=>?_⟩;simp only[cw,ao]at hc;obtain⟨c0,hc0,rfl⟩:=hc;exact cell c0 u (e3 i c0 u hc0 hu)
   |d x=>exact ij.move hle hm hv
   |ic _ _ _=>exact ij.move hle hm hv
   |Hf _ _ _ _ _=>exact ij.move hle hm hv
   |nu _ _=>exact ij.move hle hm hv
   |Ka _ _ _ _=>exact ij.move hle hm hv
   |Hg _ _ _ _=>exact ij.move hle hm hv
   |win _ _ _ _ _=>exact ij.move hle hm hv
   |no=>trivial
  ·obtain⟨hni,b0,hb0,rfl⟩:=hblk i b hb;have key:∀o,G'.cv (E.b i) o=none:=(h'.da i b0 (by rw[(Zg ids s i).1,al hni];exact hb0)).2.1;obtain⟨k1,_,cells,et,k3,k4,k5⟩:=h.da i _ hb0
   cases b0 with
   |arr sz dd=>exact⟨k1,key,cells,et,k3,k4,k5.1,k5.2.1,fun i e j x u p q r=>(k5.2.2 i e j x u p q r).mono hle⟩
   |Ro n=>exact⟨k1,key,cells,et,k3,k4,k5⟩
   |loc cs=>
    refine⟨k1,key,cells,et,k3,k4,by simpa using k5.1,fun j c u hc hu=>?_⟩;simp only[cw,ao]at hc;obtain⟨c0,hc0,rfl⟩:=hc;exact cell c0 u (k5.2 j c0 u hc0 hu)
   |qq sz dd=>
    have hh:Holds G' E s2 cells (.qq sz (dd.map fun e=>e.map (C.uu s ids))):=by
     refine⟨by simpa using k5.1,fun q e hq=>?_,fun q e p c u hq hp hu=>?_⟩
     ·simp only[cw,ao]at hq;obtain⟨e0,he0,rfl⟩:=hq;simpa using k5.2.1 q e0 he0
     simp only[cw,ao]at hq;obtain⟨e0,he0,rfl⟩:=hq;simp only[cw,ao]at hp;obtain⟨c0,hc0,rfl⟩:=hp;exact cell c0 u (k5.2.2 q e0 p c0 u he0 hc0 hu)
    rw[a9z];rcases a0v sz (dd.map fun e=>e.map (C.uu s ids))with ⟨ds,e1,e2⟩|e1
    ·rw[e1];rw[e2]at hh;exact⟨k1,key,cells,et,k3,k4,hh.toD⟩
    rw[e1];exact⟨k1,key,cells,et,k3,k4,hh⟩
  ·have un:∀i b,s2.da i=some b→∃b0,s.da i=some b0:=fun i b hb=>by
    obtain⟨_,b0,h0,_⟩:=hblk i b hb;exact⟨b0,h0⟩
   obtain⟨b0,k0⟩:=un i bi hi;obtain⟨b1,k1⟩:=un j bj hj;exact h.inj i j b0 b1 k0 k1 Io
  ·obtain⟨es0,q0,q1,rfl⟩:=hmp i es hi;obtain⟨h1,h2,ents,clock,h3,h4,h5,h6⟩:=h'.mp i es0 q0;obtain⟨_,_,aa3,ack,h3',_,h5',_⟩:=h.mp i es0 q1;rw[h3]at h3';simp only[aj,Obj.map.injEq]at h3';obtain⟨rfl,rfl⟩:=h3';refine⟨h1,h2,ents,clock,h3,by simpa using h4,fun k e x hx hy=>?_,h6⟩;simp only[cw,ao]at hx;obtain⟨e0,he0,rfl⟩:=hx;exact⟨(h5 k e0 x he0 hy).1,cell _ _ (h5' k e0 x he0 hy).2⟩
  obtain⟨_,q0,_,_⟩:=hmp i bi hi;obtain⟨_,q1,_,_⟩:=hmp j bj hj;exact h'.Qq i j _ _ q0 q1 Io
theorem xv.wf{c:C}{u:Value}(h:xv G E s c u):CWf s c:=by
 cases c with
 |d x=>trivial
 |ref id av len=>exact h.1
 |kj id av=>exact h.1
 |ptr id av off=>exact h.1
theorem ij.wf{x:V}{v:Value}(hv:ij G E s x v):VWf s x:=by
 have cells:∀{cs:List C} {vs:Array Value},vs.size=cs.length→(∀(i:Nat) (c:C) (u:Value),cs[i]? =some c→vs[i]? =some u→xv G E s c u)→∀c∈cs,CWf s c:=by
  intro cs vs e2 e3 c hc;obtain⟨i,hi,rfl⟩:=i6.1 hc;exact(e3 i cs[i] vs[i] (ax hi) (bd (by omega))).wf
 cases x with
 |ref id av len=>exact hv.1
 |kj id av=>exact hv.1
 |ic _ _ _=>exact hv.1
 |Hf _ _ _ _ _=>exact hv.1
 |nu _ _=>exact hv.1
 |agg cs=>obtain⟨vs,e1,e2,e3⟩:=Eu.1 hv;exact cells e2 e3
 |Aa cs=>obtain⟨vs,e1,e2,e3⟩:=K0.1 hv;exact cells e2 e3
 |Ka _ _ _ _=>exact hv.1
 |Hg _ _ _ _=>exact hv.2.1
 |win _ _ _ _ _=>exact hv.2.1
 |d x=>trivial
 |no=>trivial
theorem j9.wf(h:j9 B0 w0 nt G0 s G E a w):Wf s:=by
 refine⟨fun t=>(h.tmp t).wf,fun id cs hb c hc=>?_,fun id sz dd hb e he c hc=>?_,fun id es hi e he=>?_⟩
 ·obtain⟨_,_,cells,et,_,_,k5,k6⟩:=h.da id _ hb;obtain⟨i,hi,rfl⟩:=i6.1 hc;exact(k6 i cs[i] cells[i] (ax hi) (bd (by omega))).wf
 ·obtain⟨_,_,cells,et,_,_,k5,k6,k7⟩:=h.da id _ hb;obtain⟨i,hi,rfl⟩:=i6.1 he;obtain⟨j,hj,rfl⟩:=i6.1 hc;have hl:=k6 i _ (ax hi);have:=Zq hi (by omega:j<sz);exact(k7 i dd[i] j dd[i][j] cells[i*sz+j] (ax hi) (ax hj) (bd (by omega))).wf
 obtain⟨_,_,ents,_,_,k4,k5,_⟩:=h.mp id es hi;obtain⟨i,hi,rfl⟩:=i6.1 he;exact(k5 i es[i] ents[i] (ax hi) (bd (by omega))).2.wf
theorem Qc:ij G E s (.d (.Aa [])) undef:=gj.Aa rfl (by simp)
theorem apw(h:j9 B0 w0 nt G0 s G E a w){an:Ann}{ops:Array Oper}{o:Oper}{ri:RI}(hf:Fits P nt an ops o ri){s1:PS}(re:Stp P ri s s1):∃G E a w,j9 B0 w0 nt G0 s1 G E a w:=by
 obtain⟨ids,e,ho,rfl⟩:=re
 have a14:wanted ri s=some false∨wanted ri s=some true:=by rcases ho with ⟨h,_⟩|⟨h,_⟩<;>simp[h]
 rcases a14 with hw|hw
 ·rcases ho with ⟨_,rfl,rfl⟩|⟨h,_⟩
  ·obtain⟨hd,hd2,_⟩:=hf.spec;exact⟨G,E,_,w,h.a7k (x:= .d (.Aa [])) (v:=undef) (by rw[hd];exact hd2) Qc⟩
  rw[hw]at h;cases h
 have hr:=a9h hw ho;have hwp:=Td h hf (next:=fun a w=>L0 B0 nt w0 G0 (· =e.app ri.dst (s.ta ids)) a w) (Q:=fun _ _ _=>False) hr (fun _ _ h=>h)
 have fin:∀a w,L0 B0 nt w0 G0 (· =e.app ri.dst (s.ta ids)) a w→∃G E a w,j9 B0 w0 nt G0 (e.app ri.dst (s.ta ids)) G E a w:=by
  rintro a w ⟨s',G',E',rfl,hh⟩;exact⟨G',E',a,w,hh⟩
 unfold aLg at hwp;generalize(execOp a.eval o).run P w=res at hwp
 cases res with
 |halt x w'=>cases x<;>exact hwp.elim
 |ok n w'=>
  cases n<;>simp only[Oper.upon]at hwp
  case value v=>exact fin _ _ hwp
  case skip=>exact fin _ _ hwp
  case defer d=>exact fin _ _ hwp
  case enter f args=>
   obtain⟨e',w'',fr,hR,_⟩:=hwp []
   cases e' with
   |returned v=>exact fin _ _ hR
   |panicked c=>exact hR.elim
   |outgrown=>obtain⟨_,_,hh⟩:=hR;exact hh.elim
  case row r args=>
   obtain⟨v,w'',hR,_⟩:=hwp default [];exact fin _ _ hR
end
section
variable{P:Program}{B0 nt:Nat}{w0 w w':World}{G0 G G':fy}{s s' s1 s2:PS}{E E':Env}{a:Act}
theorem U6{d:Nat}:K3 s d↔(s.da d=none∨∃n,s.da d=some (.Ro n))∧s.mp d=none:=by
 constructor
 ·intro h;obtain⟨h1,h2,h3,h4,_⟩:=h (s.av d);simp only[PS.dd,PS.cs,PS.ents,PS.elc,dj]at h1 h2 h3 h4;refine⟨?_,h3⟩
  cases hb:s.da d with
  |none=>exact .inl rfl
  |some b=>
   rw[hb]at h1 h2 h4
   cases b with
   |arr sz dd=>cases h1
   |qq sz dd=>cases h4
   |loc cs=>cases h2
   |Ro n=>exact .inr ⟨n,rfl⟩
 rintro⟨h1,h2⟩ av;refine⟨?_,?_,?_,?_,?_⟩
 ·unfold PS.dd;split
  ·rcases h1 with h1|⟨n,h1⟩<;>rw[h1]
  rfl
 ·unfold PS.cs;split
  ·rcases h1 with h1|⟨n,h1⟩<;>rw[h1]
  rfl
 ·unfold PS.ents;split
  ·exact h2
  rfl
 ·unfold PS.elc;split
  ·rcases h1 with h1|⟨n,h1⟩<;>rw[h1]
  rfl
 unfold PS.Iw;split
 ·rcases h1 with h1|⟨n,h1⟩<;>rw[h1];rfl
 rfl
theorem Qs{i av:Nat}{p:Nat×List (List D)}(h:s.dd i av=some p):¬K3 s i:=fun hd=>by rw[(hd av).1]at h;cases h
theorem abr{i av:Nat}{p:List C}(h:s.cs i av=some p):¬K3 s i:=fun hd=>by rw[(hd av).2.1]at h;cases h
theorem ao3{i av:Nat}{p:List (D×C)}(h:s.ents i av=some p):¬K3 s i:=fun hd=>by rw[(hd av).2.2.1]at h;cases h
theorem as9{i av:Nat}{p:Nat×List (List C)}(h:s.elc i av=some p):¬K3 s i:=fun hd=>by rw[(hd av).2.2.2.1]at h;cases h
def RI.Lc(o:RI)(b i:Nat):Prop:=∃w,i=b+w∧w∈o.makes
def Target(s:PS)(o:RI):lk→Prop
 | .val _=>True
 | .new _ id b=>(id=s.base+o.dst.getD 0∧∃n,b= .Ro n)∨o.Lc s.base id
 | .set id _=>¬K3 s id
 | .grow _ id _=>¬K3 s id
 | .a1u _ id=>o.Lc s.base id
 | .Za id _=>¬K3 s id
 | .init _ _ id _=>o.Lc s.base id
 | .cut _ id _=>¬K3 s id
 | .Ij id _ id2 _=>¬K3 s id∧¬K3 s id2
 | .mem _ _=>o.isE=true
theorem a65{n:Nat}{xs:List C}{v:V}{ids:List Nat}{e:lk}(h:ye s n xs v=some (ids,e)):∃id b,e= .set id b∧¬K3 s id:=by
 have c:∀{id av ln i off},G7 s n xs id av ln i off=some (ids,e)→∃id b,e= .set id b∧¬K3 s id:=by
  intro id av ln i off h;unfold G7 at h;split at h
  ·rename_i he;split at h
   ·split at h
    ·cases h;exact⟨_,_,rfl,as9 he⟩
    cases h
   cases h
  cases h
 cases v with
 |ic id av off=>
  simp only[ye]at h;split at h
  ·rename_i cs hc;split at h
   ·simp only[aj,br]at h;obtain⟨_,rfl⟩:=h;exact⟨_,_,rfl,abr hc⟩
   cases h
  cases h
 |Hf id av ln i off=>
  simp only[ye]at h;split at h
  ·rename_i sz dd he;split at h
   ·split at h
    ·simp only[aj,br]at h;obtain⟨_,rfl⟩:=h;exact⟨_,_,rfl,Qs he⟩
    cases h
   exact c h
  exact c h
 |_=>simp[ye]at h
theorem acg{n:Nat}{x y:V}{ids:List Nat}{e:lk}(h:xn s n x y=some (ids,e)):∃id b id2 b2,e= .Ij id b id2 b2∧¬K3 s id∧¬K3 s id2:=by
 have live:∀{i:Nat} {b:B},s.da i=some b→(∀n,b≠ .Ro n)→¬K3 s i:=by
  intro i b hb hn hd;rcases(U6.1 hd).1 with h|⟨n,h⟩
  ·rw[h]at hb;cases hb
  rw[h]at hb;injection hb with hb;exact hn n hb.symm
 unfold xn at h;split at h
 ·split at h
  ·rename_i h1 h2;split at h
   ·cases h;exact⟨_,_,_,_,rfl,live h1 (by simp),abr h2⟩
   cases h
  ·rename_i h1 h2;split at h
   ·cases h;exact⟨_,_,_,_,rfl,live h1 (by simp),abr h2⟩
   cases h
  cases h
 cases h
theorem ahz{o:RI}{ids:List Nat}{e:lk}(ho:Ni P o s ids e):Target s o e:=by
 rcases ho with ⟨_,_,rfl⟩|⟨_,⟨_,_,_,_,_,rfl,_⟩|⟨_,_,_,_,_,_,_,_,rfl,_⟩|h|⟨_,_,_,_,h1,_,rfl,_⟩|⟨_,_,_,_,_,_,h1,_,_,rfl,_⟩|⟨_,_,_,_,_,rfl,_⟩⟩
 ·trivial
 ·trivial
 ·trivial
 rotate_left
 ·show o.isE=true;unfold RI.isE;rw[h1]
 ·show o.isE=true;unfold RI.isE;rw[h1]
 ·trivial
 have aEq:∀{sz b:Nat} {x y:V} {l:List Nat},Q5 s (s.base+o.dst.getD 0) sz b x y=some (ids,e)→(∀i,i∈o.makes↔i∈[o.dst.getD 0])→Target s o e:=by
  intro sz b x y _ h mk;rcases(U5 h).2 with ⟨v,rfl⟩|⟨v,b,rfl⟩|⟨v,id,b,rfl,hd⟩
  ·trivial
  ·exact .inr ⟨_,rfl,(mk _).2 (by simp)⟩
  exact hd
 have mk:∀i,i∈o.makes↔i∈(match o.op with| .alloc _| .box .. | .H9| .app .. | .a2t .. | .a09 .. =>[o.dst.getD 0]| .yk im .. =>if im then[]else[o.dst.getD 0]| .init g .. =>[g]|_=>[]):=fun i=>Iff.rfl
 cases hk:o.op.kind with
 |pure=>obtain⟨_,v,rfl⟩:=Um (P:=P) (o:={o with guard:=none}) (.inl hk) (.inr ⟨rfl,.inr (.inr (.inl h))⟩);trivial
 |read=>obtain⟨_,v,rfl⟩:=Um (P:=P) (o:={o with guard:=none}) (.inr hk) (.inr ⟨rfl,.inr (.inr (.inl h))⟩);trivial
 |alloc=>
  cases e with
  |val v=>trivial
  |init v t id cs=>
   obtain⟨n,x,hx⟩:=a61 h;refine⟨t,?_,(mk _).2 (by rw[hx];simp)⟩;rw[hx]at h;simp only[jv.og]at h
   repeat' split at h
   all_goals(first|(cases h;rfl)|cases h)
  |_=>
   generalize hop:o.op=op at hk h mk;cases op<;>simp only[jv.kind,reduceCtorEq]at hk<;>simp only[jv.og]at h
   case alloc z=>first|(cases h;done)|(cases h;exact .inr ⟨_,rfl,(mk _).2 (by simp)⟩)
   case box n x=>
    repeat' split at h
    all_goals first|(cases h;done)|(cases h;exact .inr ⟨_,rfl,(mk _).2 (by simp)⟩)
   case H9=>first|(cases h;done)|(cases h;exact⟨_,rfl,(mk _).2 (by simp)⟩)
   case ze n=>first|(cases h;done)|(cases h;exact .inl ⟨rfl,n,rfl⟩)
   case init g n x=>
     repeat' split at h
     all_goals(cases h)
   case yk im n sz z ps=>cases im<;>simp at hk
 |write=>
  generalize hop:o.op=op at hk h mk;cases op<;>simp only[jv.kind,reduceCtorEq]at hk<;>simp only[jv.og]at h
  case store n a x=>
   split at h
   ·obtain⟨id,b,rfl,hd⟩:=a65 h;exact hd
   obtain⟨id,b,id2,b2,rfl,hd⟩:=acg h;exact hd
  case yk im n sz z ps=>
   cases im with
   |true=>simp at hk
   |false=>
    repeat' split at h
    all_goals first|(cases h;done)|(cases h;exact .inr ⟨_,rfl,(mk _).2 (by simp)⟩)|simp_all
  case app sz b x y=>
   split at h
   ·split at h
    ·split at h
     ·repeat' split at h
      all_goals first|(cases h;done)|(obtain⟨rfl,rfl⟩:=ru h;trivial)|(cases h;exact .inr ⟨_,rfl,(mk _).2 (by simp)⟩)
     ·split at h
      ·rename_i he;split at h
       ·cases h;exact Qs he
       cases h
      exact aEq (l:=[]) h mk
     ·split at h
      ·rename_i he;split at h
       ·cases h;exact Qs he
       cases h
      cases h
     cases h
    cases h
   exact aEq (l:=[]) h mk
  case a09 n sz z ps=>
   repeat' split at h
   all_goals first|(cases h;done)|(cases h;exact .inr ⟨_,rfl,(mk _).2 (by simp)⟩)
  case a04=>cases h
  case a2t sz b z x y=>
   repeat' split at h
   all_goals first|(cases h;done)|(cases h;exact .inr ⟨_,rfl,(mk _).2 (by simp)⟩)
  case trim x=>
   split at h
   ·split at h
    ·rename_i he;split at h
     ·cases h;exact Qs he
     cases h
    cases h
   cases h
  case clr z x=>
   split at h
   ·split at h
    ·rename_i he;split at h
     ·cases h;exact Qs he
     cases h
    cases h
   cases h
  case No n x j=>
   split at h
   ·split at h
    ·rename_i he;split at h
     ·cases h;exact Qs he
     cases h
    cases h
   ·split at h
    ·obtain⟨rfl,rfl⟩:=ru h;trivial
    cases h
   cases h
  case Wd kk x k v=>
   split at h
   ·split at h
    ·rename_i he;simp only[ao]at h;obtain⟨_,_,h⟩:=h;cases h;exact ao3 he
    cases h
   cases h
  case slice3 n x j k=>
   split at h
   ·split at h
    ·rcases(a69 h).2 with ⟨_,rfl⟩|⟨_,_,_,rfl,hd⟩
     ·trivial
     exact hd
    cases h
   cases h
  case yr f args=>cases h
  case N0 f args=>cases h
  case qb f args=>cases h
  case O9 f args=>cases h
theorem aoy{o:RI}{d:Nat}(re:Stp P o s s1)(hd:K3 s d)(hm:¬o.Lc s.base d)(hE:o.isE=false):K3 s1 d:=by
 obtain⟨ids,e,ho,rfl⟩:=re;have ht:=ahz ho;rw[U6]at hd⊢;have hd0:=hd
 have hb:(s.ta ids).da d=none∨∃n,(s.ta ids).da d=some (.Ro n):=by
  rcases(akz ids s d).1 with h|h
  ·exact .inl h
  rw[h];exact hd.1
 have hmp:(s.ta ids).mp d=none:=by
  rcases(akz ids s d).2 with h|h
  ·exact h
  rw[h];exact hd.2
 have az3:∀id,¬K3 s id→id≠d:=fun id h e=>h (e▸U6.2 hd0);by_cases Ie:∃id b id2 b2,e= .Ij id b id2 b2
 ·obtain⟨id,b,id2,b2,rfl⟩:=Ie;obtain⟨h1,h2⟩:=ht;have e1:=az3 _ h1;have e2:=az3 _ h2
  have hbk:(lk.app o.dst (s.ta ids) (.Ij id b id2 b2)).da d=(s.ta ids).da d:=by
   show lb (lb (s.ta ids).da id (some b)) id2 (some b2) d=_;rw[gu _ _ _ _ (aL4 e2),gu _ _ _ _ (aL4 e1)]
  refine⟨by rw[hbk];exact hb,hmp⟩
 have hM:e.isM=false:=by
  cases e with
  |mem m v=>have ht:o.isE=true:=ht;rw[hE]at ht;cases ht
  |Ij id b id2 b2=>exact absurd ⟨_,_,_,_,rfl⟩ Ie
  |_=>rfl
 rw[Ud _ _ _ hM]
 have V8:∀{α:Type} (f:Nat→α) (x:Option (Nat×α)),(∀i b,x=some (i,b)→i≠d)→mod f x d=f d:=by
  intro α f x hx
  cases x with
  |none=>rfl
  |some p=>obtain⟨i,b⟩:=p;exact gu _ _ _ _ (aL4 (hx i b rfl))
 have ax1:∀id,¬K3 s id→id≠d:=fun id h e=>h (e▸U6.2 hd0);have nm:∀id,o.Lc s.base id→id≠d:=fun id h e=>hm (e▸h);show(mod (s.ta ids).da e.bw d=none∨∃n,mod (s.ta ids).da e.bw d=some (.Ro n))∧mod (s.ta ids).mp e.mw d=none
 cases e with
 |val v=>exact⟨hb,hmp⟩
 |new v id b=>
  refine⟨?_,hmp⟩;rcases ht with ⟨h1,n,rfl⟩|h1
  ·by_cases e:id=d
   ·subst e;exact .inr ⟨n,ck _ _ _⟩
   rw[V8 _ _ (by intro i b hi;simp only[lk.bw,aj,br]at hi;rw[←hi.1];exact e)];exact hb
  rw[V8 _ _ (by intro i b hi;simp only[lk.bw,aj,br]at hi;rw[←hi.1];exact nm _ h1)];exact hb
 |set id b=>exact⟨by rw[V8 _ _ (by intro i b hi;simp only[lk.bw,aj,br]at hi;rw[←hi.1];exact ax1 _ ht)];exact hb,hmp⟩
 |grow v id b=>exact⟨by rw[V8 _ _ (by intro i b hi;simp only[lk.bw,aj,br]at hi;rw[←hi.1];exact ax1 _ ht)];exact hb,hmp⟩
 |a1u v id=>exact⟨hb,by rw[V8 _ _ (by intro i b hi;simp only[lk.mw,aj,br]at hi;rw[←hi.1];exact nm _ ht)];exact hmp⟩
 |Za id es=>exact⟨hb,by rw[V8 _ _ (by intro i b hi;simp only[lk.mw,aj,br]at hi;rw[←hi.1];exact ax1 _ ht)];exact hmp⟩
 |cut v id b=>exact⟨by rw[V8 _ _ (by intro i b hi;simp only[lk.bw,aj,br]at hi;rw[←hi.1];exact ax1 _ ht)];exact hb,hmp⟩
 |mem m v=>cases hM
 |Ij _ _ _ _=>cases hM
 |init v t id cs=>exact⟨by rw[V8 _ _ (by intro i b hi;simp only[lk.bw,aj,br]at hi;rw[←hi.1];exact nm _ ht)];exact hb,hmp⟩
end
section
variable{P:Program}{B0 nt:Nat}{w0 w w':World}{G0 G G':fy}{s s' s1 s2:PS}{E E':Env}{a:Act}
theorem Y1{o:Oper}{v:Value}{next:Act→World→Prop}{Q:Exit→Act→World→Prop}(h:(execOp a.eval o).run P w= .ok (.value v) w')(hn:next (a.put o.dst v) w'):o.wp P a w next Q:=by
 unfold aLg;rw[h];exact hn
theorem awn{o:Oper}{next:Act→World→Prop}{Q:Exit→Act→World→Prop}(h:(execOp a.eval o).run P w= .ok .skip w')(hn:next (a.put o.dst undef) w'):o.wp P a w next Q:=by
 unfold aLg;rw[h];exact hn
theorem apn{o:Oper}{next next':Act→World→Prop}{Q:Exit→Act→World→Prop}(hN:∀a w,next a w→next' a w)(h:o.wp P a w next Q):o.wp P a w next' Q:=by
 unfold aLg at h⊢;generalize(execOp a.eval o).run P w=r at h⊢
 cases r with
 |halt x w'=>cases x<;>exact h
 |ok n w'=>
  cases n with
  |value v=>exact hN _ _ h
  |skip=>exact hN _ _ h
  |defer d=>exact hN _ _ h
  |enter f args=>
   refine Calls.mono h fun e w'' he=>?_
   cases e with
   |returned v=>exact hN _ _ he
   |panicked c=>exact he
   |outgrown=>exact he
  |row r args=>exact Rows.mono h fun v w'' hv=>hN _ _ hv
  |_=>exact h
theorem Xu(a:Act)(d:Nat)(v:Value):(a.put (some d) v).tmps.size=a.tmps.size:=by simp[Act.put]
theorem a2z(a:Act){d:Nat}(v:Value)(hd:d<a.tmps.size)(t:Nat):(a.put (some d) v).tmps.getD t undef=if t=d then v else a.tmps.getD t undef:=by
 simp only[Act.put];rw[j8,j8];by_cases e:t=d
 ·subst e;rw[bm rfl,T5,bm hd];rfl
 rw[al e,W3 (fun h=>e h.symm)]
theorem U0(a:Act)(t:Nat):a.eval (.tmp t)=a.tmps.getD t undef:=rfl
theorem j9.aCp(h:j9 B0 w0 nt G0 s G E a w){a':Act}{tmp':Nat→V}(hs:a'.tmps.size=nt)(hd:a'.defers=[])(ht:∀t,ij G E s (tmp' t) (a'.tmps.getD t undef)):
  j9 B0 w0 nt G0 {s with tmp:=tmp'} G E a' w:=by
 have hv:∀{x:V} {v:Value},ij G E s x v→ij G E {s with tmp:=tmp'} x v:=fun{x v} h=>by cases x<;>exact h
 have hm:Hk E E s {s with tmp:=tmp'}:=⟨fun _=>ay _,fun _ _ n _ h=>⟨n,h,ay _,fun _=>⟨rfl,rfl⟩⟩,fun _ b _ h hv=>⟨⟨b,h,hv⟩,rfl⟩,fun _ _ h=>⟨h,rfl⟩⟩;refine⟨hs,hd,h.base,h.below,h.gok,h.gle,h.Ip,fun t=>hv (ht t),fun i b hb=>?_,h.inj,fun i es hi=>?_,h.Qq,fun p=>hv (h.ctx p),h.tb⟩
 ·have k:=h.da i b hb;exact k.move (fy.kl _) hm rfl k.2.1 rfl rfl
 obtain⟨h1,h2,ents,clock,h3,h4,h5,h6⟩:=h.mp i es hi;exact⟨h1,h2,ents,clock,h3,h4,fun i e x hx hy=>⟨(h5 i e x hx hy).1,ij.Dj (fy.kl _) hm (h5 i e x hx hy).2⟩,h6⟩
theorem aip{kk:KK}{k:D}:∀{ds:List (D×C)} {j:Nat} {e:D×C} (i:Nat),Ic kk k ds i=some (some (i+j))→ds[j]? =some e→Ep kk k e.1=some true∧∀c,Mt kk k c ds=some (ds.set j (k,c)):=by
 intro ds
 induction ds with
 |nil=>intro j e i _ he;simp at he
 |cons p ds ih=>
  intro j e i hi he;obtain⟨q,z⟩:=p;simp only[Ic]at hi;split at hi
  ·rename_i hq;simp only[aj]at hi
   have:j=0:=by omega
   subst this;simp only[dm,aj]at he;subst he;exact⟨hq,fun c=>by simp[Mt,hq]⟩
  ·rename_i hq
   cases j with
   |zero=>
    have:=al9 hi;omega
   |succ j=>
    have Ds:Ic kk k ds (i+1)=some (some (i+1+j)):=by rw[hi];congr 2;omega
    obtain⟨h1,h2⟩:=ih (i+1) Ds (by simpa using he);exact⟨h1,fun c=>by simp[Mt,hq,h2 c]⟩
  cases hi
theorem abo(h:j9 B0 w0 nt G0 s G E a w){t kt e:TypeId}{kk:KK}(hu:P.underlying t=some (.map kt e))(hkk:Qd P kt=some kk)(hz:(P.info? e).bind (·.zero)=some (.slice none 0 0))
  {id av:Nat}{kd:D}{vx vk:Value}(hx:ij G E s (.kj id av) vx)(hk:gj G kd vk){es:List (D×C)}(hes:s.ents id av=some es){r:Option C}(hr:Hc kk kd es=some r):
  ∃(j:Nat) (ents:Array MapEntry) (clock:Nat) (x:MapEntry),vx= .map (some (E.m id))∧
   (aJs t vx vk).run P w= .ok (.tuple #[x.val,goInt x.born]) (Bi w (E.m id) (.map ents clock))∧ents[j]? =some x∧a0i ents clock∧xv G E s (r.getD (.d .cq)) x.val∧
   (∃o0,w.heap[E.m id]? =some o0)∧
   ∃es1:List (D×C),es1.length=ents.size∧es1[j]? =some (kd,r.getD (.d .cq))∧gj G kd x.key∧
    (∀(i:Nat) (e:D×C) (y:MapEntry),i≠j→es1[i]? =some e→ents[i]? =some y→gj G e.1 y.key∧xv G E s e.2 y.val)∧∀c,Mt kk kd c es=some (es1.set j (kd,c)):=by
 obtain⟨zc,ass⟩:=F3 hes;have hvx:=hx.2 zc (by rw[ass];rfl);subst hvx;obtain⟨_,_,ents,clock,k1,k2,k3,k4⟩:=h.mp id es ass;have O3:=a4o hr;have hch:=Zp (w:=w) hkk hk O3 false
 have hzr:(zeroValue e).run P w= .ok (.slice none 0 0) w:=by
  cases hif:P.info? e with
  |none=>rw[hif]at hz;cases hz
  |some i=>
   rw[hif]at hz;simp only[Of]at hz;simp[zeroValue,typeInfo,hif,hz]
 have find:=fun idx (hi:Ic kk kd es 0=some idx)=>Tz (P:=P) (w:=w) hkk hk hi (es:=ents.toList) (by simpa using k2) (fun j e x he hx=>(k3 j e x he (by simpa using hx)).1);rcases a9u 0 hr with ⟨rfl,h2⟩|⟨j,e',h1,h2,rfl⟩
 ·refine⟨ents.size,ents.push {key:=vk,val:= .slice none 0 0,born:=clock},clock+1,{key:=vk,val:= .slice none 0 0,born:=clock},rfl,?_,by simp,k4.push _ _,gj.cq,⟨_,k1⟩,?_⟩
  ·unfold aJs;simp only[cb,underlying,run_program,bh,hu,eh,Fx k1,hch,find _ h2,av1,hzr,Nq k1]
  have Q0:∀(c:C) {ds:List (D×C)} (i:Nat),Ic kk kd ds i=some none→Mt kk kd c ds=some (ds++[(kd,c)]):=by
   intro c ds
   induction ds with
   |nil=>intro i _;simp[Mt,O3]
   |cons p ds ih=>
    intro i hi;obtain⟨q,z⟩:=p;simp only[Ic]at hi;simp only[Mt]
    cases hq:Ep kk kd q with
    |none=>rw[hq]at hi;cases hi
    |some b=>
     rw[hq]at hi
     cases b with
     |true=>simp at hi
     |false=>
      simp only at hi⊢;rw[ih _ hi];rfl
  refine⟨es++[(kd,.d .cq)],by simp[k2],by simp[k2],hk,fun i e y Io he hy=>?_,fun c=>?_⟩;rotate_left
  ·rw[Q0 c 0 h2]
   congr 1
   rw[apl _ _ (by omega)]
   have:ents.size-es.length=0:=by omega
   rw[this];rfl
  have hi:i<es.length:=by
   have:=(aw.1 he).1;simp only[db,ca,ed]at this;omega
  rw[l8 hi]at he;rw[a1o,al (by omega)]at hy;exact k3 i e y he hy
 have hj:j<ents.size:=by have:=(aw.1 h2).1;omega
 have hje:ents[j]? =some ents[j]:=bd hj;obtain⟨h3,a7q⟩:=aip 0 h1 h2;have hs:=Xn h3 hk (k3 j e' ents[j] h2 hje).1
 have re:(am9 (((ents[j]?).map (·.key)).getD vk) vk).run P w= .ok vk w:=by
  unfold am9;simp only[hje,ir,j6,hs,dj,eh]
 refine⟨j,ents.modify j fun e=>{e with key:=vk},clock,{ents[j]with key:=vk},rfl,?_,by rw[D4,bm rfl,hje];rfl,k4.modify j fun _=>rfl,(k3 j e' ents[j] h2 hje).2,⟨_,k1⟩,?_⟩
 ·have hv:((ents.toList[j]?).map (·.val)).getD undef=ents[j].val:=by simp[hj]
  unfold aJs;simp only[cb,underlying,run_program,bh,hu,eh,Fx k1,hch,find _ h1,ir,fj,re,Nq k1];simp[hj]
 refine⟨es.set j (kd,e'.2),by simp[k2],by rw[Da,bm rfl,bm (by omega)];rfl,hk,fun i e y Io he hy=>?_,fun c=>by rw[a7q c];simp⟩;rw[Da,al (aL4 Io)]at he;rw[D4,al (aL4 Io)]at hy;exact k3 i e y he hy
theorem at7{ents:Array MapEntry}{clock j:Nat}{x:MapEntry}(hb:a0i ents clock)(hx:ents[j]? =some x):ents.findIdx? (fun e=>(e.born:Int)==(x.born:Int))=some j:=by
 have hj:=(ig.1 hx).1;have hxe:ents[j]=x:=(ig.1 hx).2;rw[Array.findIdx?_eq_some_iff_getElem];refine⟨hj,by simp[hxe],fun k hk=>?_⟩
 have hk':k<ents.size:=by omega
 simp only[beq_iff_eq];intro he;have:=hb.2 k j ents[k] x (bd hk') hx (by omega);omega
theorem a5x{t r:Nat}{ents:Array MapEntry}{clock j:Nat}{x:MapEntry}(hw:w.heap[r]? =some (.map ents clock))(hb:a0i ents clock)(hx:ents[j]? =some x)(v:Value):
  (aIe t (.map (some r)) (goInt x.born) v).run P w= .ok () (Bi w r (.map (ents.modify j fun e=>{e with val:=v}) clock)):=by
 unfold aIe;have ha:(asInt (goInt x.born)).run P w= .ok (x.born:Int) w:=rfl;simp only[cb,Fx hw,bh,ha,at7 hb hx,Nq hw]
structure GAt(P:Program)(nt:Nat)(o1 o2 o3 o4 o5:Oper)(kk:KK)(sz bytes m k y:Nat)(d1 d2 d3 d4:Nat)(t kt et e eu au:TypeId)(i:TypeInfo)(args:Array Operand)(Ej:Array TypeId)(t5:TypeId):Prop where
 o1:o1.dst=some d1∧o1.op= .mapEntry t (.tmp m) (.tmp k)∧o1.guard=none
 o2:o2.dst=some d2∧o2.op= .extract (.tmp d1) 0∧o2.guard=none
 o3:o3.dst=some d3∧o3.op= .call ⟨.builtin .append,args,Ej⟩∧o3.guard=none
 o4:o4.dst=some d4∧o4.op= .extract (.tmp d1) 1∧o4.guard=none
 o5:o5.dst=none∧o5.op= .entryStore t5 (.tmp m) (.tmp d4) (.tmp d3)∧o5.guard=none
 args:args.toList=[.tmp d2,.tmp y]
 a0:Ej[0]? =some et
 a1:Ej[1]? =some au
 ut:P.underlying t=some (.map kt et)
 uet:P.underlying et=some (.slice e)
 uau:P.underlying au=some (.slice eu)
 zet:(P.info? et).bind (·.zero)=some (.slice none 0 0)
 key:Qd P kt=some kk
 inf:P.info? e=some i
 hz:i.zero.map (·.cells.size)=some i.size
 hs:0<i.size
 hb:0<i.bytes
 esz:sz=i.size
 eby:bytes=i.bytes
 lt:d1<nt∧d2<nt∧d3<nt∧d4<nt
 ne:d1≠d2∧d1≠d3∧d3≠d4∧y≠d1∧y≠d2∧m≠d1∧m≠d2∧m≠d3∧m≠d4
theorem ak3{o1 o2 o3 o4 o5:Oper}{ri:RI}(h:au4 P nt o1 o2 o3 o4 o5=some ri):∃kk sz bytes m k y d1 d2 d3 d4 t kt et e eu au i args Ej t5,GAt P nt o1 o2 o3 o4 o5 kk sz bytes m k y d1 d2 d3 d4 t kt et e eu au i args Ej t5∧
  ri={dst:=none,op:= .a04 kk sz bytes (.t m) (.t k) (.t y) [d1,d2,d3,d4],guard:=none,after:=[]}:=by
 unfold au4 at h;split at h
 ·rename_i d1 t m k d2 e2 d3 c d4 e4 t5 m' e5 e6 g1 g2 g3 g4 g5 g6 g7 g8 g9 g10;obtain⟨callee,args,Ej⟩:=c
  dsimp only at h
  split at h
  ·rename_i a0 y at_ au kt et h2 h3 h4 h5;split at h
   ·rename_i hc;obtain⟨rfl,rfl,rfl,rfl,rfl,rfl,rfl,n1,n2,n3,q1,q2,q3,q4,q5,l1,l2,l3,l4,n4,n5,n6,n7,n8,n9⟩:=hc;split at h
    ·rename_i e eu kk u1 u2 u3 u4;split at h
     ·rename_i i hi;split at h
      ·rename_i hb
       injection h with h
       subst h;exact⟨kk,i.size,i.bytes,_,k,y,_,_,_,_,t,kt,_,e,eu,au,i,args,Ej,t5,⟨⟨g1,g2,q1⟩,⟨g3,g4,q2⟩,⟨g5,g6,q3⟩,⟨g7,g8,q4⟩,⟨g9,g10,q5⟩,h2,h3,h4,h5,u1,u2,u3,u4,hi,hb.1,hb.2.1,hb.2.2.1,rfl,rfl,⟨l1,l2,l3,l4⟩,⟨n1,n2,n3,n4,n5,n6,n7,n8,n9⟩⟩,rfl⟩
      cases h
     cases h
    cases h
   cases h
  cases h
 cases h
theorem ay0(h:j9 B0 w0 nt G0 s G E a w){o1 o2 o3 o4 o5:Oper}{kk:KK}{sz bytes m k y d1 d2 d3 d4:Nat}{t kt et e eu au:TypeId}{i:TypeInfo}{args:Array Operand}{Ej:Array TypeId}{t5:TypeId}
  (g:GAt P nt o1 o2 o3 o4 o5 kk sz bytes m k y d1 d2 d3 d4 t kt et e eu au i args Ej t5){K:PS→Prop}{next:Act→World→Prop}{Q:Exit→Act→World→Prop}
  {id:Nat}(re:ale s id kk sz bytes (s.tmp m) (s.tmp k) (s.tmp y) [d1,d2,d3,d4] s')(hK:K s')(hn:∀a w,L0 B0 nt w0 G0 K a w→next a w):
  o1.wp P a w (fun a w=>o2.wp P a w (fun a w=>o3.wp P a w (fun a w=>o4.wp P a w (fun a w=>o5.wp P a w next Q) Q) Q) Q) Q:=by
 obtain⟨afc,hfm,mi,av,key,es,ys,osz,hm,hk,hes,hys,asj,hne,Ae,_,a14⟩:=re;obtain⟨n1,n2,n3,n4,n5,n6,n7,n8,n9⟩:=g.ne;obtain⟨l1,l2,l3,l4⟩:=g.lt;have esz:=g.esz;have eby:=g.eby;subst esz eby;obtain⟨z,hz,hzz⟩:=ao.1 g.hz;have vm:=h.tmp m;have vk:=h.tmp k;have vy:=h.tmp y;rw[hm]at vm;rw[hk]at vk
 obtain⟨r,hr⟩:∃r,Hc kk key es=some r:=by rcases a14 with ⟨h1,_⟩|⟨_,_,_,_,h1,_⟩<;>exact⟨_,h1⟩
 obtain⟨j,ents,clock,x,hvm,aFd,hx,hbo,hxr,⟨o0,ho0⟩,es1,p2,p3,p4,p5,Q0⟩:=abo h g.ut g.key g.zet vm vk hes hr;obtain⟨zc,ass⟩:=F3 hes;have B6:=h.size
 let a1:=a.put (some d1) (.tuple #[x.val,goInt x.born])
 let a2:=a1.put (some d2) x.val
 have s1:a1.tmps.size=nt:=by show(a.put _ _).tmps.size=_;rw[Xu];exact B6
 have s2:a2.tmps.size=nt:=by show(a1.put _ _).tmps.size=_;rw[Xu];exact s1
 have at4:∀t,a1.tmps.getD t undef=if t=d1 then .tuple #[x.val,goInt x.born]else a.tmps.getD t undef:=fun t=>a2z a _ (by omega) t
 have at3:∀t,a2.tmps.getD t undef=if t=d2 then x.val else a1.tmps.getD t undef:=fun t=>a2z a1 _ (by omega) t
 have ext:∀(A:Act) (W:World) (q:Nat) (v:Value) (o:Oper),o.op= .extract (.tmp d1) q→A.tmps.getD d1 undef= .tuple #[x.val,goInt x.born]→(#[x.val,goInt x.born]:Array Value)[q]? =some v→(execOp A.eval o).run P W= .ok (.value v) W:=by
  intro A W q v o ho hA hq;unfold execOp;rw[ho]
  dsimp only
  rw[Qt,U0,hA];unfold aJh;simp[hq]
 refine Y1 (v:= .tuple #[x.val,goInt x.born]) (w':=Bi w (E.m mi) (.map ents clock)) ?_ ?_
 ·unfold execOp;rw[g.o1.2.1]
  dsimp only
  rw[Qt,U0,U0,aFd];rfl
 rw[g.o1.1];refine Y1 (v:=x.val) (ext _ _ 0 _ _ g.o2.2.1 (by show a1.tmps.getD d1 undef=_;rw[at4,bm rfl]) rfl) ?_;rw[g.o2.1]
 have hz1:j9 B0 w0 nt G0 {s with mp:=lb s.mp mi (some es1)} G E a (Bi w (E.m mi) (.map ents clock)):=by
  refine h.Za ass (A0.Bi ho0 _) p2.symm (fun q e' y hq hy=>?_) hbo;by_cases hqj:q=j
  ·subst hqj;rw[p3]at hq
   injection hq with hq
   subst hq;rw[hx]at hy
   injection hy with hy
   subst hy;exact⟨p4,hxr⟩
  exact p5 q e' y hqj hq hy
 have aDl:Hk E E s {s with mp:=lb s.mp mi (some es1)}:=⟨fun _=>ay _,fun _ _ n _ h=>⟨n,h,ay _,fun _=>⟨rfl,rfl⟩⟩,fun _ b _ h hv=>⟨⟨b,h,hv⟩,rfl⟩,fun q _ hp=>⟨by
  by_cases e:q=mi
  ·subst e;rw[ass];rfl
  simp only[gu _ _ _ _ e]at hp;exact hp,rfl⟩⟩
 have aEp:(args.map a2.eval)[0]? =some x.val:=by
  have h2:args[0]? =some (.tmp d2):=by rw[←aIt,g.args];rfl
  rw[X9,h2];show some (a2.eval (.tmp d2))=_;rw[U0,at3,bm rfl]
 have aui:(args.map a2.eval)[1]? =some (a.tmps.getD y undef):=by
  have h2:args[1]? =some (.tmp y):=by rw[←aIt,g.args];rfl
  rw[X9,h2];show some (a2.eval (.tmp y))=_;rw[U0,at3,al n5,at4,al n4]
 obtain⟨xb,cp,news,hvy,hnl,hnh,Bc,hr1,hr2⟩:=a5y (P:=P) hz1 (y:=s.tmp y) hys asj (ij.move (fy.kl _) aDl vy);rw[hvy]at aui hr1 hr2;have hall:=auk (s:={s with mp:=lb s.mp mi (some es1)}) Ae
 have fin:∀(v3:Value) (w2:World) (E2:Env) (aeu:Nat→Option B) (aeq:Nat→Nat) (c:C) (es':List (D×C)),(y9 Ej o3.type (args.map a2.eval)).run P (Bi w (E.m mi) (.map ents clock))= .ok v3 w2→
   j9 B0 w0 nt G0 {s with mp:=lb s.mp mi (some es1),da:=aeu,av:=aeq} G E2 a w2→E2.m=E.m→w2.heap[E.m mi]? =some (.map ents clock)→
   xv G E2 {s with mp:=lb s.mp mi (some es1),da:=aeu,av:=aeq} c v3→Mt kk key c es=some es'→s'=PS.a06 {s with da:=aeu,av:=aeq,mp:=lb s.mp mi (some es')} [d1,d2,d3,d4]→
   o3.wp P a2 (Bi w (E.m mi) (.map ents clock)) (fun a w=>o4.wp P a w (fun a w=>o5.wp P a w next Q) Q) Q:=by
  intro v3 w2 E2 aeu aeq c es' Jm hf hEm hmw hc hp' hs';refine Y1 (v:=v3) (w':=w2) ?_ ?_
  ·unfold execOp;rw[g.o3.2.1];have:=Qt (P:=P) (w:=Bi w (E.m mi) (.map ents clock)) (y9 Ej o3.type (args.map a2.eval));rw[Jm]at this;exact this
  rw[g.o3.1]
  let a3:=a2.put (some d3) v3
  have s3:a3.tmps.size=nt:=by show(a2.put _ _).tmps.size=_;rw[Xu];exact s2
  have axz:∀t,a3.tmps.getD t undef=if t=d3 then v3 else a2.tmps.getD t undef:=fun t=>a2z a2 _ (by omega) t
  refine Y1 (v:=goInt x.born) (ext a3 _ 1 _ _ g.o4.2.1 (by rw[axz,al n2,at3,al n1,at4,bm rfl]) rfl) ?_;rw[g.o4.1]
  let a4:=a3.put (some d4) (goInt x.born)
  have s4:a4.tmps.size=nt:=by show(a3.put _ _).tmps.size=_;rw[Xu];exact s3
  have axy:∀t,a4.tmps.getD t undef=if t=d4 then goInt x.born else a3.tmps.getD t undef:=fun t=>a2z a3 _ (by omega) t
  have em:a4.tmps.getD m undef= .map (some (E.m mi)):=by rw[axy,al n9,axz,al n8,at3,al n7,at4,al n6];exact hvm
  have e3:a4.tmps.getD d3 undef=v3:=by rw[axy,al n3,axz,bm rfl]
  have e4:a4.tmps.getD d4 undef=goInt x.born:=by rw[axy,bm rfl]
  have hjl:j<es1.length:=(aw.1 p3).1;obtain⟨es2,axr⟩:∃es2,es2=es1.set j (key,c):=⟨_,rfl⟩;rw[Q0 c,←axr]at hp'
  injection hp' with hp'
  subst hp'
  have q2:es2.length=ents.size:=by rw[axr];simpa using p2
  have q3:es2[j]? =some (key,c):=by rw[axr,Da,bm rfl,bm hjl]
  refine awn (w':=Bi w2 (E.m mi) (.map (ents.modify j fun e=>{e with val:=v3}) clock)) ?_ ?_
  ·unfold execOp;rw[g.o5.2.1]
   dsimp only
   rw[af1];show((aIe t5 (a4.eval (.tmp m)) (a4.eval (.tmp d4)) (a4.eval (.tmp d3))).run P w2).andThen _=_;rw[U0,U0,U0,em,e3,e4,a5x hmw hbo hx];rfl
  rw[g.o5.1];have aDj:(lb s.mp mi (some es1)) mi=some es1:=ck _ _ _
  have hEq:E2.m mi=E.m mi:=by rw[hEm]
  have hold:∀(q:Nat) (e':D×C) (y:MapEntry),es1[q]? =some e'→ents[q]? =some y→gj G e'.1 y.key∧xv G E2 {s with mp:=lb s.mp mi (some es1),da:=aeu,av:=aeq} e'.2 y.val:=by
   intro q e' y hq hy;obtain⟨_,_,aEe,aBr,k3,_,k5,_⟩:=hf.mp mi es1 aDj;rw[hEq,hmw]at k3;simp only[aj,Obj.map.injEq]at k3;obtain⟨rfl,rfl⟩:=k3;exact k5 q e' y hq hy
  have same:∀q,q≠j→es2[q]? =es1[q]? :=by
   intro q hq;rw[axr,Da,al (aL4 hq)]
  refine hn _ _ ⟨s',G,E2,hK,?_⟩
  have Nb:=hf.Za (es:=es2) aDj (w':=Bi w2 (E.m mi) (.map (ents.modify j fun e=>{e with val:=v3}) clock)) (ents:=ents.modify j fun e=>{e with val:=v3}) (clock:=clock) (by rw[hEq];exact A0.Bi hmw _) (by simp[q2]) (fun q e' y hq hy=>by
   rw[D4]at hy;by_cases hqj:q=j
   ·subst hqj;rw[bm rfl,hx]at hy;simp only[ir,aj]at hy;subst hy;rw[q3]at hq
    injection hq with hq
    subst hq;exact⟨p4,hc⟩
   rw[al (aL4 hqj)]at hy;rw[same q hqj]at hq
   exact hold q e' y hq hy) (hbo.modify j fun _=>rfl)
  have hup:lb (lb s.mp mi (some es1)) mi (some es2)=lb s.mp mi (some es2):=by
   funext q
   by_cases e:q=mi
   ·subst e;rw[ck,ck]
   rw[gu _ _ _ _ e,gu _ _ _ _ e,gu _ _ _ _ e]
  have azc:j9 B0 w0 nt G0 {s with da:=aeu,av:=aeq,mp:=lb s.mp mi (some es2)} G E2 a (Bi w2 (E.m mi) (.map (ents.modify j fun e=>{e with val:=v3}) clock)):=by
   have e:({s with mp:=lb (lb s.mp mi (some es1)) mi (some es2),da:=aeu,av:=aeq}:PS)={s with da:=aeu,av:=aeq,mp:=lb s.mp mi (some es2)}:=by rw[hup]
   rw[←e];exact Nb
  rw[hs'];refine azc.aCp (a':=a4) s4 h.defers (tmp':=fun t=>if t∈[d1,d2,d3,d4]then .no else s.tmp t) fun t=>?_;by_cases ht:t∈[d1,d2,d3,d4]
  ·rw[bm ht];exact ij.aFu
  rw[al ht];simp only[dq,kh,or_false,not_or]at ht;rw[axy,al ht.2.2.2,axz,al ht.2.2.1,at3,al ht.2.1,at4,al ht.1];exact azc.tmp t
 have ha3:(args.map a2.eval)[0]? =some x.val:=aEp;have hmi:(Bi w (E.m mi) (.map ents clock)).heap[E.m mi]? =some (.map ents clock):=(A0.Bi ho0 (.map ents clock)).at_;rcases a14 with ⟨c1,c2,es',c3,c4⟩|⟨i',v0,n0,dd,c1,c2,c3,c4,es',c5,c6⟩
 ·rw[hr]at c1
  injection c1 with c1
  subst c1
  have hxv:x.val= .slice none 0 0:=by
   have:gj G .cq x.val:=hxr;generalize x.val=q at this;cases this;rfl
  rw[hxv]at ha3;obtain⟨v3,w2,E2,k1,k2,k3,k4,k5⟩:=a0g (ty:=o3.type) hz1 g.uet g.uau g.inf hz g.hb hzz (ys:=ys.map fun e=>e.map .d) ha3 aui g.a0 g.a1 (by simp) (by simpa using hnl) hnh.ofD hr2 (by simpa using hne) (by simpa using c2) id (nb:= .arr i.size ys) (by simp[B.Cz]) (fun _ q=>q.toD);simp only[ag]at k3;exact fin v3 w2 E2 _ _ (.ref id (s.av id+1) ys.length) es' k1 k2 k4 (k5 _ _ _ hmi) k3 c3 c4
 rw[hr]at c1
 injection c1 with c1
 subst c1;obtain⟨v3,w2,E2,k1,k2,k3,k4,k5⟩:=a6o (ty:=o3.type) hz1 g.uet g.uau g.inf hz g.hb hzz (ys:=ys.map fun e=>e.map .d) ha3 aui g.a0 g.a1 (by simp) (by simpa using hnl) hnh.ofD (fun u hu=>Bc u hu Ae) hr1 hr2
  (id:=i') (av:=v0) (dd:=List.map (fun e:List D=>List.map C.d e) dd) (a5z (s:=s) c2) (by
   have:=ij.Dj (fy.kl _) aDl hxr;simp only[j6]at this;rw[←c3]at this;simp only[ag]
   exact this) (by simpa[c3]using c4) (nb:= .arr i.size (dd++ys)) (by simp[B.Cz]) (fun _ q=>Holds.toD (by simpa using q)) rfl
 simp only[ag,c3]at k3;exact fin v3 w2 E2 _ _ (.ref i' v0 (n0+ys.length)) es' k1 k2 k4 (k5 _ _ _ hmi) k3 c5 c6
end
section
variable{P:Program}{B0 nt:Nat}{w0 w w':World}{G0 G G':fy}{s s' s1 s2:PS}{E E':Env}{a:Act}
theorem au1{im kp cv:Bool}{cm:Nat}{op:Op}{g n:Nat}{x:me}(h:cOp P im kp cv cm op=some (.init g n x)):False:=by
 unfold cOp at h;split at h
 all_goals(first|(simp only[ao]at h;obtain⟨y,hy,hh⟩:=h;cases hh;done)|skip)
 all_goals(repeat' split at h)
 all_goals(first|unfold a0f at h|unfold S6 at h|skip)
 all_goals(repeat' split at h)
 all_goals(first|(cases h;done)|(simp[ao]at h;done))
theorem Fits.aE4{an:Ann}{ops:Array Oper}{o:Oper}{ri:RI}(h:Fits P nt an ops o ri):Good ri:=by
 intro g n x hx;obtain⟨r0,hc,rfl|⟨z,_,rfl⟩|⟨m,g',y,_,hd,rfl⟩⟩:=h
 ·obtain⟨hop,_⟩:=X4 hc;rw[hx]at hop;exact(au1 hop).elim
 ·cases hx
 exact hd
theorem a1c{an:Ann}{ops:Array Oper}:∀{L:List Oper} {l:List RI},S7 P nt an ops L=some l→l.length=L.length∧∀(i:Nat) (o:Oper) (ri:RI),L[i]? =some o→l[i]? =some ri→a6k P nt an ops o=some ri:=by
 intro L
 induction L with
 |nil=>intro l h;simp only[S7,aj]at h;subst h;exact⟨rfl,by simp⟩
 |cons o r ih=>
  intro l h;simp only[S7]at h;split at h
  ·rename_i x l' h1 h2
   injection h with h
   subst h;obtain⟨k1,k2⟩:=ih h2;refine⟨by simp[k1],fun i y ri hy hr=>?_⟩
   cases i with
   |zero=>simp at hy hr;subst hy hr;exact h1
   |succ i=>simp at hy hr;exact k2 i y ri hy hr
  cases h
theorem aoi{an:Ann}{ops:Array Oper}{o:Oper}{r0:RI}(h:a6k P nt an ops o=some r0)(l:List RI):Fits P nt an ops o (RI.aj3 l r0):=by
 refine⟨r0,h,?_⟩;unfold RI.aj3;split
 ·rename_i z d h1 h2;split
  ·exact .inr (.inl ⟨z,h1,rfl⟩)
  exact .inl rfl
 ·rename_i n g x h1 h2;split
  ·exact .inr (.inr ⟨n,g,x,h1,h2,rfl⟩)
  exact .inl rfl
 exact .inl rfl
def Aligned(P:Program)(nt:Nat)(an:Ann)(ops:Array Oper)(l:List RI):Prop:=l.length=ops.size∧∀(i:Nat) (o:Oper) (ri:RI),ops[i]? =some o→l[i]? =some ri→Fits P nt an ops o ri
theorem Vx{an:Ann}{ops:Array Oper}{l:List RI}(h:S7 P nt an ops ops.toList=some l):Aligned P nt an ops l:=by
 obtain⟨h1,h2⟩:=a1c h;exact⟨by simpa using h1,fun i o ri ho hr=>⟨ri,h2 i o ri (by simpa using ho) hr,.inl rfl⟩⟩
theorem acz{an:Ann}{ops:Array Oper}{l:List RI}(h:S7 P nt an ops ops.toList=some l):Aligned P nt an ops (l.map (RI.aj3 l)):=by
 obtain⟨h1,h2⟩:=a1c h;refine⟨by simpa using h1,fun i o ri ho hr=>?_⟩;simp only[cw,ao]at hr;obtain⟨r0,hr,rfl⟩:=hr;exact aoi (h2 i o r0 (by simpa using ho) hr) l
theorem aA2(h:j9 B0 w0 nt G0 s G E a w){an:Ann}{ops:Array Oper}{o:Oper}{ri:RI}(hf:Fits P nt an ops o ri){i:Nat}(hi:ops[i]? =some o){s1:PS}(re:Stp P ri s s1){K:Act→World→Prop}{Q:Exit→Act→World→Prop}
  (hn:∀a w,L0 B0 nt w0 G0 (· =s1) a w→K a w):wpOp P ops Q i K a w:=by
 obtain⟨ids,e,ho,rfl⟩:=re;unfold wpOp;rw[hi];simp only
 have a14:wanted ri s=some false∨wanted ri s=some true:=by rcases ho with ⟨h,_⟩|⟨h,_⟩<;>simp[h]
 rcases a14 with hw|hw
 ·rw[C5 h hf hw];rcases ho with ⟨_,rfl,rfl⟩|⟨h',_⟩
  ·obtain⟨hd,hd2,_⟩:=hf.spec;refine hn _ _ ⟨_,G,E,rfl,?_⟩;show j9 B0 w0 nt G0 (s.put ri.dst (.d (.Aa []))) G E _ _;rw[hd];exact h.a7k hd2 Qc
  rw[hw]at h';cases h'
 rw[C5 h hf hw];exact .inl (Td h hf (a9h hw ho) hn)
theorem Vs(l:List RI):(dn l.length).map (fun i=>l.getD i default)=l:=by
 apply List.ext_getElem?;intro i;simp only[cw];by_cases h:i<l.length
 ·simp[M5 h,cd,h]
 rw[a6z (by simpa using h),a6z (by simpa using h)];rfl
theorem ar2{o:RI}{r:List RI}{K:PS→Prop}(hg:o.guard=none):l5 P (o::r) s K=Gk P o s fun s'=>l5 P r s' K:=by
 rw[B5];unfold wanted;rw[hg]
theorem amn{an:Ann}{ops:Array Oper}{Q:Exit→Act→World→Prop}{K:PS→Prop}(hQ:∀a w,L0 B0 nt w0 G0 K a w→Q .normal a w):
  ∀(n:Nat) (L:List Oper) (q:Nat) {l:List RI},L.length≤n→ops.toList.drop q=L→a8j P nt an ops 0 L=some l→∀{s:PS} {G:fy} {E:Env} {a:Act} {w:World},j9 B0 w0 nt G0 s G E a w→l5 P l s K→wpOps P ops Q (ake q L.length) a w:=by
 intro n
 induction n with
 |zero=>
  intro L q l hn hL hc s G E a w h hr;have:L=[]:=ix (by omega);subst this;simp only[a8j,aj]at hc;subst hc;exact hQ _ _ ⟨s,G,E,hr,h⟩
 |succ n ih=>
  intro L q l hn hL hc s G E a w h hr
  cases L with
  |nil=>
   simp only[a8j,aj]at hc;subst hc;exact hQ _ _ ⟨s,G,E,hr,h⟩
  |cons o r=>
   have at_:∀(i:Nat) (x:Oper),(o::r)[i]? =some x→ops[q+i]? =some x:=by
    intro i x hx;rw[←hL,oo]at hx;simpa using hx
   have next:∀i,ops.toList.drop (q+i)=(o::r).drop i:=by
    intro i;rw[←hL,am3]
   simp only[a8j]at hc;split at hc
   ·rename_i ri hg;unfold au3 at hg;split at hg
    ·rename_i o1 o2 o3 o4 o5 r' heq;obtain⟨rfl,rfl⟩:=List.cons.inj heq;simp only[ao]at hc;obtain⟨l',hc,rfl⟩:=hc;have hc:a8j P nt an ops 0 r'=some l':=hc;obtain⟨kk,sz,bytes,m,k,y,d1,d2,d3,d4,t,kt,et,e,eu,au,i,args,Ej,t5,g,rfl⟩:=ak3 hg;rw[ar2 rfl]at hr;obtain⟨id,s',re,hK⟩:=hr
     have rest:∀a w,L0 B0 nt w0 G0 (fun s'=>l5 P l' s' K) a w→wpOps P ops Q (ake (q+5) r'.length) a w:=by
      rintro a' w' ⟨s2,G2,E2,hK2,h2⟩;refine ih r' (q+5) (by simp at hn;omega) (by have:=next 5;simpa using this) hc h2 hK2
     have gw:=ay0 h g re hK rest (Q:=Q)
     have one:∀(j:Nat) (x:Oper) (js:List Nat) (A:Act) (W:World),ops[j]? =some x→x.guard=none→x.wp P A W (fun a w=>wpOps P ops Q js a w) Q→wpOps P ops Q (j::js) A W:=by
      intro j x js A W hx hgd hw;rw[wpOps_cons];unfold wpOp;rw[hx];simp only
      have:aJ9 x (yielded ops A.tmps)=true:=by unfold aJ9;rw[hgd]
      rw[this];exact .inl hw
     have mono:∀(x:Oper) (A:Act) (W:World) (N N':Act→World→Prop),(∀a w,N a w→N' a w)→x.wp P A W N Q→x.wp P A W N' Q:=by
      intro x A W N N' hN hx;exact apn hN hx
     have hlen:(o::o2::o3::o4::o5::r').length=r'.length+5:=by simp
     rw[hlen]
     have hrg:ake q (r'.length+5)=q::(q+1)::(q+2)::(q+3)::(q+4)::ake (q+5) r'.length:=by
      simp[aI6]
     rw[hrg];refine one q o _ a w (at_ 0 _ rfl) g.o1.2.2 (mono _ _ _ _ _ (fun a1 w1 h1=>?_) gw);refine one (q+1) o2 _ a1 w1 (at_ 1 _ rfl) g.o2.2.2 (mono _ _ _ _ _ (fun a2 w2 h2=>?_) h1);refine one (q+2) o3 _ a2 w2 (at_ 2 _ rfl) g.o3.2.2 (mono _ _ _ _ _ (fun a3 w3 h3=>?_) h2);refine one (q+3) o4 _ a3 w3 (at_ 3 _ rfl) g.o4.2.2 (mono _ _ _ _ _ (fun a4 w4 h4=>?_) h3);exact one (q+4) o5 _ a4 w4 (at_ 4 _ rfl) g.o5.2.2 h4
    cases hg
   split at hc
   ·rename_i ri l' ho hl
    injection hc with hc
    subst hc;have hf:Fits P nt an ops o ri:=⟨ri,ho,.inl rfl⟩
    have hrg:ake q (o::r).length=q::ake (q+1) r.length:=by simp[aI6]
    rw[hrg,wpOps_cons];have hi:=at_ 0 o rfl;unfold wpOp;rw[show ops[q]? =some o from hi];simp only
    have rest:∀a w,L0 B0 nt w0 G0 (fun s'=>l5 P l' s' K) a w→wpOps P ops Q (ake (q+1) r.length) a w:=by
     rintro a' w' ⟨s',G',E',hK,h'⟩;exact ih r (q+1) (by simp at hn;omega) (by have:=next 1;simpa using this) hl h' hK
    rw[B5]at hr;split at hr
    ·rename_i hw;rw[C5 h hf hw];exact .inl (Td h hf hr rest)
    ·rename_i hw;rw[C5 h hf hw];obtain⟨hd,hd2,_⟩:=hf.spec;refine rest _ _ ⟨_,G,E,hr,?_⟩;rw[hd];exact h.a7k hd2 Qc
    exact hr.elim
   cases hc
theorem abd{an:Ann}{ops:Array Oper}{l:List RI}(hal:a8j P nt an ops 0 ops.toList=some l){Q:Exit→Act→World→Prop}{K:PS→Prop}(h:j9 B0 w0 nt G0 s G E a w)(hr:l5 P l s K)(hQ:∀a w,L0 B0 nt w0 G0 K a w→Q .normal a w){id:Nat}:
  (aKg id ops false).wp P Q a w:=by
 refine wp_region ?_;have:=amn hQ ops.toList.length ops.toList 0 (ay _) (by simp) hal h hr;rw[qa,←aJ2]at this;exact this
def Inv(s:PS)(l:List RI):Prop:=∀o∈l,∀d∈o.pt,K3 s (s.base+d)
def Far(x y:RI):Prop:=(∀d∈x.makes,d∉y.pt)∧(x.isE=true→y.pt=[])
theorem apx{o:RI}(re:Stp P o s s1):s1.base=s.base:=by
 obtain⟨ids,e,_,rfl⟩:=re;rw[R8,(Fu ids s).1]
theorem af5{o:RI}{l:List RI}(re:Stp P o s s1)(hi:Inv s l)(hf:∀x∈l,Far o x):Inv s1 l:=fun x hx d hd=>by
 rw[apx re]
 cases hE:o.isE with
 |true=>rw[(hf x hx).2 hE]at hd;cases hd
 |false=>exact aoy re (hi x hx d hd) (fun⟨w,hw,hm⟩=>(hf x hx).1 w hm ((show d=w by omega)▸hd)) hE
theorem aBw{an:Ann}{ops:Array Oper}{y:RI}{post:List RI}{send:PS}(gy:Good y):∀(pre:List RI) {s:PS} {G:fy} {E:Env} {a:Act} {w:World},j9 B0 w0 nt G0 s G E a w→(∀x∈pre,∃o,Fits P nt an ops o x)→(∀x∈pre,alu x y)→
  Inv s (pre++y::post)→(pre++y::post).Pairwise Far→ags P (pre++y::post) s send→∃s1,Stp P y s s1∧ags P (pre++post) s1 send:=by
 intro pre
 induction pre with
 |nil=>intro s G E a w _ _ _ _ _ hc;exact hc
 |cons x pre ih=>
  intro s G E a w h O3 hap hinv hpw hc;obtain⟨sx,hx,hc⟩:=hc;obtain⟨o,hfx⟩:=O3 x (by simp);obtain⟨G1,E1,a1,w1,h1⟩:=apw h hfx hx;rw[xz,Ek]at hpw;have aDr:Inv sx (pre++y::post):=af5 hx (fun z hz=>hinv z (by simp only[xz,dq];exact .inr hz)) hpw.1;obtain⟨s2,hy,hc2⟩:=ih h1 (fun z hz=>O3 z (by simp[hz])) (fun z hz=>hap z (by simp[hz])) aDr hpw.2 hc;obtain⟨s1',k1,k2⟩:=swap (hap x (by simp)) hfx.aE4 gy h.wf (hinv x (by simp)) (hinv y (by simp)) hx hy;exact⟨s1',k1,s2,k2,hc2⟩
theorem a5n(A:Array Bool)(i j:Nat)(d:Bool):(A.setIfInBounds i true).getD j d=if j=i∧i<A.size then true else A.getD j d:=by
 rw[j8,j8,azv];by_cases h:i=j
 ·subst h;by_cases h2:i<A.size
  ·simp[h2]
  simp[h2]
 simp[h,aL4 h]
theorem Tw{A:Array Bool}{j:Nat}(h:j<A.size)(d d':Bool):A.getD j d=A.getD j d':=by simp[Array.getD,h]
end
section
variable{P:Program}{B0 nt:Nat}{w0 w w':World}{G0 G G':fy}{s s' s1 s2:PS}{E E':Env}{a:Act}
def left(n:Nat)(A:Array Bool):List Nat:=(dn n).filter fun i=> !A.getD i true
theorem mem_left{n i:Nat}{A:Array Bool}:i∈left n A↔i<n∧A.getD i true=false:=by simp[left]
theorem Lu(n:Nat)(A:Array Bool):(left n A).Pairwise (· < ·):=List.Pairwise.filter _ List.pairwise_lt_range
theorem af2{n i:Nat}{A:Array Bool}(hi:i<A.size){pre post:List Nat}(h:left n A=pre++i::post):left n (A.setIfInBounds i true)=pre++post:=by
 have e:left n (A.setIfInBounds i true)=(left n A).filter (fun j=>j !=i):=by
  unfold left;rw[List.filter_filter]
  congr 1
  funext j
  rw[a5n];by_cases hj:j=i
  ·subst hj;simp[hi]
  simp[hj]
 have hs:=Lu n A;rw[h,aac,Ek]at hs;obtain⟨_,⟨h1,_⟩,h2⟩:=hs;rw[e,h,a7a,aaf]
 have e1:pre.filter (fun j=>j !=i)=pre:=a1k.2 fun j hj=>by have:=h2 j hj i (by simp);simp;omega
 have e2:post.filter (fun j=>j !=i)=post:=a1k.2 fun j hj=>by have:=h1 j hj;simp;omega
 simp[e1,e2]
def aur(l:List RI)(A:Array Bool):Prop:=∀i o,A.getD i false=true→l[i]? =some o→∀j∈o.after,A.getD j false=true
theorem ad0{l:List RI}{A:Array Bool}(hc:aur l A):∀(n i:Nat),(∀o,l[i]? =some o→∀j∈o.after,A.getD j false=true)→∀k∈ahead l n i,A.getD k false=true:=by
 intro n
 induction n with
 |zero=>intro i _ k hk;simp[ahead]at hk
 |succ n ih=>
  intro i hi k hk;simp only[ahead]at hk;split at hk
  ·rename_i o ho;rcases jm.1 hk with hk|hk
   ·exact hi o ho k hk
   obtain⟨j,hj,hk⟩:=Ff.1 hk;exact ih j (fun o' ho'=>hc j o' (hi o ho j hj) ho') k hk
  cases hk
theorem ajf{l:List RI}(h:X0 l=true):∀o∈l,o.isR=false:=by
 unfold X0 at h;simp only[cj]at h;intro o ho;have:=cz.1 h.1 o ho;simpa using this
theorem U4{l:List RI}(h:X0 l=true){i:Nat}{o:RI}(hi:l[i]? =some o):(∀j∈o.after,j<i)∧∀k x,k<i→l[k]? =some x→(x.acj o=true∨k∈ahead l l.length i)∧x.far o=true:=by
 have hil:=(aw.1 hi).1;unfold X0 at h;rw[cj]at h;have h:=h.2;rw[cz]at h;have:=h i (ep.2 hil);simp only[hi,cj,cz,ep,decide_eq_true_eq]at this;obtain⟨h1,h2⟩:=this;refine⟨h1,fun k x hk hx=>?_⟩;obtain⟨h3,h4⟩:=h2 k hk;simp only[arh,hx,hi,N2,List.contains_iff_mem]at h3;simp only[cd,hx,hi,j6]at h4;exact⟨h3,h4⟩
theorem apg{an:Ann}{ops:Array Oper}{l:List RI}(hal:Aligned P nt an ops l)(hdr:X0 l=true){Q:Exit→Act→World→Prop}{send:PS}(hQ:∀a w,L0 B0 nt w0 G0 (· =send) a w→Q .normal a w):
  ∀(fuel:Nat) (A:Array Bool) {s:PS} {G:fy} {E:Env} {a:Act} {w:World},A.size=ops.size→aur l A→(left l.length A).length≤fuel→j9 B0 w0 nt G0 s G E a w→
  Inv s ((left l.length A).map fun i=>l.getD i default)→ags P ((left l.length A).map fun i=>l.getD i default) s send→wpAny P .any ops Q fuel A a w:=by
 have hlen:=hal.1
 have get:∀i,i<l.length→l[i]? =some (l.getD i default):=fun i hi=>by simp[cd,hi]
 have O3:∀i,i<l.length→∃o,ops[i]? =some o∧Fits P nt an ops o (l.getD i default):=fun i hi=>by
  have h1:i<ops.size:=by omega
  exact⟨ops[i],bd h1,hal.2 i _ _ (bd h1) (get i hi)⟩
 have rdy:∀(A:Array Bool) i,i∈Hm .any ops A↔i<l.length∧A.getD i true=false∧∀j∈(l.getD i default).after,A.getD j false=true:=by
  intro A i;unfold Hm;simp only[C3,ep,cj,pz];rw[←hlen];constructor
  ·rintro⟨hi,h1,h2⟩;obtain⟨o,ho,hf⟩:=O3 i hi;refine⟨hi,h1,fun j hj=>?_⟩;rw[ho]at h2;simp only[ir,j6,Ki,N2,pz]at h2;rw[hf.spec.2.2.2]at hj;obtain⟨e,he,rfl⟩:=iw.1 hj;obtain⟨he1,he2⟩:=C3.1 he;rcases h2 e (by simpa using he1)with h3|h3
   ·rw[h3]at he2;cases he2
   exact h3
  rintro⟨hi,h1,h2⟩;obtain⟨o,ho,hf⟩:=O3 i hi;refine⟨hi,h1,?_⟩;rw[ho];simp only[ir,j6,Ki,N2,pz];intro e he;by_cases hb:aIw .any e=true
  ·exact .inr (h2 e.on (by rw[hf.spec.2.2.2];exact iw.2 ⟨e,C3.2 ⟨by simpa using he,hb⟩,rfl⟩))
  exact .inl (by simpa using hb)
 have hpw:∀A:Array Bool,((left l.length A).map fun i=>l.getD i default).Pairwise Far:=by
  intro A;rw[List.pairwise_map];refine(Lu l.length A).imp_of_mem fun{k i} hk hi hlt=>?_;have h1:=(mem_left.1 hk).1;have h2:=(mem_left.1 hi).1;have:=((U4 hdr (get i h2)).2 k _ hlt (get k h1)).2;unfold RI.far at this;simp only[cj,cz,pz,aJ4,decide_eq_false_iff_not,N2,List.isEmpty_iff]at this;exact⟨this.1,fun he=>this.2.resolve_left (by rw[he];simp)⟩
 have none:∀A:Array Bool,A.size=ops.size→Hm .any ops A=[]→left l.length A=[]:=by
  intro A hA hr
  cases hL:left l.length A with
  |nil=>rfl
  |cons i r=>
   exfalso;have hi:=(mem_left (n:=l.length) (A:=A) (i:=i)).1 (by rw[hL];simp)
   have:i∈Hm .any ops A:=(rdy A i).2 ⟨hi.1,hi.2,fun j hj=>by
    have hji:=(U4 hdr (get i hi.1)).1 j hj
    have aB9:j∉left l.length A:=by
     rw[hL];intro hjm;have hs:=Lu l.length A;rw[hL,Ek]at hs;rcases dq.1 hjm with rfl|hjm
     ·omega
     have:=hs.1 j hjm;omega
    have:A.getD j true≠false:=fun h=>aB9 (mem_left.2 ⟨by omega,h⟩);rw[Tw (by omega) false true]
    simpa using this⟩
   rw[hr]at this;cases this
 intro fuel
 induction fuel with
 |zero=>
  intro A s G E a w hA hcl hf h hinv hc;have hL:left l.length A=[]:=ix (by omega)
  have hr:Hm .any ops A=[]:=by
   apply av6.2;intro i hi;obtain⟨h1,h2,_⟩:=(rdy A i).1 hi;have:i∈left l.length A:=mem_left.2 ⟨h1,h2⟩;rw[hL]at this;cases this
  rw[hL]at hc;exact⟨hr,hQ _ _ ⟨s,G,E,hc,h⟩⟩
 |succ fuel ih=>
  intro A s G E a w hA hcl hf h hinv hc;refine⟨fun hr=>?_,fun i hi=>?_⟩
  ·rw[none A hA hr]at hc;exact hQ _ _ ⟨s,G,E,hc,h⟩
  obtain⟨h1,h2,h3⟩:=(rdy A i).1 hi;obtain⟨pre,post,hL⟩:=a7b (mem_left.2 ⟨h1,h2⟩);obtain⟨o,ho,hfi⟩:=O3 i h1;have hs:=Lu l.length A;rw[hL,aac]at hs
  have aDd:∀k∈pre,k<i∧k<l.length∧A.getD k true=false:=fun k hk=>by
   have hm:=(mem_left (n:=l.length) (A:=A) (i:=k)).1 (by rw[hL];simp[hk]);exact⟨hs.2.2 k hk i (by simp),hm.1,hm.2⟩
  have hap:∀x∈pre.map (fun i=>l.getD i default),alu x (l.getD i default):=by
   intro x hx;obtain⟨k,hk,rfl⟩:=iw.1 hx;obtain⟨k1,k2,k3⟩:=aDd k hk;rcases((U4 hdr (get i h1)).2 k _ k1 (get k k2)).1 with aDz|hah
   ·exact RI.aci aDz
   exfalso
   have:=ad0 hcl l.length i (fun o' ho' j hj=>by
    rw[get i h1]at ho'
    injection ho' with ho'
    subst ho'
    exact h3 j hj) k hah
   rw[Tw (by omega) false true,k3]at this;cases this
  have axl:=hpw A;rw[hL,fu,gf]at hinv hc axl
  obtain⟨s1,re,hc1⟩:=aBw (an:=an) (ops:=ops) hfi.aE4 (pre.map fun i=>l.getD i default) h (fun x hx=>by
   obtain⟨k,hk,rfl⟩:=iw.1 hx;obtain⟨o',_,hf'⟩:=O3 k (aDd k hk).2.1
   exact⟨o',hf'⟩) hap hinv axl hc
  refine aA2 h hfi ho re ?_;rintro a' w' ⟨s',G',E',rfl,h'⟩;have hL':=af2 (by omega) hL;refine ih _ (by simpa using hA) ?_ (by rw[hL'];rw[hL]at hf;simp at hf⊢;omega) h' ?_ ?_
  ·intro j oj hj hoj m hm;rw[a5n]at hj⊢;split
   ·rfl
   by_cases hji:j=i
   ·subst hji;rw[get j h1]at hoj
    injection hoj with hoj
    subst hoj;exact h3 m hm
   rw[al (by simp[hji])]at hj;exact hcl j oj hj hoj m hm
  ·rw[hL',fu];rw[aac,Ek]at axl;refine af5 re (fun x hx=>hinv x ?_) (fun x hx=>?_)
   ·rcases jm.1 hx with hx|hx
    ·exact aae _ hx
    exact V3 _ (aad _ hx)
   rcases jm.1 hx with hx|hx
   ·exact⟨(hap x hx).aGz,(hap x hx).aE8⟩
   exact axl.2.1.1 x hx
  rw[hL',fu];exact hc1
theorem aje{an:Ann}{ops:Array Oper}{l:List RI}(hal:Aligned P nt an ops l)(hdr:X0 l=true)(hm:P.follows .mixedOrders=true){Q:Exit→Act→World→Prop}{K:PS→Prop}(h:j9 B0 w0 nt G0 s G E a w)
  (hd:∀d∈pt l,K3 s (s.base+d))(hr:l5 P l s K)(hQ:∀a w,L0 B0 nt w0 G0 K a w→Q .normal a w){id:Nat}:(aKg id ops true).wp P Q a w:=by
 obtain⟨send,hc,hK⟩:=ahq (ajf hdr) hr
 have hL:left l.length (N3 ops.size false)=dn l.length:=by
  unfold left;refine a1k.2 fun i hi=>?_;have:=ep.1 hi;rw[j8,W4,bm (by rw[←hal.1];exact this)];rfl
 refine wp_region_any hm (apg hal hdr (send:=send) (fun a w ⟨s',G',E',hs,h'⟩=>hQ a w ⟨s',G',E',hs▸hK,h'⟩) _ _ (by simp) ?_ ?_ (w:={w with drawn:=w.drawn+1}) (s:=s) (G:=G) (E:=E) ?_ ?_ ?_)
 ·intro i o hi _;rw[j8,W4]at hi;split at hi<;>cases hi
 ·rw[hL];simp[hal.1]
 ·exact h.drew
 ·rw[hL,Vs];exact fun o ho d hdd=>hd d (Ff.2 ⟨o,ho,hdd⟩)
 rw[hL,Vs];exact hc
end
end Go.PI
