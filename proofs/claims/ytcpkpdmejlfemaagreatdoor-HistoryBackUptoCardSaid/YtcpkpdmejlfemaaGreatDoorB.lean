/- A part of the proof for HistoryBack: PS11 to PS24. Printed from longer texts. -/
import Derived.Test.YtcpkpdmejlfemaaGreatDoorA
import Derived.MapKept
set_option linter.all false
set_option maxHeartbeats 64000000
open And renaming intro→aGv
open Array renaming getD_eq_getD_getElem?→jo,getElem?_append→F7,getElem?_append_left→yc,getElem?_append_right→a01,getElem?_eq_getElem→av,getElem?_eq_some_iff→j4,getElem?_map→Uc,getElem?_modify→Bi,getElem?_push→Yq,getElem?_range→aqb,getElem?_setIfInBounds→av4,getElem?_setIfInBounds_ne→T8,getElem?_setIfInBounds_self→Qd,getElem?_toList→aEm,getElem_toList→a6g,length_toList→rh,range→aGk,size_append→T7
open Bool renaming and_eq_true→cd,false_eq_true→ec,not_eq_true'→wg,or_eq_true→Zk
open Go.Builtin renaming append_→vq,clear_→axv,firstCells→ju,len_→aG4,nextslicecap→aEz,zeroCells→jm
open Go.Code renaming region→aG8
open Go.Deferred renaming ofValue→av3
open Go.Instr renaming alloc→aG7,build→aG6,buildSlice→a6d,checkKey→ai2,entryStore→aE6,extract→aFa,findAsking→av2,findNow→aE5,keyThatStays→ai1,lookup→aGb,makeFunc→aFn,mapEntry→aFm,mapUpdate→aqa,sameBits→ai0,sameNow→aE3,slice→aGa,sliceAt→xf,sliceBound→T6,sliceBounds→o8,storeAt→aAr
open Go.IntKind renaming i64→kc
open Go.Next renaming value→ahs
open Go.Op renaming equal→aEo,maxDepth→aGd
open Go.Oper renaming upon_enter→aEn,wp→aH0
open Go.Program renaming cellsOf→aAn
open Go.Region renaming binds→aFc,wanted→aF1
open Go.Result renaming andThen_ok→aw
open Go.Sem renaming run_bind→ba,run_pure→dc
open Go.Value renaming slice→aGc
open Go.World renaming cell?→aG5
open Int renaming mul_le_mul_of_nonneg_left→W2
open List renaming all_cons→Sl,all_eq_true→ck,cons_append→vp,contains_eq_mem→aEv,drop_drop→ahw,eq_nil_of_length_eq_zero→jb,ext_getElem?→a99,getD→bn,getElem?_append_left→jr,getElem?_append_right→jy,getElem?_cons_zero→ff,getElem?_drop→lv,getElem?_eq_getElem→ao,getElem?_eq_none→a2z,getElem?_eq_some_iff→aq,getElem?_map→bp,getElem?_range→Jx,getElem?_replicate→O6,getElem?_set→pv,getElem?_take→j0,getElem?_toArray→xq,getElem_mem→bz,length→Cq,length_append→cb,length_cons→bq,length_drop→qn,length_flatten→aF4,length_map→ae,length_nil→dh,length_replicate→aEk,length_take→dd,length_take_le'→aq8,map→aGz,map_congr_left→Mv,map_cons→cu,map_drop→av0,map_take→J7,mem_append→oo,mem_append_left→a68,mem_cons→dn,mem_flatMap→M9,mem_iff_getElem→fj,mem_map→jc,mem_range→du,mem_singleton→Ua,not_mem_nil→jg,pairwise_cons→M8,range→cq,range'→ag6,range'_succ→aDz,range_eq_range'→aEs,replicate→gu,set_append_right→a2x,size_toArray→T5,sum_replicate_nat→aDy,take_zero→F8
open List.cons renaming injEq→a6a
open Nat renaming add_assoc→p8,add_mul→iw,add_zero→xu,eq_zero_or_pos→a34,le_of_eq→aFf,le_refl→ar,le_trans→gn,mod_eq_of_lt→a63,mod_lt→a30,mul_comm→aFx,mul_eq_zero→aEp,mul_le_mul_right→ep,not_lt→aGp,one_mul→zn,sub_zero→S8,zero_add→eh,zero_mul→aht
open Ne renaming symm→aGr
open Option renaming bind_eq_some_iff→acy,bind_some→a62,getD_some→j3,isSome_iff_exists→jl,map_eq_some_iff→ak,map_some→gz,toList_some→ahq
open Option.some renaming injEq→ah
open Prod.mk renaming injEq→ay
namespace Go.PI
open Go Go.RowKit
section
variable{P:Program}{B0 nt:Nat}{w0 w w':World}{G0 G G':fc}{s s':PS}{E E':Env}{a:Act}
theorem PS.Zo:∀(ids:List Nat) (s:PS),(s.sn ids).ver=s.ver:=by
 intro ids
 induction ids with
 |nil=>intro s;rfl
 |cons i r ih=>intro s;rw[PS.Jo,ih];rfl
theorem apn(h:i6 B0 w0 nt G0 s G E a w){t e:TypeId}{n sz:Nat}{z:List D}{ps:Array (Nat×Operand)}{qs:List (Nat×Nat×lb)}(hu:P.underlying t=some (.slice e))(C3:ji P e=some sz)(hz:Dk P e=some z)
  (hn:n*sz≤2^20)(hzl:z.length=sz)(h0:0<sz)(hq:O1 sz ps.toList=some qs){pd:List (Nat×Nat×List D)}{V7:List Nat}{ds:List D}(hp:Lp s qs=some (pd,V7))(hf:R5 (gu n z).flatten pd=some ds):
  ∃G' vs,G.le G'∧i6 B0 w0 nt G0 (s.sn V7) G' E a w∧Holds G' E (s.sn V7) vs (.arr sz (chunks sz n ds))∧vs.size=n*sz∧(chunks sz n ds).length=n∧
   (a6d t n (ps.map fun(p:Nat×Operand)=>(p.1,a.eval p.2))).run P w= .ok (.slice (some ⟨w.heap.size,0,none⟩) n n) (w.alloc (.cells vs e)):=by
 obtain⟨G',hle,h',hg⟩:=h.sn V7;obtain⟨q1,q2⟩:=R7 hq
 obtain⟨r1,r2⟩:=ae1 h hle q1 (fun i p q hp hq=>(q2 i p q hp hq).2) hp hg
 obtain⟨zv,hzv,hzr,hzc⟩:=Dj hz h'
 have hzs:zv.cells.size=sz:=by have:=hzc.1;simp at this;omega
 have hzero:Lb G' E (s.sn V7) (((gu n z).flatten).map .d) ((aGk (n*sz)).map ((if n*sz=0 then(#[]:Array Value)else zv.cells)[· %(if n*sz=0 then(#[]:Array Value)else zv.cells).size]!)):=by
  by_cases hn0:n*sz=0
  ·have hn':n=0:=by
    rcases aEp.1 hn0 with h|h
    ·exact h
    ·omega
   subst hn';simp[Lb]
  ·rw[if_neg hn0]
   have:=a4j h' hzc (n:=n) (by omega)
   rw[hzl]at this;exact this
 have az3:∀{cs:List D} {us:Array Value},Lb G' E s (cs.map .d) us→Lb G' E (s.sn V7) (cs.map .d) us:=by
  intro cs us hr
  refine⟨hr.1,fun i c u hc hu=>?_⟩
  have:=hr.2 i c u hc hu;simp only[bp,ak]at hc;obtain⟨x,_,rfl⟩:=hc;exact this
 obtain⟨vs,hv1,hv2⟩:=Vn (G:=G') (E:=E) (s:=s.sn V7) (place:=fun i=>some (i*sz,sz)) (ev:=a.eval) (l:=ps.toList) (ps:=pd.map fun p=>(p.1,p.2.1,p.2.2.map .d)) (by simpa using r1) (fun i p q hp hq=>by
  simp only[bp,ak]at hq;obtain⟨q',hq',rfl⟩:=hq
  have hil:i<qs.length:=by have:=(aq.1 hp).1;omega
  have hq0:qs[i]? =some qs[i]:=ao hil;obtain⟨k1,k2,k3⟩:=r2 i p _ q' hp hq0 hq';obtain⟨⟨m1,m2⟩,_⟩:=q2 i p _ hp hq0
  exact⟨by simp[k1,k2,m1,←m2],az3 k3⟩) (atk hf) hzero
 have hlen:=a8c hf;simp only[aF4,List.map_replicate,aDy,hzl]at hlen
 have hdl:ds.length=n*sz:=by simpa using hlen
 obtain⟨c1,c2⟩:=a2i sz n ds hdl
 have hvs:vs.size=n*sz:=by have:=hv2.1;simp at this;omega
 refine⟨G',vs,hle,h',⟨by rw[c1,hvs];exact ar _,fun i e hi=>(c2 i e hi).1,fun i e j x u hi hj hu=>?_⟩,hvs,c1,?_⟩
 ·obtain⟨k1,k2⟩:=c2 i e hi
  have hjl:j<sz:=by have:=(aq.1 hj).1;omega
  rw[k2 j hjl]at hj
  exact hv2.2 (i*sz+j) (.d x) u (by simp[hj]) hu
 ·unfold a6d
  simp only[ba,underlying,run_program,aw,hu,dc,pt C3]
  rw[if_neg (by omega)]
  have hps:(ps.map fun(p:Nat×Operand)=>(p.1,a.eval p.2)).toList=ps.toList.map fun p=>(p.1,a.eval p.2):=by simp
  by_cases hn0:n*sz=0
  ·rw[if_pos hn0]
   simp only[if_pos hn0]at hv1;simp only[ba,dc,aw,hps,hv1];rfl
  ·rw[if_neg hn0]
   simp only[if_neg hn0]at hv1;simp only[ba,hzr,dc,aw,hps,hv1];rfl
theorem i6.fixed(h:i6 B0 w0 nt G0 s G E a w){sz n:Nat}{els:List (List D)}{vs:Array Value}(et:TypeId)(hh:Holds G E s vs (.arr sz els))(hl:els.length=n):
  ∃G',G.le G'∧i6 B0 w0 nt G0 s G' E a (w.alloc (.cells vs et))∧fh G' (.dt sz els) (.slice (some ⟨w.heap.size,0,none⟩) n n):=by
 let G':fc:={cv:=fun b o=>if b=w.heap.size then vs[o]? else G.cv b o,mv:=G.mv}
 have aC3:∀o,(w.alloc (.cells vs et)).cell? ⟨w.heap.size,o,none⟩=vs[o]? :=fun o=>by
  unfold aG5;simp only[Jc];rfl
 have hle:G.le G':=⟨fun b o v hc=>by
  have:=h.gok.lt hc
  show(if b=w.heap.size then vs[o]? else G.cv b o)=_
  rw[if_neg (by omega)];exact hc,fun _ _ h=>h⟩
 have hb:Bel w.heap.size w (w.alloc (.cells vs et)):=(Bel.refl _ _).alloc (ar _) _
 have hok:GOk G' (w.alloc (.cells vs et)):=by
  refine⟨fun b o v hc=>?_,fun b es hc=>?_⟩
  ·change(if b=w.heap.size then vs[o]? else G.cv b o)=some v at hc
   split at hc
   ·rename_i e;subst e;rw[aC3];exact hc
   ·exact(hb.cell (p:=⟨b,o,none⟩) (h.gok.lt hc)).trans (h.gok.cv b o v hc)
  ·obtain⟨ents,clock,h1,h2⟩:=h.gok.mv b es hc
   exact⟨ents,clock,(hb.block b (h.gok.ltm hc)).trans h1,h2⟩
 refine⟨G',hle,h.U8 hb hle hok (fun b o iy=>?_) (fun _ _=>rfl),?_⟩
 ·show(if b=w.heap.size then vs[o]? else G.cv b o)=_
  rw[if_neg (by omega)]
 ·have k:=fh.dt (G:=G') (sz:=sz) (l:=els) (b:=w.heap.size) (o:=0) (c:=n) (by omega) hh.2.1 (fun i j hi hj=>?_) (fun i e j x v hi hj hv=>?_)
  ·rw[hl]at k;exact k
  ·show(if w.heap.size=w.heap.size then vs[0+i*sz+j]? else _).isSome
   rw[if_pos rfl,eh];have h1:=hh.1;have:(i+1)*sz≤els.length*sz:=ep _ hi;rw[iw,zn]at this
   rw[av (by omega)]
   rfl
  ·change(if w.heap.size=w.heap.size then vs[0+i*sz+j]? else _)=some v at hv
   rw[if_pos rfl,eh]at hv;exact(hh.2.2 i e j x v hi hj hv).mono hle
theorem afx(h:i6 B0 w0 nt G0 s G E a w){t e:TypeId}{n sz:Nat}{z:List D}{ps:Array (Nat×Operand)}{qs:List (Nat×Nat×lb)}(hu:P.underlying t=some (.slice e))(C3:ji P e=some sz)(hz:Dk P e=some z)
  (hn:n*sz≤2^20)(hzl:z.length=sz)(h0:0<sz)(hq:O1 sz ps.toList=some qs){d:Nat}{dst:Option Nat}{ids:List Nat}{ef:kn}{im:Bool}(he:(j6.xi im n sz z qs).ml d s=some (ids,ef)):
  po P B0 nt w0 G0 a w dst (((a6d t n (ps.map fun(p:Nat×Operand)=>(p.1,a.eval p.2))).run P w).andThen fun v w=> .ok (.value v) w) (ef.app dst (s.sn ids)):=by
 simp only[j6.ml]at he;split at he
 ·rename_i pd V7 hp
  split at he
  ·rename_i ds hf
   obtain⟨G',vs,hle,h',hh,hvs,c1,run⟩:=apn h hu C3 hz hn hzl h0 hq hp hf;split at he
   ·simp only[kn.qj,ah,ay]at he
    obtain⟨rfl,rfl⟩:=he;rw[run];obtain⟨G2,az7,h2,hr⟩:=h'.fixed e hh c1;exact⟨_,_,_,G2,_,_,.d (.dt sz (chunks sz n ds)),rfl,.inl rfl,h2,hr,rfl⟩
   ·cases he
   ·simp only[ah,ay]at he
    obtain⟨rfl,rfl⟩:=he;have hf':=h'.new d _ vs e hh;rw[run];refine⟨_,_,_,G',_,_,.ref d (s.ver d+1) n,rfl,.inl rfl,hf',?_,rfl⟩
    have:=yu (G':=G') (s':={s.sn V7 with bm:=jf (s.sn V7).bm d (some (.arr sz (chunks sz n ds))),ver:=jf (s.sn V7).ver d ((s.sn V7).ver d+1)})
     (E':={E with b:=jf E.b d w.heap.size,n:=jf E.n d vs.size}) (id:=d) (sz:=sz) (n:=(chunks sz n ds).length) (len:=n) (cap:=n) (g:=w.heap.size) (bh _ _ _) rfl (bh _ _ _) (by
      show jf E.n d _ d=_
      rw[bh,hvs]) c1 (ar _)
    have hv:jf (s.sn V7).ver d ((s.sn V7).ver d+1) d=s.ver d+1:=by rw[bh,PS.Zo]
    simpa[hv]using this
  ·cases he
 ·cases he
theorem Eu{k:IntKind}{i:Int}{y:Nat}(h0:0≤i)(h1:i≤y)(c:BoundsCode)(w:World):(T6 (.int k i) y c).run P w= .ok i.toNat w:=by
 unfold T6;simp only[ba,P2,aw,if_pos (aGv h0 h1),dc]
theorem a9s(h:i6 B0 w0 nt G0 s G E a w){t e:TypeId}{n:Nat}{x:lb}{lo hi:Option lb}{vx:Value}{vlo vhi:Option Value}(hu:P.underlying t=some (.slice e))(hn:ji P e=some n)
  (hx:fm G E s (x.ev s) vx)(hlo:(lo=none∧vlo=none)∨∃o v,lo=some o∧vlo=some v∧fm G E s (o.ev s) v)(hhi:(hi=none∧vhi=none)∨∃o v,hi=some o∧vhi=some v∧fm G E s (o.ev s) v)
  {d:Nat}{ids:List Nat}{ef:kn}(he:(j6.slice n x lo hi).ml d s=some (ids,ef)):
  ∃u y,(xf t vx vlo vhi none).run P w= .ok u w∧ids=[]∧ef= .val y∧fm G E s y u:=by
 simp only[j6.ml]at he;split at he
 ·rename_i sz l io hxe hio
  rw[hxe]at hx;split at he
  ·rename_i j hj
   split at he
   ·rename_i hc
    simp only[kn.qj,ah,ay]at he;obtain⟨rfl,rfl⟩:=he;obtain⟨rfl,hij,hjl⟩:=hc
    have key:∀(b:Option Addr) (cap:Nat),vx= .slice b l.length cap→l.length≤cap→(xf t vx vlo vhi none).run P w= .ok (.slice (if cap=io.getD 0 then b else b.map (·.add (io.getD 0*sz))) (j-io.getD 0) (cap-io.getD 0)) w:=by
     intro b cap hv abg;subst hv
     have hb:(o8 true l.length cap vlo vhi none).run P w= .ok (io.getD 0,j,cap) w:=by
      unfold o8
      have hh:(vhi=none∧j=l.length)∨∃v,vhi=some v∧∀c,(T6 v cap c).run P w= .ok j w:=by
       rcases hhi with ⟨rfl,rfl⟩|⟨o,v,rfl,rfl,hv⟩
       ·simp only[Oh,ah]at hj
        exact .inl ⟨rfl,hj.symm⟩
       ·simp only[Oh]at hj
        split at hj
        ·rename_i k q hq
         rw[hq]at hv;cases hv;split at hj
         ·rename_i h0
          injection hj with hj
          subst hj
          exact .inr ⟨_,rfl,fun c=>Eu h0 (by omega) c w⟩
         ·cases hj
        ·cases hj
      have hl:(vlo=none∧io.getD 0=0)∨∃v,vlo=some v∧∀c,(T6 v j c).run P w= .ok (io.getD 0) w:=by
       rcases hlo with ⟨rfl,rfl⟩|⟨o,v,rfl,rfl,hv⟩
       ·simp only[S9,ah]at hio
        subst hio;exact .inl ⟨rfl,rfl⟩
       ·simp only[S9]at hio
        split at hio
        ·rename_i k q hq
         rw[hq]at hv;cases hv;split at hio
         ·rename_i h0
          injection hio with hio
          subst hio
          exact .inr ⟨_,rfl,fun c=>Eu h0 (by simp at hij;omega) c w⟩
         ·cases hio
        ·cases hio
      rcases hh with ⟨rfl,rfl⟩|⟨v1,rfl,e1⟩<;>rcases hl with ⟨rfl,e0⟩|⟨v2,rfl,e2⟩
      ·simp[ba,e0]
      ·simp[ba,e2]
      ·simp[ba,e1,e0]
      ·simp[ba,e1,e2]
     unfold xf;simp only[ba,underlying,run_program,aw,hu,dc];unfold aGa;simp only[ba,underlying,run_program,aw,hu,dc,hb,pt hn]
    have len:((l.take j).drop (io.getD 0)).length=j-io.getD 0:=by simp;omega
    have get:∀i e,((l.take j).drop (io.getD 0))[i]? =some e→l[io.getD 0+i]? =some e∧i<j-io.getD 0:=by
     intro i e hi;have:=(aq.1 hi).1;rw[lv,j0]at hi;split at hi
     ·exact⟨hi,by omega⟩
     ·cases hi
    cases hx with
    |Tb=>
     have hj0:j=0:=by simpa using hjl
     subst hj0
     have hi0:io.getD 0=0:=by omega
     refine⟨_,_,key none 0 rfl (by simp),rfl,rfl,?_⟩
     rw[hi0];exact fh.Tb
    | @Uk _ a c=>
     have hj0:j=0:=by simpa using hjl
     subst hj0
     have hi0:io.getD 0=0:=by omega
     refine⟨_,_,key (some a) c rfl (by simp),rfl,rfl,?_⟩
     rw[hi0];split<;>exact fh.Uk
    | @dt _ _ b o c hc hs k1 k2=>
     refine⟨_,_,key (some ⟨b,o,none⟩) c rfl hc,rfl,rfl,?_⟩;by_cases hci:c=io.getD 0
     ·have he':(l.take j).drop (io.getD 0)=[]:=jb (by rw[len];omega)
      rw[if_pos hci,he']
      have:j-io.getD 0=0:=by omega
      rw[this]
      exact fh.dt (l:=[]) (by simp) (by simp) (by simp) (by simp)
     ·rw[if_neg hci]
      simp only[gz,Cl];rw[←len]
      refine fh.dt (by rw[len];omega) (fun i e hi=>hs _ e (get i e hi).1) (fun i q hi hq=>?_) (fun i e q x v hi hx hv=>?_)
      ·have:=k1 (io.getD 0+i) q (by omega) hq
       rw[iw,←p8]at this;exact this
      ·refine k2 (io.getD 0+i) e q x v (get i e hi).1 hx ?_
       rw[iw,←p8];exact hv
   ·cases he
  ·cases he
 ·rename_i io hxe hio
  rw[hxe]at hx;cases hx;split at he
  ·rename_i j hj
   split at he
   ·rename_i hc
    simp only[kn.qj,ah,ay]at he;obtain⟨rfl,rfl⟩:=he;obtain⟨hi0,rfl⟩:=hc
    have hb:(o8 true 0 0 vlo vhi none).run P w= .ok (0,0,0) w:=by
     unfold o8
     have hh:(vhi=none)∨∃v,vhi=some v∧∀c,(T6 v 0 c).run P w= .ok 0 w:=by
      rcases hhi with ⟨rfl,rfl⟩|⟨o,v,rfl,rfl,hv⟩
      ·exact .inl rfl
      ·simp only[Oh]at hj
       split at hj
       ·rename_i k q hq
        rw[hq]at hv;cases hv;split at hj
        ·rename_i h0
         simp only[ah]at hj
         refine .inr ⟨_,rfl,fun c=>?_⟩
         have:=Eu (P:=P) (k:=k) h0 (y:=0) (by omega) c w
         rwa[hj]at this
        ·cases hj
       ·cases hj
     have hl:(vlo=none)∨∃v,vlo=some v∧∀c,(T6 v 0 c).run P w= .ok 0 w:=by
      rcases hlo with ⟨rfl,rfl⟩|⟨o,v,rfl,rfl,hv⟩
      ·exact .inl rfl
      ·simp only[S9]at hio
       split at hio
       ·rename_i k q hq
        rw[hq]at hv;cases hv;split at hio
        ·rename_i h0
         simp only[ah]at hio;subst hio;simp only[j3]at hi0
         refine .inr ⟨_,rfl,fun c=>?_⟩
         have:=Eu (P:=P) (k:=k) h0 (y:=0) (by omega) c w
         rwa[hi0]at this
        ·cases hio
       ·cases hio
     rcases hh with rfl|⟨v1,rfl,e1⟩<;>rcases hl with rfl|⟨v2,rfl,e2⟩
     ·simp[ba]
     ·simp[ba,e2]
     ·simp[ba,e1]
     ·simp[ba,e1,e2]
    refine⟨.slice none 0 0,.d .bd,?_,rfl,rfl,fh.bd⟩;unfold xf;simp only[ba,underlying,run_program,aw,hu,dc];unfold aGa;simp only[ba,underlying,run_program,aw,hu,dc,hb,pt hn];rfl
   ·cases he
  ·cases he
 ·cases he
theorem i6.atr(h:i6 B0 w0 nt G0 s G E a w){id sz n j m:Nat}{b b':B}(hb:s.bm id=some b)(hd:b.Bg=some (sz,n))(hd':b'.Bg=some (sz,j))(hmn:m≤E.n id)(hh:∀cells,Holds G E s cells b→Holds G E s cells b'):
  i6 B0 w0 nt G0 {s with bm:=jf s.bm id (some b'),ver:=jf s.ver id (s.ver id+1)} G {E with n:=jf E.n id m} a w:=by
 have kg:∀i,jf s.ver id (s.ver id+1) i=s.ver i→i≠id:=by
  intro i hi e;subst e;rw[bh]at hi;omega
 have hm:Fs E {E with n:=jf E.n id m} s {s with bm:=jf s.bm id (some b'),ver:=jf s.ver id (s.ver id+1)}:=by
  refine⟨fun i=>?_,fun i sz n' hv ow=>?_,fun i b1 hv ow hva=>?_,fun i hv hp=>⟨hp,rfl⟩⟩
  ·show _≤jf s.ver id (s.ver id+1) i
   by_cases e:i=id
   ·subst e;rw[bh];omega
   ·rw[er _ _ _ _ e];exact ar _
  ·have e:=kg i hv
   simp only[PS.Bg,er _ _ _ _ e]at ow
   exact⟨n',ow,ar _,fun _=>⟨rfl,er _ _ _ _ e⟩⟩
  ·have e:=kg i hv
   simp only[er _ _ _ _ e]at ow;exact⟨⟨b1,ow,hva⟩,rfl⟩
 refine⟨h.size,h.defers,h.base,h.below,h.gok,h.gle,h.Gk,fun t=>fm.move (fc.le_refl _) hm (h.tmp t),fun i b1 ow=>?_,fun i k bi bk hi hk hik=>?_,fun i es hi=>?_,h.Oi,fun p=>fm.move (fc.le_refl _) hm (h.ctx p)⟩
 ·by_cases e:i=id
  ·subst e
   simp only[bh,ah]at ow;subst ow;obtain⟨k1,k2,cells,et,k3,k4,k5⟩:=h.bm i _ hb
   have k5':Holds G E s cells b:=by cases b<;>exact k5
   have k6:=(hh cells k5').move (fc.le_refl G) hm;unfold Q3;simp only[bh]
   refine⟨k1,k2,cells,et,k3,by omega,?_⟩
   cases b'<;>exact k6
  ·simp only[er _ _ _ _ e]at ow
   have k:=h.bm i _ ow;exact k.move (fc.le_refl _) hm rfl k.2.1 rfl (er _ _ _ _ e)
 ·have un:∀i bi,jf s.bm id (some b') i=some bi→∃b2,s.bm i=some b2:=by
   intro i bi hi;by_cases e:i=id
   ·subst e;exact⟨_,hb⟩
   ·rw[er _ _ _ _ e]at hi;exact⟨bi,hi⟩
  obtain⟨b2,h2⟩:=un i bi hi;obtain⟨b3,h3⟩:=un k bk hk;exact h.inj i k b2 b3 h2 h3 hik
 ·obtain⟨h1,h2,ents,clock,h3,h4,h5,h6⟩:=h.mp i es hi
  exact⟨h1,h2,ents,clock,h3,h4,fun i e x hx hy=>⟨(h5 i e x hx hy).1,fm.Bv (fc.le_refl _) hm (h5 i e x hx hy).2⟩,h6⟩
theorem Holds.take{cells:Array Value}{sz j:Nat}{els:List (List D)}(h:Holds G E s cells (.arr sz els)):Holds G E s cells (.arr sz (els.take j)):=by
 obtain⟨k5,k6,k7⟩:=h
 refine⟨?_,fun q e hq=>?_,fun q e p x u hq hp hu=>?_⟩
 ·have:(els.take j).length*sz≤els.length*sz:=ep _ (aq8 _ _)
  omega
 ·rw[j0]at hq
  split at hq
  ·exact k6 q e hq
  ·cases hq
 ·rw[j0]at hq
  split at hq
  ·exact k7 q e p x u hq hp hu
  ·cases hq
theorem Holds.ay3{cells:Array Value}{sz j:Nat}{els:List (List C)}(h:Holds G E s cells (.ny sz els)):Holds G E s cells (.ny sz (els.take j)):=by
 obtain⟨k5,k6,k7⟩:=h
 refine⟨?_,fun q e hq=>?_,fun q e p x u hq hp hu=>?_⟩
 ·have:(els.take j).length*sz≤els.length*sz:=ep _ (aq8 _ _)
  omega
 ·rw[j0]at hq
  split at hq
  ·exact k6 q e hq
  ·cases hq
 ·rw[j0]at hq
  split at hq
  ·exact k7 q e p x u hq hp hu
  ·cases hq
theorem Fy{t e:TypeId}{n:Nat}(hu:P.underlying t=some (.slice e))(hn:ji P e=some n){k k':IntKind}{j:Int}(h0:0≤j){b:Option Addr}{len cap:Nat}(hc:j.toNat≤cap):
  (xf t (.slice b len cap) none (some (.int k j)) (some (.int k' j))).run P w= .ok (.slice (if j.toNat=0 then b else b.map (·.add 0)) j.toNat j.toNat) w:=by
 have hb:(o8 true len cap none (some (.int k j)) (some (.int k' j))).run P w= .ok (0,j.toNat,j.toNat) w:=by
  unfold o8
  simp only[ba,Eu h0 (show j≤(cap:Nat)by omega),aw,Eu h0 (show j≤(j.toNat:Nat)by omega),dc]
 unfold xf;simp only[ba,underlying,run_program,aw,hu,dc];unfold aGa;simp only[ba,underlying,run_program,aw,hu,dc,hb,pt hn,aht,S8]
theorem a6l(h:i6 B0 w0 nt G0 s G E a w){t e:TypeId}{n:Nat}{x j k:lb}{vx vj vk:Value}(hu:P.underlying t=some (.slice e))(hn:ji P e=some n)
  (hx:fm G E s (x.ev s) vx)(hj:fm G E s (j.ev s) vj)(hk:fm G E s (k.ev s) vk){d:Nat}{dst:Option Nat}{ids:List Nat}{ef:kn}(he:(j6.slice3 n x j k).ml d s=some (ids,ef)):
  po P B0 nt w0 G0 a w dst (((xf t vx none (some vj) (some vk)).run P w).andThen fun v w=> .ok (.value v) w) (ef.app dst (s.sn ids)):=by
 simp only[j6.ml]at he;split at he
 ·rename_i ka p kb q e2 e3
  rw[e2]at hj;rw[e3]at hk;cases hj;cases hk;split at he
  ·rename_i hpq
   obtain⟨rfl,h0⟩:=hpq;generalize x.ev s=y at he hx
   cases y with
   |d z=>
    cases z with
    |dt sz l=>
     simp only[Q0]at he;split at he
     ·rename_i hc
      obtain⟨rfl,hl⟩:=hc;simp only[kn.qj,ah,ay]at he;obtain⟨rfl,rfl⟩:=he
      cases hx with
      |Tb=>
       rw[Fy hu hn h0 (by simp at hl;omega)]
       have hp:p.toNat=0:=by simp at hl;omega
       rw[hp];simp only[ne_eq,not_true_eq_false,and_false,if_false,reduceIte,F8];exact po.val h rfl fh.Tb
      | @Uk _ a c=>
       rw[Fy hu hn h0 (by simp at hl;omega)]
       have hp:p.toNat=0:=by simp at hl;omega
       rw[hp];simp only[ne_eq,not_true_eq_false,and_false,if_false,reduceIte,F8];exact po.val h rfl fh.Uk
      | @dt _ _ b o c hc hs k1 k2=>
       rw[Fy hu hn h0 (by omega)]
       by_cases hp:p.toNat=0∧l≠[]
       ·rw[if_pos hp,hp.1]
        exact po.val h rfl fh.Kx
       ·rw[if_neg hp]
        have hb:(if p.toNat=0 then(some ⟨b,o,none⟩:Option Addr)else(some ⟨b,o,none⟩:Option Addr).map (·.add 0))=some ⟨b,o,none⟩:=by
         split
         ·rfl
         ·simp only[gz,Cl,xu]
        rw[hb];refine po.val h rfl ?_
        have len:(l.take p.toNat).length=p.toNat:=by simp;omega
        have get:∀(i:Nat) (e:List D),(l.take p.toNat)[i]? =some e→l[i]? =some e:=by
         intro i e hi;rw[j0]at hi;split at hi
         ·exact hi
         ·cases hi
        have:=fh.dt (G:=G) (sz:=sz) (l:=l.take p.toNat) (b:=b) (o:=o) (c:=p.toNat) (by rw[len];exact ar _) (fun i e hi=>hs i e (get i e hi)) (fun i q hi hq=>k1 i q (by omega) hq) (fun i e q x v hi hx hv=>k2 i e q x v (get i e hi) hx hv)
        rw[len]at this;exact this
     ·cases he
    |Kx=>
     simp only[Q0]at he;split at he
     ·rename_i hp
      simp only[kn.qj,ah,ay]at he;obtain⟨rfl,rfl⟩:=he;cases hx;rename_i b o c
      rw[Fy hu hn h0 (by omega),if_pos hp,hp]
      exact po.val h rfl fh.Kx
     ·cases he
    |bd=>
     simp only[Q0]at he;split at he
     ·rename_i hp
      simp only[kn.qj,ah,ay]at he;obtain⟨rfl,rfl⟩:=he;cases hx
      rw[Fy hu hn h0 (by omega),if_pos hp,hp]
      exact po.val h rfl fh.bd
     ·cases he
    |_=>cases he
   |ref id ver n0=>
    simp only[Q0]at he;split at he
    ·rename_i sz els hle
     split at he
     ·rename_i hc
      obtain⟨rfl,hl,aEb⟩:=hc;simp only[ah,ay]at he;obtain⟨rfl,rfl⟩:=he;obtain⟨v1,v2⟩:=v7 hle;obtain⟨_,k2⟩:=hx.2 v1 _ _ (tp v2);obtain⟨cap,c1,c2,rfl⟩:=k2 hl
      rw[Fy hu hn h0 (by omega)]
      obtain⟨_,_,_,a18,_,_⟩:=h.va v2
      have hm0:p.toNat*sz≤E.n id:=by rw[c1];exact ep _ (by omega)
      have hf:=h.atr (b':= .arr sz (els.take p.toNat)) (j:=p.toNat) v2 rfl (by simp[B.Bg];omega) hm0 (fun _ q=>q.take)
      refine⟨_,_,w,G,_,_,.ref id (s.ver id+1) p.toNat,rfl,.inl rfl,hf,?_,rfl⟩
      have ea:(if p.toNat=0 then some (⟨E.b id,0,none⟩:Addr)else(some (⟨E.b id,0,none⟩:Addr)).map (·.add 0))=some ⟨E.b id,0,none⟩:=by
       split
       ·rfl
       ·simp[Cl]
      rw[ea]
      have:=yu (G':=G) (s':={s with bm:=jf s.bm id (some (.arr sz (els.take p.toNat))),ver:=jf s.ver id (s.ver id+1)}) (E':={E with n:=jf E.n id (p.toNat*sz)}) (id:=id) (sz:=sz) (n:=p.toNat) (len:=p.toNat) (cap:=p.toNat) (g:=E.b id) (bh _ _ _) (by simp[B.Bg];omega) rfl (bh _ _ _) rfl (ar _)
      simpa[bh]using this
     ·cases he
    ·cases he
   |_=>cases he
  ·cases he
 ·cases he
end
end Go.PI
namespace Go.PI
open Go Go.RowKit
section
variable{P:Program}{B0 nt:Nat}{w0 w w':World}{G0 G G':fc}{s s':PS}{E E':Env}{a:Act}
theorem a6k(h:i6 B0 w0 nt G0 s G E a w){t e:TypeId}{n:Nat}{x j:lb}{vx vj:Value}(hu:P.underlying t=some (.slice e))(hn:ji P e=some n)
  (hx:fm G E s (x.ev s) vx)(hj:fm G E s (j.ev s) vj){d:Nat}{dst:Option Nat}{ids:List Nat}{ef:kn}(he:(j6.Le n x j).ml d s=some (ids,ef)):
  po P B0 nt w0 G0 a w dst (((xf t vx none (some vj) none).run P w).andThen fun v w=> .ok (.value v) w) (ef.app dst (s.sn ids)):=by
 have key:∀(b:Option Addr) (len cap:Nat) (k:IntKind) (p:Int),0≤p→p≤cap→(xf t (.slice b len cap) none (some (.int k p)) none).run P w= .ok (.slice (if cap=0 then b else b.map (·.add 0)) p.toNat cap) w:=by
  intro b len cap k p h0 hc
  have hb:(o8 true len cap none (some (.int k p)) none).run P w= .ok (0,p.toNat,cap) w:=by
   unfold o8
   simp only[ba,Eu h0 (show p≤(cap:Nat)by omega),aw,dc]
  unfold xf;simp only[ba,underlying,run_program,aw,hu,dc];unfold aGa;simp only[ba,underlying,run_program,aw,hu,dc,hb,pt hn,aht,S8]
 simp only[j6.ml]at he;split at he
 ·rename_i id ver m kk k hxe hje
  rw[hxe]at hx;rw[hje]at hj;cases hj;split at he
  ·rename_i sz els hle
   split at he
   ·rename_i hc
    simp only[ah,ay]at he;obtain⟨rfl,rfl⟩:=he;obtain⟨rfl,hl,h0,hkm⟩:=hc;obtain⟨v1,v2⟩:=v7 hle;obtain⟨_,k2⟩:=hx.2 v1 _ _ (tp v2);obtain⟨cap,c1,c2,rfl⟩:=k2 hl
    rw[key _ _ _ _ _ h0 (by omega)]
    have hf:=h.atr (b':= .arr sz (els.take k.toNat)) (j:=k.toNat) (m:=E.n id) v2 rfl (by simp[B.Bg];omega) (ar _) (fun _ q=>q.take)
    refine⟨_,_,w,G,_,_,.ref id (s.ver id+1) k.toNat,rfl,.inl rfl,hf,?_,rfl⟩
    have ea:(if cap=0 then some (⟨E.b id,0,none⟩:Addr)else(some (⟨E.b id,0,none⟩:Addr)).map (·.add 0))=some ⟨E.b id,0,none⟩:=by
     split
     ·rfl
     ·simp[Cl]
    rw[ea]
    have:=yu (G':=G) (s':={s with bm:=jf s.bm id (some (.arr sz (els.take k.toNat))),ver:=jf s.ver id (s.ver id+1)}) (E':={E with n:=jf E.n id (E.n id)}) (id:=id) (sz:=sz) (n:=k.toNat) (len:=k.toNat) (cap:=cap) (g:=E.b id) (bh _ _ _) (by simp[B.Bg];omega) rfl (by simp only[bh];exact c1) rfl (by omega)
    simpa[bh]using this
   ·cases he
  ·cases he
 ·rename_i kk k hxe hje
  rw[hxe]at hx;rw[hje]at hj;cases hj;cases hx;split at he
  ·rename_i hk
   simp only[kn.qj,ah,ay]at he;obtain⟨rfl,rfl⟩:=he;subst hk
   rw[key none 0 0 kk 0 (by omega) (by omega)]
   exact po.val h rfl fh.bd
  ·cases he
 ·cases he
theorem a8x{t u e ty:TypeId}{i:TypeInfo}{z:Value}{ik k:IntKind}(ht:P.underlying t=some (.slice e))(hu:P.underlying u=some (.int ik))(hi:P.info? e=some i)(hz:i.zero=some z){args:Array Value}{Co:Array TypeId}
  {n:Int}(ha0:args[0]? =some (.slice none 0 0))(ha1:args[1]? =some (.int k n))(h0:Co[0]? =some t)(h1:Co[1]? =some u)(hn:0<n)(hs:0<i.size)
  (hb:n*i.bytes≤2^47)(hbp:0<i.bytes):
  (vq Co ty args).run P w= .ok (.slice (some ⟨w.heap.size,0,none⟩) n.toNat (grownCap w n.toNat 0 e))
   (w.drew.alloc (.cells (jm z.cells n.toNat++jm z.cells (grownCap w n.toNat 0 e-n.toNat)) e)):=by
 have hle:n≤2^47:=by
  have:n*1≤n*i.bytes:=W2 (by omega) (by omega)
  omega
 have hw:kc.wrap n=n:=br n (by omega) (by omega)
 have asz:¬(n<0):=by omega
 have h48:¬(2^48<n*(i.bytes:Int)):=by omega
 have aCn:¬(281474976710656<n*(i.bytes:Int)):=by omega
 have hn0:¬(n.toNat*i.size=0):=by
  intro h;rcases aEp.1 h with h|h<;>omega
 have a18:¬(0+n.toNat≤0):=by omega
 have awt:¬(9223372036854775807<((0+n.toNat:Nat):Int)):=by omega
 have hbn:n.toNat*i.bytes≤2^47:=by
  have:((n.toNat*i.bytes:Nat):Int)=n*i.bytes:=by rw[Int.natCast_mul,Int.toNat_of_nonneg (by omega)]
  omega
 have awu:¬(281474976710656<aEz n.toNat 0*i.bytes):=by
  have:=growslice_fits (need:=n.toNat) (old:=0) (bytes:=i.bytes) (by omega) (by omega)
  omega
 have e2:n.toNat≠0:=by omega
 have e3:i.size≠0:=by omega
 have ro:∀w,(ju i.size 0 (.slice none 0 0)).run P w= .ok ([]:List Value).toArray w:=fun w=>run_firstCells_none w i.size 0 0 0
 have ai:∀w,(asInt (.int k n)).run P w= .ok n w:=fun _=>rfl
 have e4:(max n 0:Int)=n:=by omega
 have aCm:¬(9223372036854775807<n):=by omega
 have hmx:¬(n≤0):=by omega
 unfold vq;rw[ha0,ha1,h0,h1];simp[run_underlying ht,run_underlying hu,sizeOf,typeInfo,zeroValue,hi,hz,ai,hw,asz,h48,aCn,e2,e3,awt,awu,aCm,e4,hmx,Question.forced,ro,newRow,grownCap]
 exact fun h=>absurd h hn0
theorem ag0(h:i6 B0 w0 nt G0 s G E a w){t u e ty:TypeId}{i:TypeInfo}{z:Value}{ik:IntKind}{zd:List D}(ht:P.underlying t=some (.slice e))(hu:P.underlying u=some (.int ik))(hi:P.info? e=some i)(hz:i.zero=some z)
  (hzd:Dk P e=some zd)(hzl:zd.length=i.size)(C3:0<i.size)(hbp:0<i.bytes){args:Array Value}{Co:Array TypeId}{x y:lb}{vx vy:Value}(ha0:args[0]? =some vx)(ha1:args[1]? =some vy)(h0:Co[0]? =some t)(h1:Co[1]? =some u)
  (hx:fm G E s (x.ev s) vx)(hy:fm G E s (y.ev s) vy){d:Nat}{dst:Option Nat}{ids:List Nat}{ef:kn}(he:(j6.Zi i.size i.bytes zd x y).ml d s=some (ids,ef)):
  po P B0 nt w0 G0 a w dst (((vq Co ty args).run P w).andThen fun v w=> .ok (.value v) w) (ef.app dst (s.sn ids)):=by
 simp only[j6.ml]at he;split at he
 ·rename_i k n hxe hye
  rw[hxe]at hx;rw[hye]at hy;cases hx;cases hy;split at he
  ·rename_i hc
   obtain⟨hn,hb⟩:=hc;simp only[ah,ay]at he;obtain⟨rfl,rfl⟩:=he;rw[a8x (ty:=ty) ht hu hi hz ha0 ha1 h0 h1 hn C3 hb hbp];obtain⟨zv,hzv,_,hzc⟩:=Dj (P:=P) hzd h
   have hzz:zv=z:=by
    rw[hi]at hzv;simpa[hz]using hzv.symm
   subst hzz
   have Gc:zv.cells.size=i.size:=by have:=hzc.1;simp at this;omega
   have Qt:Holds G E s (jm zv.cells n.toNat++jm zv.cells (grownCap w n.toNat 0 e-n.toNat)) (.arr i.size (gu n.toNat zd)):=by
    refine⟨by simp[size_zeroCells,Gc,iw],fun q r hq=>?_,fun q r j x u hq hj hu=>?_⟩
    ·rw[O6]at hq
     split at hq
     ·injection hq with hq;subst hq;exact hzl
     ·cases hq
    ·rw[O6]at hq
     split at hq
     ·rename_i hqn
      injection hq with hq;subst hq
      have hj':j<i.size:=by have:=(aq.1 hj).1;omega
      have iy:=Wx hqn hj'
      rw[F7,if_pos (by rw[size_zeroCells,Gc];exact iy)]at hu
      unfold jm at hu;rw[Gc]at hu;simp only[Uc,aqb,iy,if_true,gz,ah]at hu
      have em:(q*i.size+j)%i.size=j:=by rw[aFx,Nat.mul_add_mod];exact a63 hj'
      rw[em]at hu
      refine hzc.2 j (.d x) u (by rw[bp,hj];rfl) ?_
      rw[←hu,getElem!_pos _ _ (by rw[Gc];exact hj')]
      exact av _
     ·cases hq
   have hf:=h.drew.new d (.arr i.size (gu n.toNat zd)) _ e Qt;have hge:=grownCap_ge w n.toNat 0 e;refine⟨_,_,_,G,_,_,.ref d (s.ver d+1) n.toNat,rfl,.inl rfl,hf,?_,rfl⟩
   have:=yu (G':=G) (s':={s with bm:=jf s.bm d (some (.arr i.size (gu n.toNat zd))),ver:=jf s.ver d (s.ver d+1)})
    (E':={E with b:=jf E.b d w.drew.heap.size,n:=jf E.n d (jm zv.cells n.toNat++jm zv.cells (grownCap w n.toNat 0 e-n.toNat)).size}) (id:=d) (sz:=i.size) (n:=n.toNat) (len:=n.toNat) (cap:=grownCap w n.toNat 0 e) (g:=w.heap.size)
    (bh _ _ _) (by simp[B.Bg]) (bh _ _ _) (by
     show jf E.n d _ d=_;rw[bh];simp only[T7,size_zeroCells,Gc];rw[←iw]
     congr 1
     omega) rfl hge
   have hv:jf s.ver d (s.ver d+1) d=s.ver d+1:=bh _ _ _;simpa[hv]using this
  ·cases he
 ·cases he
theorem afq(h:i6 B0 w0 nt G0 s G E a w){t e ty:TypeId}{x:lb}{v:Value}{args:Array Value}{Co:Array TypeId}(ha:args[0]? =some v)(hat:Co[0]? =some t)(hu:P.underlying t=some (.slice e))
  (hx:fm G E s (x.ev s) v){d:Nat}{ids:List Nat}{ef:kn}(he:(j6.a8n x).ml d s=some (ids,ef)):
  ∃u y,(Builtin.cap_ Co ty args).run P w= .ok u w∧ids=[]∧ef= .val y∧fm G E s y u:=by
 simp only[j6.ml]at he;split at he
 ·rename_i hxe
  rw[hxe]at hx;cases hx;simp only[kn.qj,ah,ay]at he;obtain⟨rfl,rfl⟩:=he;refine⟨.int .i64 0,.d (.int .i64 0),?_,rfl,rfl,.int⟩;unfold Builtin.cap_;rw[ha,hat];simp[underlying,hu,goInt]
 ·cases he
theorem afz(h:i6 B0 w0 nt G0 s G E a w){t e:TypeId}{len n:Nat}{x:lb}{v:Value}(hu:P.underlying t=some (.array len e))(hn:ji P e=some n)(hx:fm G E s (x.ev s) v)
  {d:Nat}{ids:List Nat}{ef:kn}(he:(j6.a8v len n x).ml d s=some (ids,ef)):
  ∃u y,(xf t v none none none).run P w= .ok u w∧ids=[]∧ef= .val y∧fm G E s y u:=by
 simp only[j6.ml]at he;split at he
 ·rename_i id ver hxe
  rw[hxe]at hx;split at he
  ·rename_i cs Gc
   split at he
   ·simp only[kn.qj,ah,ay]at he
    obtain⟨rfl,rfl⟩:=he;obtain⟨e1,e2⟩:=s9 Gc;have:=hx.2 e1 ⟨_,e2,rfl⟩;subst this
    refine⟨.slice (some ⟨E.b id,0,none⟩) len len,.Ig id ver len n,?_,rfl,rfl,hx.1,fun _ _=>rfl⟩
    have hb:(o8 false len len none none none).run P w= .ok (0,len,len) w:=by
     unfold o8;simp[ba]
    unfold xf;simp only[ba,underlying,run_program,aw,hu,dc,xg,hb,pt hn,aht,S8,Cl,xu,ite_self]
   ·cases he
  ·cases he
 ·cases he
theorem afl(h:i6 B0 w0 nt G0 s G E a w){t e:TypeId}{n:Nat}{x j k:lb}{vx vj vk:Value}(hu:P.underlying t=some (.slice e))(hn:ji P e=some n)
  (hx:fm G E s (x.ev s) vx)(hj:fm G E s (j.ev s) vj)(hk:fm G E s (k.ev s) vk){d:Nat}{ids:List Nat}{ef:kn}(he:(j6.Fo n x j k).ml d s=some (ids,ef)):
  ∃u y,(xf t vx none (some vj) (some vk)).run P w= .ok u w∧ids=[]∧ef= .val y∧fm G E s y u:=by
 simp only[j6.ml]at he;split at he
 ·rename_i id ver m ka p kb q e1 e2 e3
  rw[e1]at hx;rw[e2]at hj;rw[e3]at hk;cases hj;cases hk;split at he
  ·rename_i hc
   obtain⟨rfl,h0,hm,hel⟩:=hc;simp only[kn.qj,ah,ay]at he;obtain⟨rfl,rfl⟩:=he;obtain⟨v1,v2⟩:=Ef hel;obtain⟨k1,k2⟩:=hx.2 v1 _ _ v2;obtain⟨cap,c1,c2,rfl⟩:=k2 rfl
   refine⟨_,.Fo id ver m p.toNat,Fy hu hn h0 (by omega),rfl,rfl,by omega,hx.1,fun e sz m' hd=>?_⟩
   rw[v2]at hd;simp only[ah,ay]at hd;obtain⟨rfl,rfl⟩:=hd
   refine⟨ar _,fun _=>⟨⟨cap,c1,c2⟩,?_⟩⟩
   split
   ·rfl
   ·simp[Cl]
  ·cases he
 ·cases he
theorem an4{lo:Option lb}{vlo:Option Value}(hlo:(lo=none∧vlo=none)∨∃o v,lo=some o∧vlo=some v∧fm G E s (o.ev s) v){io:Option Nat}(hi:S9 s lo=some io):
  (vlo=none∧io=none)∨∃v i,vlo=some v∧io=some i∧∀(y:Nat) (c:BoundsCode) (w:World),i≤y→(T6 v y c).run P w= .ok i w:=by
 rcases hlo with ⟨rfl,rfl⟩|⟨o,v,rfl,rfl,hv⟩
 ·simp only[S9,ah]at hi
  exact .inl ⟨rfl,hi.symm⟩
 ·simp only[S9]at hi
  split at hi
  ·rename_i k q hq
   rw[hq]at hv;cases hv;split at hi
   ·rename_i h0
    simp only[ah]at hi
    exact .inr ⟨_,_,rfl,hi.symm,fun y c w hy=>Eu h0 (by omega) c w⟩
   ·cases hi
  ·cases hi
theorem aaj{lo:Option lb}{vlo:Option Value}{n:Nat}(hlo:(lo=none∧vlo=none)∨∃o v,lo=some o∧vlo=some v∧fm G E s (o.ev s) v){j:Nat}(hi:Oh s n lo=some j):
  (lo=none∧vlo=none∧j=n)∨∃v,lo≠none∧vlo=some v∧∀(y:Nat) (c:BoundsCode) (w:World),j≤y→(T6 v y c).run P w= .ok j w:=by
 rcases hlo with ⟨rfl,rfl⟩|⟨o,v,rfl,rfl,hv⟩
 ·simp only[Oh,ah]at hi
  exact .inl ⟨rfl,rfl,hi.symm⟩
 ·simp only[Oh]at hi
  split at hi
  ·rename_i k q hq
   rw[hq]at hv;cases hv;split at hi
   ·rename_i h0
    simp only[ah]at hi;subst hi
    exact .inr ⟨_,by simp,rfl,fun y c w hy=>Eu h0 (by omega) c w⟩
   ·cases hi
  ·cases hi
theorem a9c{t e:TypeId}{n:Nat}(hu:P.underlying t=some (.slice e))(hn:ji P e=some n){id ver m l C cap:Nat}(hv:s.ver id=ver)(hd:s.Bg id=some (n,m))(hE:E.n id=C*n)(h1:m≤cap)(h2:cap≤C)(h3:l≤m)(h0:0<m)
  {lo hi mx:Option lb}{vlo vhi vmx:Option Value}(hlo:(lo=none∧vlo=none)∨∃o v,lo=some o∧vlo=some v∧fm G E s (o.ev s) v)(hhi:(hi=none∧vhi=none)∨∃o v,hi=some o∧vhi=some v∧fm G E s (o.ev s) v)
  (hmx:(mx=none∧vmx=none)∨∃o v,mx=some o∧vmx=some v∧fm G E s (o.ev s) v){y:V}(hw:a1z s id ver m l lo hi mx=some y):
  ∃u,(xf t (.slice (some ⟨E.b id,0,none⟩) l cap) vlo vhi vmx).run P w= .ok u w∧fm G E s y u:=by
 unfold a1z at hw;split at hw
 ·rename_i io j k q1 q2 q3
  split at hw
  ·rename_i hc
   obtain⟨c1,c2,rfl,c4⟩:=hc;simp only[ah]at hw;subst hw
   have hb:∃kk,k≤kk∧kk≤cap∧(o8 true l cap vlo vhi vmx).run P w= .ok (io.getD 0,j,kk) w:=by
    rcases an4 (P:=P) hlo q1 with ⟨rfl,rfl⟩|⟨v,i,rfl,rfl,hr⟩<;>rcases aaj (P:=P) hmx q3 with ⟨rfl,rfl,_⟩|⟨vm,hm0,rfl,hrm⟩<;>rcases aaj (P:=P) hhi q2 with ⟨hh0,rfl,hjl⟩|⟨vh,hh0,rfl,hrh⟩
    ·exact⟨cap,h1,ar _,by unfold o8;simp[ba,hjl]⟩
    ·exact⟨cap,h1,ar _,by unfold o8;simp[ba,hrh cap _ w (by omega)]⟩
    ·exact absurd (c4 hh0) hm0
    ·exact⟨k,ar _,h1,by unfold o8;simp[ba,hrm cap _ w h1,hrh k _ w c2]⟩
    ·exact⟨cap,h1,ar _,by unfold o8;simp only[j3]at c1;simp[ba,hr l _ w (by omega),hjl]⟩
    ·exact⟨cap,h1,ar _,by unfold o8;simp only[j3]at c1;simp[ba,hrh cap _ w (by omega),hr j _ w c1]⟩
    ·exact absurd (c4 hh0) hm0
    ·exact⟨k,ar _,h1,by unfold o8;simp only[j3]at c1;simp[ba,hrm cap _ w h1,hrh k _ w c2,hr j _ w c1]⟩
   obtain⟨kk,hk1,hk2,hb⟩:=hb
   generalize io.getD 0=i at*
   refine⟨.slice (if kk=i then some ⟨E.b id,0,none⟩else some ⟨E.b id,i*n,none⟩) (j-i) (kk-i),?_,⟨by omega,h0⟩,aFf hv.symm,fun _ sz m' hd'=>?_⟩
   ·unfold xf
    simp only[ba,underlying,run_program,aw,hu,dc];unfold aGa;simp only[ba,underlying,run_program,aw,hu,dc,hb,pt hn,gz,Cl,eh]
   ·rw[hd]at hd'
    simp only[ah,ay]at hd';obtain⟨rfl,rfl⟩:=hd'
    refine⟨ar _,fun _=>⟨C,kk-i,if kk=i then 0 else i*n,hE,by omega,by omega,by omega,?_,?_⟩⟩
    ·by_cases hki:kk=i
     ·exact .inl (by omega)
     ·exact .inr (by rw[if_neg hki])
    ·by_cases hki:kk=i
     ·rw[if_pos hki,if_pos hki]
     ·rw[if_neg hki,if_neg hki]
  ·cases hw
 ·cases hw
theorem ad1(h:i6 B0 w0 nt G0 s G E a w){t e:TypeId}{n:Nat}{x:lb}{vx:Value}(hu:P.underlying t=some (.slice e))(hn:ji P e=some n)(hx:fm G E s (x.ev s) vx)
  {lo hi mx:Option lb}{vlo vhi vmx:Option Value}(hlo:(lo=none∧vlo=none)∨∃o v,lo=some o∧vlo=some v∧fm G E s (o.ev s) v)(hhi:(hi=none∧vhi=none)∨∃o v,hi=some o∧vhi=some v∧fm G E s (o.ev s) v)
  (hmx:(mx=none∧vmx=none)∨∃o v,mx=some o∧vmx=some v∧fm G E s (o.ev s) v){d:Nat}{ids:List Nat}{ef:kn}(he:(j6.Kv n x lo hi mx).ml d s=some (ids,ef)):
  ∃u y,(xf t vx vlo vhi vmx).run P w= .ok u w∧ids=[]∧ef= .val y∧fm G E s y u:=by
 simp only[j6.ml]at he;split at he
 ·rename_i id ver m hxe
  rw[hxe]at hx;split at he
  ·rename_i hc
   simp only[ak,kn.qj,ay]at he;obtain⟨y,hy,rfl,rfl⟩:=he;obtain⟨h0,hel⟩:=hc;obtain⟨v1,v2⟩:=Ef hel;obtain⟨_,k2⟩:=hx.2 v1 _ _ v2;obtain⟨cap,c1,c2,rfl⟩:=k2 rfl;obtain⟨u,hr,hv⟩:=a9c (P:=P) (w:=w) hu hn v1 v2 c1 c2 (ar _) (ar _) h0 hlo hhi hmx hy;exact⟨u,y,hr,rfl,rfl,hv⟩
  ·cases he
 ·rename_i id ver m o l hxe
  rw[hxe]at hx;split at he
  ·rename_i hc
   simp only[ak,kn.qj,ay]at he;obtain⟨y,hy,rfl,rfl⟩:=he;obtain⟨rfl,hel⟩:=hc;obtain⟨v1,v2⟩:=Ef hel;obtain⟨⟨n1,n2⟩,_,k1⟩:=hx;obtain⟨_,k2⟩:=k1 v1 _ _ v2;obtain⟨C,cap,off,c1,c2,c3,c4,c5,rfl⟩:=k2 rfl
   have abg:cap≠0:=fun h0=>by rw[h0]at c2;exact aGp.2 c2 (by rw[xu];exact n2)
   have Tq:off=0:=by rw[c5.resolve_left abg,aht]
   subst Tq
   obtain⟨u,hr,hv⟩:=a9c (P:=P) (w:=w) (cap:=cap) hu hn v1 v2 c1 (by omega) (by omega) (by omega) n2 hlo hhi hmx hy
   exact⟨u,y,hr,rfl,rfl,hv⟩
  ·cases he
 ·cases he
theorem a02(h:i6 B0 w0 nt G0 s G E a w){x:lb}{vx:Value}(hx:fm G E s (x.ev s) vx){d:Nat}{dst:Option Nat}{ids:List Nat}{ef:kn}(he:(j6.trim x).ml d s=some (ids,ef)):
  po P B0 nt w0 G0 a w dst (.ok (.value vx) w) (ef.app dst (s.sn ids)):=by
 simp only[j6.ml]at he;split at he
 ·rename_i id ver n o l hxe
  rw[hxe]at hx;split at he
  ·rename_i sz els hle
   split at he
   ·rename_i hc
    simp only[ah,ay]at he;obtain⟨rfl,rfl⟩:=he;obtain⟨rfl,rfl⟩:=hc;obtain⟨v1,v2⟩:=v7 hle;obtain⟨⟨n1,n2⟩,_,k1⟩:=hx;obtain⟨_,k2⟩:=k1 v1 _ _ (tp v2);obtain⟨C,cap,off,c1,c2,c3,c4,c5,rfl⟩:=k2 rfl
    have abg:cap≠0:=fun h0=>by rw[h0]at c2;exact aGp.2 c2 (by rw[xu];exact n2)
    have Tq:off=0:=by rw[c5.resolve_left abg,aht]
    subst Tq
    have hm0:cap*sz≤E.n id:=by rw[c1];exact ep _ (by omega)
    have hl:(els.take l).length=l:=by simp;omega
    have hf:=h.atr (b':= .arr sz (els.take l)) (j:=l) v2 rfl (by simp[B.Bg];omega) hm0 (fun _ q=>q.take)
    refine⟨_,_,w,G,_,_,.ref id (s.ver id+1) l,rfl,.inl rfl,hf,?_,rfl⟩
    have:=yu (G':=G) (s':={s with bm:=jf s.bm id (some (.arr sz (els.take l))),ver:=jf s.ver id (s.ver id+1)}) (E':={E with n:=jf E.n id (cap*sz)}) (id:=id) (sz:=sz) (n:=l) (len:=l) (cap:=cap) (g:=E.b id) (bh _ _ _) (by simp[B.Bg];omega) (by simp[bh]) (by simp[bh]) rfl (by omega)
    simpa[bh]using this
   ·cases he
  ·cases he
 ·cases he
theorem ad0{zv:Value}{sz n:Nat}{zd:List D}(Gc:zv.cells.size=sz)(hzl:zd.length=sz)(hzc:Lb G E s (zd.map .d) zv.cells):Holds G E s (jm zv.cells n) (.arr sz (gu n zd)):=by
 refine⟨by simp[size_zeroCells,Gc],fun q r hq=>?_,fun q r j x u hq hj hu=>?_⟩
 ·rw[O6]at hq
  split at hq
  ·injection hq with hq;subst hq;exact hzl
  ·cases hq
 ·rw[O6]at hq
  split at hq
  ·rename_i hqn
   injection hq with hq;subst hq
   have hj':j<sz:=by have:=(aq.1 hj).1;omega
   have iy:=Wx hqn hj';unfold jm at hu;rw[Gc]at hu;simp only[Uc,aqb,iy,if_true,gz,ah]at hu
   have em:(q*sz+j)%sz=j:=by rw[aFx,Nat.mul_add_mod];exact a63 hj'
   rw[em]at hu
   refine hzc.2 j (.d x) u (by rw[bp,hj];rfl) ?_
   rw[←hu,getElem!_pos _ _ (by rw[Gc];exact hj')]
   exact av _
  ·cases hq
theorem ai3{zv:Value}{sz n:Nat}{zd:List D}(Gc:zv.cells.size=sz)(hzl:zd.length=sz)(hzc:Lb G E s (zd.map .d) zv.cells)(ho:zd.all D.one=true):∀v∈(jm zv.cells n).toList,v.oneCell'=true:=by
 intro v hv;obtain⟨k,hk,rfl⟩:=fj.1 hv
 have hk':k<n*sz:=by simpa[size_zeroCells,Gc]using hk
 have Yx:0<sz:=by
  rcases a34 sz with h0|h0
  ·rw[h0]at hk';simp at hk'
  ·exact h0
 have hm:k%sz<sz:=a30 _ Yx
 have e:(jm zv.cells n).toList[k]=zv.cells[k%sz]'(by rw[Gc];exact hm):=by
  simp only[jm,a6g,Array.getElem_map,Array.getElem_range,Gc];exact getElem!_pos _ _ _
 rw[e]
 have hx:zd[k%sz]? =some (zd[k%sz]'(by omega)):=ao _
 have:=hzc.2 (k%sz) (.d (zd[k%sz]'(by omega))) _ (by rw[bp,hx];rfl) (av (by rw[Gc];exact hm))
 exact fh.aal this (ck.1 ho _ (bz _))
theorem akp(h:i6 B0 w0 nt G0 s G E a w){t e ty:TypeId}{i:TypeInfo}{z:Value}{zd:List D}(ht:P.underlying t=some (.slice e))(hi:P.info? e=some i)(hz:i.zero=some z)(hzz:z.cells.size=i.size)
  (hzd:Dk P e=some zd)(hzl:zd.length=i.size){args:Array Value}{Co:Array TypeId}{x:lb}{vx:Value}(ha0:args[0]? =some vx)(h0:Co[0]? =some t)(hx:fm G E s (x.ev s) vx)
  {d:Nat}{dst:Option Nat}{ids:List Nat}{ef:kn}(he:(j6.clr zd x).ml d s=some (ids,ef)):
  po P B0 nt w0 G0 a w dst (((axv Co ty args).run P w).andThen fun v w=> .ok (.value v) w) (ef.app dst (s.sn ids)):=by
 simp only[j6.ml]at he;split at he
 ·rename_i id ver n o l hxe
  rw[hxe]at hx;split at he
  ·rename_i sz els hle
   split at he
   ·rename_i hc
    simp only[ah,ay]at he;obtain⟨rfl,rfl⟩:=he;obtain⟨rfl,hzs,Ac⟩:=hc
    obtain rfl:sz=i.size:=by omega
    obtain⟨v1,v2⟩:=v7 hle;obtain⟨⟨n1,n2⟩,_,k1⟩:=hx;obtain⟨_,k2⟩:=k1 v1 _ _ (tp v2);obtain⟨C,cap,off,c1,c2,c3,c4,c5,rfl⟩:=k2 rfl;obtain⟨zv,hzv,hzr,hzc⟩:=Dj (P:=P) hzd h
    have aBt:zv=z:=by
     rw[hi]at hzv;simpa[hz]using hzv.symm
    subst aBt;obtain⟨cells,et,hh,hn,hcl,hw⟩:=h.va v2;have aC6:=hcl.1;rcases a34 l with hl0|hl0
    ·subst hl0
     have e1:els.take o++gu 0 zd++els.drop (o+0)=els:=by simp
     have e2:jf s.bm id (some (.arr i.size els))=s.bm:=by
      funext k
      by_cases hk:k=id
      ·subst hk;rw[bh,v2]
      ·rw[er _ _ _ _ hk]
     have hr:(axv Co ty args).run P w= .ok (.tuple #[]) w:=by
      unfold axv;rw[ha0,h0];simp[run_underlying ht]
     rw[hr,e1];refine⟨_,.tuple #[],w,G,E,s,.no,rfl,.inl rfl,h,trivial,?_⟩;simp only[kn.app,PS.sn,e2]
    ·have Tq:off=o*i.size:=c5.resolve_left (fun q=>absurd hl0 (by rw[q]at c4;exact aGp.2 c4))
     subst Tq
     have ayu:(jm zv.cells l).toList.length=l*i.size:=by simp[size_zeroCells,hzz]
     have Pl:o*i.size+(jm zv.cells l).toList.length≤cells.size:=by
      rw[ayu,←iw];exact gn (ep _ n1) aC6
     have tc:=run_storeCells_at P (E.b id) (o*i.size) et (jm zv.cells l).toList 0 cells w hh (by simpa using Pl) (ai3 hzz hzl hzc Ac)
     simp only[xu]at tc
     have hr:(axv Co ty args).run P w= .ok (.tuple #[]) (w.setRow (E.b id) (cells.toList.take (o*i.size)++(jm zv.cells l).toList++cells.toList.drop (o*i.size+(jm zv.cells l).toList.length)).toArray):=by
      unfold axv;rw[ha0,h0]
      obtain⟨l',rfl⟩:∃l',l=l'+1:=⟨l-1,by omega⟩
      simp[run_underlying ht,hzr,tc]
     have hh2:=hcl.alk (k:=o) (ys:=gu l zd) (news:=(jm zv.cells l).toList) (by simpa using n1) (by rw[ayu];simp) (by simpa using ad0 (n:=l) hzz hzl hzc)
     have hlen:(els.take o++gu l zd++els.drop (o+(gu l zd).length)).length=els.length:=by simp;omega
     have hal:Alike (.arr i.size els) (.arr i.size (els.take o++gu l zd++els.drop (o+(gu l zd).length))):=Alike.arr (by omega)
     have hf:=h.set v2 hal (y9.setRow hh _) (by simp only[T5,cb,dd,qn,rh];simp only[rh]at Pl;omega) hh2
     rw[hr];simp only[aEk]at hf;exact⟨_,.tuple #[],_,G,E,_,.no,rfl,.inl rfl,hf,trivial,rfl⟩
   ·cases he
  ·cases he
 ·cases he
end
end Go.PI
namespace Go.PI
open Go Go.RowKit
section
variable{P:Program}{B0 nt:Nat}{w0 w w':World}{G0 G G':fc}{s s':PS}{E E':Env}{a:Act}
theorem atu(G:fc)(w:World)(em:Bool):∀(n:Nat) (t:TypeId) (l:List LK),zo P n t=some l→∀m,n≤m→∀g,yp P t=some g→∀(us:Array Value),us.size=l.length→
  (ai2 em m t (De g us)).run P w= .ok () w:=by
 intro n
 induction n with
 |zero=>intro t l h;cases h
 |succ n ih=>
  intro t l h m hm g hg us C3
  obtain⟨m,rfl⟩:∃k,m=k+1:=⟨m-1,by omega⟩
  have single:∀(k:LK) (d:TypeDesc),P.underlying t=some d→k.fits d=true→(ai2 em (m+1) t (De g us)).run P w= .ok () w:=by
   intro k d hu hd;generalize De g us=v;unfold ai2;simp only[ba,underlying,run_program,aw,hu,dc];cases d<;>simp[LK.fits]at hd<;>cases v<;>rfl
  have h0:=h;simp only[zo]at h;split at h
  ·rename_i hu
   split at h
   ·injection h with h;exact single .bool _ hu rfl
   ·cases h
  ·rename_i k hu
   split at h
   ·injection h with h;exact single .int _ hu rfl
   ·cases h
  ·rename_i hu
   split at h
   ·injection h with h;exact single .str _ hu rfl
   ·cases h
  ·rename_i len e hu
   split at h
   ·rename_i le hle
    split at h
    ·rename_i hs
     injection h with h
     subst h
     have hgt:g=true:=by unfold yp at hg;rw[hu]at hg;simpa using hg.symm
     subst hgt;obtain⟨g',k1,k2,k3,_⟩:=atm (G:=G) (w:=w) n e le hle n (ar _)
     have hul:us.size=len*le.length:=by simpa using C3
     simp only[De,if_true];unfold ai2;simp only[ba,underlying,run_program,aw,hu,dc];simp only[Std.Legacy.Range.forIn_eq_forIn_range',Std.Legacy.Range.size,S8,Nat.add_one_sub_one,Nat.div_one]
     have each:∀i∈ag6 0 len,i<len:=by
      intro i hi;simp[List.mem_range']at hi;omega
     generalize ag6 0 len=is at each
     induction is with
     |nil=>simp
     |cons j is ih'=>
      have hj:j*le.length+le.length≤us.size:=by
       have:=each j (by simp)
       rw[hul];have:(j+1)*le.length≤len*le.length:=ep _ this;rw[iw,zn]at this;exact this
      have p1:=Ix (w:=w) k1 k2 k3 hj
      have p2:=ih e le hle m (by omega) g' k2 (us.extract (j*le.length) (j*le.length+le.length)) (by simp;omega)
      simp only[List.forIn_cons,ba,pt k1,aw,p1,p2,dc]
      exact ih' (fun y hy=>each y (by simp[hy]))
    ·cases h
   ·cases h
  ·rename_i fs hu
   split at h
   ·split at h
    ·rename_i lf hlf
     split at h
     ·injection h with h
      subst h
      have hgt:g=true:=by unfold yp at hg;rw[hu]at hg;simpa using hg.symm
      subst hgt;simp only[De,if_true];unfold ai2;simp only[ba,underlying,run_program,aw,hu,dc];rw[←Array.forIn_toList]
      have key:∀(L:List Field) (off:Nat) (l:List LK),Eb P (zo P n) L off=some l→off+l.length≤us.size→
        ∀f∈L,f.name≠ "_"∧∃g',(part f.type us f.offset).run P w= .ok (De g' (us.extract f.offset (f.offset+(P.cellsOf f.type)))) w∧
         ∃lf,zo P n f.type=some lf∧yp P f.type=some g'∧(us.extract f.offset (f.offset+(P.cellsOf f.type))).size=lf.length:=by
       intro L
       induction L with
       |nil=>intro off l _ _ f hf;cases hf
       |cons f0 r ihr=>
        intro off l hl hlen f hf;simp only[Eb]at hl;split at hl
        ·rename_i hn
         split at hl
         ·rename_i l1 hl1
          split at hl
          ·rename_i hs1
           split at hl
           ·rename_i mr hmr
            injection hl with hl
            subst hl;simp only[cb]at hlen;rcases dn.1 hf with rfl|hf
            ·obtain⟨g',k1,k2,k3,_⟩:=atm (G:=G) (w:=w) n _ l1 hl1 n (ar _)
             have hc:P.cellsOf f.type=l1.length:=by
              unfold ji at k1;simp only[ak]at k1;obtain⟨i,hi,he⟩:=k1;simp[aAn,hi,he]
             rw[hc,hn.2]
             exact⟨hn.1,g',Ix k1 k2 k3 (by omega),l1,hl1,k2,by simp;omega⟩
            ·exact ihr _ _ hmr (by omega) f hf
           ·cases hl
          ·cases hl
         ·cases hl
        ·cases hl
      have key:=key fs.toList 0 lf hlf (by omega)
      generalize fs.toList=L at key
      induction L with
      |nil=>simp
      |cons f L ih'=>
       obtain⟨hn,g',p1,l1,hl1,k2,hs1⟩:=key f (by simp)
       have p2:=ih f.type l1 hl1 m (by omega) g' k2 _ hs1
       simp only[List.forIn_cons,ba,hn,ne_eq,not_false_eq_true,if_true,aw,p1,p2,dc]
       exact ih' (fun y hy=>key y (by simp[hy]))
     ·cases h
    ·cases h
   ·cases h
  ·cases h
def Gb{α:Type}(kk:KK)(k:D):List (D×α)→Nat→Option (Option Nat)
 |[],_=>some none
 |(a,_)::r,i=>match Cs kk k a with
  |some true=>some (some i)
  |some false=>Gb kk k r (i+1)
  |none=>none
theorem a5i{α:Type}{kk:KK}{k:D}:∀{ds:List (D×α)} {r:Option α} (i:Nat),Fi kk k ds=some r→(r=none∧Gb kk k ds i=some none)∨∃j e,Gb kk k ds i=some (some (i+j))∧ds[j]? =some e∧r=some e.2:=by
 intro ds
 induction ds with
 |nil=>intro r i h;simp only[Fi]at h;split at h<;>cases h;exact .inl ⟨rfl,rfl⟩
 |cons e ds ih=>
  obtain⟨a,b⟩:=e;intro r i h;simp only[Fi]at h;split at h
  ·rename_i hk
   injection h with h
   subst h
   exact .inr ⟨0,(a,b),by simp[Gb,hk],rfl,rfl⟩
  ·rename_i hk
   rcases ih (i+1) h with ⟨h1,h2⟩|⟨j,e,h1,h2,h3⟩
   ·exact .inl ⟨h1,by simp[Gb,hk,h2]⟩
   ·exact .inr ⟨j+1,e,by simp only[Gb,hk,h1];congr 2;omega,by simpa using h2,h3⟩
  ·cases h
theorem ao3{α:Type}{kk:KK}{k:D}{v:α}:∀{ds ds':List (D×α)} (i:Nat),Kh kk k v ds=some ds'→(ds'=ds++[(k,v)]∧Gb kk k ds i=some none)∨
  ∃j e,Gb kk k ds i=some (some (i+j))∧ds[j]? =some e∧Cs kk k e.1=some true∧ds'=ds.set j (k,v):=by
 intro ds
 induction ds with
 |nil=>intro ds' i h;simp only[Kh]at h;split at h<;>cases h;exact .inl ⟨rfl,rfl⟩
 |cons e ds ih=>
  obtain⟨a,b⟩:=e;intro ds' i h;simp only[Kh]at h;split at h
  ·rename_i hk
   injection h with h
   subst h
   exact .inr ⟨0,(a,b),by simp[Gb,hk],rfl,hk,rfl⟩
  ·rename_i hk
   simp only[ak]at h;obtain⟨d1,h,rfl⟩:=h;rcases ih (i+1) h with ⟨h1,h2⟩|⟨j,e,h1,h2,h3,h4⟩
   ·exact .inl ⟨by simp[h1],by simp[Gb,hk,h2]⟩
   ·exact .inr ⟨j+1,e,by simp only[Gb,hk,h1];congr 2;omega,by simpa using h2,h3,by simp[h4]⟩
  ·cases h
theorem Un{k:LK}{d:TypeDesc}(hd:k.fits d=true){x y:D}{b:Bool}(he:Ls k x y=some b){u v:Value}(hx:fh G x u)(hy:fh G y v):aE3 d u v=some b:=by
 unfold Ls at he;split at he
 ·split at he
  ·rename_i h
   subst h
   injection he with he
   subst he;cases hx;cases hy;cases d<;>simp[LK.fits]at hd;simp[aE3]
  ·cases he
 ·injection he with he
  subst he;cases hx;cases hy;cases d<;>simp[LK.fits]at hd;simp[aE3]
 ·injection he with he
  subst he;cases hx;cases hy;cases d<;>simp[LK.fits]at hd;simp[aE3]
 ·cases he
theorem St{k:LK}{x y:D}(he:Ls k x y=some true){u v:Value}(hx:fh G x u)(hy:fh G y v)(n:Nat):ai0 n v u=true:=by
 unfold Ls at he;split at he
 ·split at he
  ·rename_i h
   subst h;simp only[ah,beq_iff_eq]at he;subst he;cases hx;cases hy;cases n<;>simp[ai0]
  ·cases he
 ·simp only[ah]at he
  have he:=(MapKept.bytes_beq _ _).1 he;subst he;cases hx;cases hy;cases n<;>simp[ai0,MapKept.bytes_beq]
 ·simp only[ah,beq_iff_eq]at he
  subst he;cases hx;cases hy;cases n<;>simp[ai0]
 ·cases he
theorem a6r{n:Nat}:∀{ks:List LK} {xs ys:List D},yr ks xs ys=some true→∀{us vs:List Value},us.length=xs.length→vs.length=ys.length→
  (∀(i:Nat) (x:D) (u:Value),xs[i]? =some x→us[i]? =some u→fh G x u)→(∀(i:Nat) (x:D) (u:Value),ys[i]? =some x→vs[i]? =some u→fh G x u)→
  ((vs.zip us).all fun(x,y)=>ai0 n x y)=true:=by
 intro ks
 induction ks with
 |nil=>intro xs ys h us vs h1 h2;cases xs<;>cases ys<;>simp_all [yr]
 |cons k ks ih=>
  intro xs ys h us vs h1 h2 r1 r2
  cases xs with
  |nil=>simp[yr]at h
  |cons a xs=>
   cases ys with
   |nil=>simp[yr]at h
   |cons c ys=>
    simp only[yr]at h;split at h
    ·rename_i p q e1 e2
     simp only[ah,cd]at h;obtain⟨rfl,rfl⟩:=h
     match us,vs,h1,h2 with
     |u::us,v::vs,h1,h2=>
      simp only[List.zip_cons_cons,Sl,cd]
      exact⟨St e1 (r1 0 a u rfl rfl) (r2 0 c v rfl rfl) n,
       ih e2 (by simpa using h1) (by simpa using h2) (fun i x u hx hu=>r1 (i+1) x u (by simpa using hx) (by simpa using hu)) (fun i x u hx hu=>r2 (i+1) x u (by simpa using hx) (by simpa using hu))⟩
    ·cases h
theorem Uo{kk:KK}{x y:D}(he:Cs kk x y=some true){u v:Value}(hx:fh G x u)(hy:fh G y v):ai0 10000 v u=true:=by
 unfold Cs at he;split at he
 ·exact St he hx hy _
 ·cases hx with
  |agg l1 h1=>
   cases hy with
   |agg l2 h2=>
    obtain⟨k1,k2⟩:=Of he;rename_i us vs
    have zx:=a6r (n:=9999) he (us:=us.toList) (vs:=vs.toList) (by simpa using l1) (by simpa using l2) (fun i x u hx hu=>h1 i x u hx (by simpa using hu)) (fun i x u hx hu=>h2 i x u hx (by simpa using hu))
    unfold ai0;simp only[cd,beq_iff_eq]
    exact⟨by omega,zx⟩
 ·cases he
theorem a4o{t:TypeId}{k:LK}(h:O8 P t=some (.one k)):∃d,P.underlying t=some d∧k.fits d=true∧zo P 8 t=some [k]∧yp P t=some false:=by
 unfold O8 at h;split at h
 ·rename_i k' h1 h2
  injection h with h
  injection h with h
  subst h;have h3:=h1;simp only[zo]at h1;split at h1
  ·rename_i hu;split at h1<;>simp at h1;subst h1;exact⟨_,hu,rfl,h3,h2⟩
  ·rename_i hu;split at h1<;>simp at h1;subst h1;exact⟨_,hu,rfl,h3,h2⟩
  ·rename_i hu;split at h1<;>simp at h1;subst h1;exact⟨_,hu,rfl,h3,h2⟩
  ·rename_i hu;unfold yp at h2;rw[hu]at h2;cases h2
  ·rename_i hu;unfold yp at h2;rw[hu]at h2;cases h2
  ·cases h1
 ·cases h
 ·cases h
theorem a4n{t:TypeId}{ks:List LK}(h:O8 P t=some (.row ks)):∃d,P.underlying t=some d∧(∀u v,aE3 d u v=none)∧zo P 8 t=some ks∧yp P t=some true:=by
 unfold O8 at h;split at h
 ·cases h
 ·rename_i h1 h3
  injection h with h
  injection h with h
  subst h;unfold yp at h3;split at h3
  ·rename_i hu;exact⟨_,hu,fun u v=>by cases u<;>cases v<;>rfl,h1,by unfold yp;rw[hu]⟩
  ·rename_i hu;exact⟨_,hu,fun u v=>by cases u<;>cases v<;>rfl,h1,by unfold yp;rw[hu]⟩
  ·cases h3
  ·cases h3
 ·cases h
theorem Pk{kk:KK}{x y:D}{b:Bool}(h:Cs kk x y=some b):Ml kk x=true:=by
 unfold Cs at h;split at h
 ·rfl
 ·obtain⟨h1,_⟩:=Of h
  simp[Ml,h1]
 ·cases h
theorem a0r{α:Type}{kk:KK}{k:D}:∀{ds:List (D×α)} {r:Option α},Fi kk k ds=some r→Ml kk k=true
 |[],_,h=>by simp only[Fi]at h;split at h<;>simp_all
 |(a,b)::ds,r,h=>by
  simp only[Fi]at h;split at h
  ·rename_i hk;exact Pk hk
  ·rename_i hk;exact Pk hk
  ·cases h
theorem aj7{α:Type}{kk:KK}{k:D}{v:α}:∀{ds r:List (D×α)},Kh kk k v ds=some r→Ml kk k=true
 |[],_,h=>by simp only[Kh]at h;split at h<;>simp_all
 |(a,b)::ds,r,h=>by
  simp only[Kh]at h;split at h
  ·rename_i hk;exact Pk hk
  ·rename_i hk;exact Pk hk
  ·cases h
theorem Ww{kk:KK}{t:TypeId}(h:O8 P t=some kk){k:D}{v:Value}(hv:fh G k v)(hf:Ml kk k=true)(em:Bool):
  (ai2 em 10000 t v).run P w= .ok () w:=by
 have hk:(∃ks xs,kk= .row ks∧k= .agg xs∧xs.length=ks.length)∨∃l,kk= .one l:=by
  unfold Ml at hf;split at hf
  ·exact .inr ⟨_,rfl⟩
  ·exact .inl ⟨_,_,rfl,rfl,by simpa using hf⟩
  ·cases hf
 rcases hk with ⟨ks,xs,rfl,rfl,hl⟩|⟨l,rfl⟩
 ·obtain⟨d,hu,_,h1,h2⟩:=a4n h
  cases hv with
  |agg l1 h3=>exact atu G w em 8 t ks h1 10000 (by omega) true h2 _ (by omega)
 ·obtain⟨d,hu,hd,_,_⟩:=a4o h
  unfold ai2;simp only[ba,underlying,run_program,aw,hu,dc];cases d<;>simp[LK.fits]at hd<;>cases v<;>rfl
theorem abw{α:Type}{k:LK}{d:TypeDesc}(hd:k.fits d=true){kd:D}{kv:Value}(hk:fh G kd kv):∀{ds:List (D×α)} {es:List MapEntry} {i:Nat} {r:Option Nat},Gb (.one k) kd ds i=some r→es.length=ds.length→
  (∀(j:Nat) (e:D×α) (x:MapEntry),ds[j]? =some e→es[j]? =some x→fh G e.1 x.key)→
  aE5 d kv es i=some (r.map fun j=>(j,((es[j-i]?).map (·.val)).getD undef)):=by
 intro ds
 induction ds with
 |nil=>intro es i r h hl hr;cases es with
  |nil=>simp only[Gb,ah]at h;subst h;rfl
  |cons _ _=>cases hl
 |cons e ds ih=>
  obtain⟨a,b⟩:=e;intro es i r h hl hr
  cases es with
  |nil=>cases hl
  |cons x es=>
   have h0:=hr 0 (a,b) x rfl rfl;simp only[Gb]at h;split at h
   ·rename_i hq
    injection h with h
    subst h;simp[aE5,Un hd hq hk h0]
   ·rename_i hq
    simp only[aE5,Un hd hq hk h0]
    rw[ih h (by simpa using hl) (fun j e x he hx=>hr (j+1) e x (by simpa using he) (by simpa using hx))]
    cases r with
    |none=>rfl
    |some j=>
     have hj:i+1≤j:=by
      clear hl hr ih hq h0
      have:∀(ds:List (D×α)) (i j:Nat),Gb (.one k) kd ds i=some (some j)→i≤j:=by
       intro ds
       induction ds with
       |nil=>intro i j h;cases h
       |cons e ds ih=>
        intro i j h;simp only[Gb]at h;split at h
        ·injection h with h;injection h with h;omega
        ·have:=ih _ _ h;omega
        ·cases h
      exact this _ _ _ h
     obtain⟨m,rfl⟩:∃m,j=i+1+m:=⟨j-(i+1),by omega⟩
     have e1:i+1+m-i=m+1:=by omega
     have e2:i+1+m-(i+1)=m:=by omega
     simp[e1,e2]
   ·cases h
theorem ah4{α:Type}{kk:KK}{kd:D}:∀{ds:List (D×α)} {i j:Nat},Gb kk kd ds i=some (some j)→i≤j:=by
 intro ds
 induction ds with
 |nil=>intro i j h;cases h
 |cons e ds ih=>
  intro i j h;simp only[Gb]at h;split at h
  ·injection h with h;injection h with h;omega
  ·have:=ih h;omega
  ·cases h
theorem a1o{α:Type}{ks:List LK}{t:TypeId}(hd:zo P 8 t=some ks)(hg:yp P t=some true){kd:D}{kv:Value}(hk:fh G kd kv):∀{ds:List (D×α)} {es:List MapEntry} {i:Nat} {r:Option Nat},Gb (.row ks) kd ds i=some r→es.length=ds.length→
  (∀(j:Nat) (e:D×α) (x:MapEntry),ds[j]? =some e→es[j]? =some x→fh G e.1 x.key)→
  (av2 t kv es i).run P w= .ok (r.map fun j=>(j,((es[j-i]?).map (·.val)).getD undef)) w:=by
 have eq:∀{a:D} {v:Value} {b:Bool},Cs (.row ks) kd a=some b→fh G a v→(aEo t kv v).run P w= .ok b w:=by
  intro a v b he ha
  obtain⟨g,k1,k2,k3,k4⟩:=atm (G:=G) (w:=w) 8 t ks hd aGd (by decide)
  rw[hg]at k2
  injection k2 with k2
  subst k2;unfold Cs at he;split at he
  ·rename_i hh;cases hh
  ·rename_i hh
   injection hh with hh
   subst hh
   cases hk with
   |agg l1 h1=>
    cases ha with
    |agg l2 h2=>exact k4 _ _ _ _ b ⟨l1,h1⟩ ⟨l2,h2⟩ he
  ·cases he
 intro ds
 induction ds with
 |nil=>intro es i r h hl hr;cases es with
  |nil=>simp only[Gb,ah]at h;subst h;simp[av2]
  |cons _ _=>cases hl
 |cons e ds ih=>
  obtain⟨a,b⟩:=e;intro es i r h hl hr
  cases es with
  |nil=>cases hl
  |cons x es=>
   have h0:=hr 0 (a,b) x rfl rfl;simp only[Gb]at h;split at h
   ·rename_i hq
    injection h with h
    subst h;simp[av2,eq hq h0]
   ·rename_i hq
    simp only[av2,ba,eq hq h0,aw,ec,if_false]
    rw[ih h (by simpa using hl) (fun j e x he hx=>hr (j+1) e x (by simpa using he) (by simpa using hx))]
    cases r with
    |none=>rfl
    |some j=>
     have hj:=ah4 h
     obtain⟨m,rfl⟩:∃m,j=i+1+m:=⟨j-(i+1),by omega⟩
     have e1:i+1+m-i=m+1:=by omega
     have e2:i+1+m-(i+1)=m:=by omega
     simp[e1,e2]
   ·cases h
theorem R4{α:Type}{kk:KK}{t:TypeId}(h:O8 P t=some kk){kd:D}{kv:Value}(hk:fh G kd kv){ds:List (D×α)}{es:List MapEntry}{r:Option Nat}(hi:Gb kk kd ds 0=some r)(hl:es.length=ds.length)
  (hr:∀(j:Nat) (e:D×α) (x:MapEntry),ds[j]? =some e→es[j]? =some x→fh G e.1 x.key):
  (Instr.findKey t kv es).run P w= .ok (r.map fun j=>(j,((es[j]?).map (·.val)).getD undef)) w:=by
 unfold Instr.findKey
 cases kk with
 |one k=>
  obtain⟨d,hu,hd,_,_⟩:=a4o h;simp only[ba,underlying,run_program,aw,hu,dc,abw hd hk hi hl hr,S8]
 |row ks=>
  obtain⟨d,hu,hn,h1,h2⟩:=a4n h;simp only[ba,underlying,run_program,aw,hu,dc]
  cases es with
  |nil=>
   cases ds with
   |nil=>simp only[Gb,ah]at hi;subst hi;simp[aE5]
   |cons _ _=>cases hl
  |cons x es=>
   simp only[aE5,hn];rw[a1o h1 h2 hk hi hl hr];simp only[S8]
end
section
variable{P:Program}{B0 nt:Nat}{w0 w w':World}{G0 G G':fc}{s s':PS}{E E':Env}{a:Act}
theorem anr(h:i6 B0 w0 nt G0 s G E a w){x:V}{es:List (D×C)}(hx:I2 s x=some es){v:Value}(hv:fm G E s x v):
  ∃ents:Array MapEntry,ents.size=es.length∧(∀(i:Nat) (e:D×C) (x:MapEntry),es[i]? =some e→ents[i]? =some x→fh G e.1 x.key∧ub G E s e.2 x.val)∧
   ((v= .map none∧ents= #[])∨∃r clock,v= .map (some r)∧w.heap[r]? =some (.map ents clock)):=by
 unfold I2 at hx;split at hx
 ·injection hx with hx
  subst hx;cases hv
  exact⟨#[],rfl,fun i e x he _=>by simp at he,.inl ⟨rfl,rfl⟩⟩
 ·injection hx with hx
  subst hx
  cases hv with
  | @map _ r fs h0 hl h1 h2=>
   obtain⟨ents,clock,k1,k2⟩:=h.gok.mv _ _ h0
   have C3:ents.size=fs.length:=by rw[←k2];simp
   refine⟨ents,by simp only[ae];omega,fun i e x he hx=>?_,.inr ⟨r,clock,rfl,k1⟩⟩
   have hf:fs[i]? =some (x.key,x.val):=by rw[←k2];simp[hx]
   simp only[bp,ak]at he;obtain⟨e',he',rfl⟩:=he;exact⟨h1 i e' _ he' hf,h2 i e' _ he' hf⟩
 ·rename_i id ver
  unfold PS.ents at hx;split at hx
  ·rename_i lk
   obtain⟨_,hk⟩:=hv;obtain⟨_,_,ents,clock,k1,k2,k3,_⟩:=h.mp id es hx
   exact⟨ents,k2,k3,.inr ⟨_,clock,hk lk (by rw[hx];rfl),k1⟩⟩
  ·cases hx
 ·cases hx
def zt(w:World)(r:Nat)(o:Obj):World:={w with heap:=w.heap.setIfInBounds r o}
theorem Lf{r:Nat}{ents:Array MapEntry}{clock:Nat}(h:w.heap[r]? =some (.map ents clock))(o:Obj):(setObj r o).run P w= .ok () (zt w r o):=by
 simp[setObj,Sem.run,h,zt]
theorem y9.zt{r:Nat}{o0:Obj}(h:w.heap[r]? =some o0)(o:Obj):y9 w (zt w r o) r o:=by
 have iy:=(j4.1 h).1
 exact⟨rfl,rfl,rfl,rfl,by simp[PI.zt],fun k hk=>by simp[PI.zt,av4,aGr hk],by simp[PI.zt,iy]⟩
theorem asc{cs:List C}{vs:Array Value}(hl:vs.size=cs.length)(h:∀(i:Nat) (c:C) (u:Value),cs[i]? =some c→vs[i]? =some u→ub G E s c u):fm G E s (mkt cs) (.tuple vs):=by
 unfold mkt
 cases hd:J4 cs with
 |some ds=>
  have e:=P4 hd;subst e
  exact fh.yi (by simpa using hl) fun i x v hx hv=>h i (.d x) v (by simp[hx]) hv
 |none=>exact I6.2 ⟨_,rfl,hl,h⟩
theorem atn{x:V}{c:C}{v:Value}(hc:x.ent s=some c)(hv:fm G E s x v):ub G E s c v:=by
 cases x with
 |d y=>simp only[V.ent,ah]at hc;subst hc;exact hv
 |ref i u l=>simp only[V.ent]at hc;split at hc<;>simp at hc;subst hc;exact hv
 |ku i u=>simp only[V.ent]at hc;split at hc<;>simp at hc;subst hc;exact hv
 |dv i u o=>simp only[V.ent]at hc;split at hc<;>simp at hc;subst hc;exact hv
 |_=>cases hc
theorem Xp.push{ents:Array MapEntry}{clock:Nat}(h:Xp ents clock)(k v:Value):Xp (ents.push {key:=k,val:=v,born:=clock}) (clock+1):=by
 obtain⟨h1,h2⟩:=h
 refine⟨fun i x hx=>?_,fun i j x y hx hy e=>?_⟩
 ·rw[Yq]at hx
  split at hx
  ·injection hx with hx;subst hx;exact Nat.lt_succ_self _
  ·exact Nat.lt_succ_of_lt (h1 i x hx)
 ·rw[Yq]at hx hy
  split at hx
  ·split at hy
   ·omega
   ·injection hx with hx;subst hx
    have:=h1 j y hy;simp at e;omega
  ·split at hy
   ·injection hy with hy;subst hy
    have:=h1 i x hx;simp at e;omega
   ·exact h2 i j x y hx hy e
theorem Xp.modify{ents:Array MapEntry}{clock:Nat}(h:Xp ents clock)(j:Nat){f:MapEntry→MapEntry}(hf:∀e,(f e).born=e.born):Xp (ents.modify j f) clock:=by
 obtain⟨h1,h2⟩:=h
 have get:∀(i:Nat) (x:MapEntry),(ents.modify j f)[i]? =some x→∃y:MapEntry,ents[i]? =some y∧x.born=y.born:=by
  intro i x hx;rw[Bi]at hx;split at hx
  ·simp only[ak]at hx
   obtain⟨y,hy,rfl⟩:=hx;exact⟨y,hy,hf y⟩
  ·exact⟨x,hx,rfl⟩
 refine⟨fun i x hx=>?_,fun i k x y hx hy e=>?_⟩
 ·obtain⟨z,hz,e⟩:=get i x hx
  rw[e];exact h1 i z hz
 ·obtain⟨z,hz,e1⟩:=get i x hx
  obtain⟨z',hz',e2⟩:=get k y hy
  exact h2 i k z z' hz hz' (by omega)
theorem a7p(h:i6 B0 w0 nt G0 s G E a w){t kt e:TypeId}{z:Value}{zd:D}{kk:KK}(hu:P.underlying t=some (.map kt e))(hz:(P.info? e).bind (·.zero)=some z)(hzd:U3 z=some zd)(hkk:O8 P kt=some kk)
  {x i:lb}{vx vi:Value}{ok:Bool}(hx:fm G E s (x.ev s) vx)(hi:fm G E s (i.ev s) vi){d:Nat}{ids:List Nat}{ef:kn}(he:(j6.lookup kk zd x i ok).ml d s=some (ids,ef)):
  ∃u y,(aGb t vx vi ok).run P w= .ok u w∧ids=[]∧ef= .val y∧fm G E s y u:=by
 simp only[j6.ml]at he;split at he
 ·rename_i es k hes hk
  rw[hk]at hi;split at he
  ·rename_i r hr
   simp only[kn.qj,ah,ay]at he;obtain⟨rfl,rfl⟩:=he;obtain⟨ents,C3,Di,hv⟩:=anr h hes hx
   have hzr:(zeroValue e).run P w= .ok z w:=by
    cases hif:P.info? e with
    |none=>rw[hif]at hz;cases hz
    |some i=>
     rw[hif]at hz;simp only[a62]at hz;simp[zeroValue,typeInfo,hif,hz]
   have hzv:fh G zd z:=h.ev (x:= .const z) (o:= .c zd) (by simp[ta,hzd])
   have hch:=Ww (w:=w) hkk hi (a0r hr) ents.isEmpty
   have run:∀idx,Gb kk k es 0=some idx→(aGb t vx vi ok).run P w= .ok (match idx with
     |some j=>if ok then .tuple #[((ents.toList[j]?).map (·.val)).getD undef,.bool true]else((ents.toList[j]?).map (·.val)).getD undef
     |none=>if ok then .tuple #[z,.bool false]else z) w:=by
    intro idx a7x
    have hf:=R4 (P:=P) (w:=w) hkk hi a7x (es:=ents.toList) (by simpa using C3) (fun j e x he hx=>(Di j e x he (by simpa using hx)).1)
    unfold aGb;rcases hv with ⟨rfl,rfl⟩|⟨r',clock,rfl,aze⟩
    ·simp only[ba,underlying,run_program,aw,hu,dc,hch,hf]
     cases idx<;>simp[hzr]
    ·simp only[ba,underlying,run_program,aw,hu,dc,E9 aze,hch,hf]
     cases idx<;>simp[hzr]
   have pair:∀{x:C} {v:Value} (b:Bool),ub G E s x v→fm G E s (if ok then mkt [x,.d (.bool b)]else x.toV) (if ok then .tuple #[v,.bool b]else v):=by
    intro x v b hx
    cases ok with
    |false=>exact hx
    |true=>
     refine asc rfl fun i y u hy hu=>?_
     match i with
     |0=>simp at hy hu;subst hy hu;exact hx
     |1=>simp at hy hu;subst hy hu;exact fh.bool
     |i+2=>simp at hy
   rcases a5i 0 hr with ⟨rfl,h2⟩|⟨j,e',h1,h2,rfl⟩
   ·refine⟨_,_,run _ h2,rfl,rfl,?_⟩
    exact pair false hzv
   ·refine⟨_,_,run _ h1,rfl,rfl,?_⟩
    have hj:j<ents.size:=by have:=(aq.1 h2).1;omega
    have:=(Di j e' ents[j] h2 (av hj)).2;simp only[eh]
    have ev:((ents.toList[j]?).map (·.val)).getD undef=ents[j].val:=by simp[hj]
    rw[ev];exact pair true this
  ·cases he
 ·cases he
theorem aeb(h:i6 B0 w0 nt G0 s G E a w){t kt e:TypeId}{kk:KK}(hu:P.underlying t=some (.map kt e))(hkk:O8 P kt=some kk)
  {x k v:lb}{vx vk vv:Value}(hx:fm G E s (x.ev s) vx)(hk:fm G E s (k.ev s) vk)(hv:fm G E s (v.ev s) vv){d:Nat}{dst:Option Nat}{ids:List Nat}{ef:kn}(he:(j6.Wq kk x k v).ml d s=some (ids,ef)):
  po P B0 nt w0 G0 a w dst (((aqa t vx vk vv).run P w).andThen fun _ w=> .ok .skip w) (ef.app dst (s.sn ids)):=by
 simp only[j6.ml]at he;split at he
 ·rename_i id ver kd vd hxe hke hve
  rw[hke]at hk;have hv:=atn hve hv;split at he
  ·rename_i es hes
   simp only[ak,ay]at he;obtain⟨es',To,rfl,rfl⟩:=he;rw[hxe]at hx;unfold PS.ents at hes;split at hes
   ·rename_i lk
    obtain⟨_,hm⟩:=hx
    have hvx:=hm lk (by rw[hes];rfl)
    subst hvx;obtain⟨_,_,ents,clock,k1,k2,k3,k4⟩:=h.mp id es hes;have hch:=Ww (w:=w) hkk hk (aj7 To) false
    have find:=fun idx (hi:Gb kk kd es 0=some idx)=>R4 (P:=P) (w:=w) hkk hk hi (es:=ents.toList) (by simpa using k2) (fun j e x he hx=>(k3 j e x he (by simpa using hx)).1)
    have fin:∀(a5t:Array MapEntry) (a8m:Nat),(aqa t (.map (some (E.m id))) vk vv).run P w= .ok () (zt w (E.m id) (.map a5t a8m))→a5t.size=es'.length→
      (∀(i:Nat) (e:D×C) (x:MapEntry),es'[i]? =some e→a5t[i]? =some x→fh G e.1 x.key∧ub G E s e.2 x.val)→Xp a5t a8m→
      po P B0 nt w0 G0 a w dst (((aqa t (.map (some (E.m id))) vk vv).run P w).andThen fun _ w=> .ok .skip w) (kn.app dst (s.sn []) (.W9 id es')):=by
     intro a5t a8m Hq hl hr hbo;rw[Hq];exact⟨.skip,undef,_,G,E,_,.no,rfl,.inr ⟨rfl,rfl⟩,h.W9 hes (y9.zt k1 _) hl hr hbo,trivial,rfl⟩
    rcases ao3 0 To with ⟨rfl,h2⟩|⟨j,e',h1,h2,h3,rfl⟩
    ·refine fin (ents.push {key:=vk,val:=vv,born:=clock}) (clock+1) ?_ (by simp[k2]) (fun i e x he hx=>?_) (k4.push _ _)
     ·unfold aqa
      simp only[ba,underlying,run_program,aw,hu,dc,E9 k1,hch,find _ h2,Option.map_none,Lf k1]
     ·by_cases hi:i<es.length
      ·rw[jr hi]at he
       rw[Yq,if_neg (by omega)]at hx
       exact k3 i e x he hx
      ·rw[jy (by omega)]at he
       have hi0:i-es.length=0:=by have:=(aq.1 he).1;simp at this;omega
       rw[hi0]at he;simp only[ff,ah]at he;subst he
       rw[Yq,if_pos (by omega)]at hx
       injection hx with hx
       subst hx;exact⟨hk,hv⟩
    ·have hj:j<ents.size:=by have:=(aq.1 h2).1;omega
     refine fin (ents.modify j fun e=>{e with key:=vk,val:=vv}) clock ?_ (by simp[k2]) (fun i e x he hx=>?_) (k4.modify j fun _=>rfl)
     ·unfold aqa
      have hs:=Uo h3 hk (k3 j e' ents[j] h2 (av hj)).1
      have tc:(ai1 (((ents[j]?).map (·.key)).getD vk) vk).run P w= .ok vk w:=by
       unfold ai1;simp only[av hj,gz,j3,hs,if_true,dc]
      simp only[ba,underlying,run_program,aw,hu,dc,E9 k1,hch,find _ h1,gz,eh,tc,Lf k1]
     ·rw[pv]at he
      rw[Bi]at hx;by_cases hij:j=i
      ·subst hij
       rw[if_pos rfl,if_pos (by omega)]at he
       simp only[if_true,ak,ah]at he hx;obtain⟨y,_,rfl⟩:=hx;subst he;exact⟨hk,hv⟩
      ·rw[if_neg hij]at he
       rw[if_neg hij]at hx;exact k3 i e x he hx
   ·cases hes
  ·cases he
 ·cases he
theorem aav(h:i6 B0 w0 nt G0 s G E a w){t:TypeId}{d:Nat}{dst:Option Nat}{ids:List Nat}{ef:kn}(he:j6.Ho.ml d s=some (ids,ef)):
  po P B0 nt w0 G0 a w dst (((Instr.makeMap t none).run P w).andThen fun v w=> .ok (.value v) w) (ef.app dst (s.sn ids)):=by
 simp only[j6.ml,ah,ay]at he;obtain⟨rfl,rfl⟩:=he;have run:(Instr.makeMap t none).run P w= .ok (.map (some w.heap.size)) (w.alloc (.map #[] 0)):=rfl;rw[run];refine⟨_,_,_,G,_,_,.ku d (s.ver d+1),rfl,.inl rfl,h.Yu d,?_,rfl⟩
 refine⟨by simp[bh,PS.sn],fun _ _=>by simp[bh]⟩
end
section
variable{P:Program}{B0 nt:Nat}{w0 w w':World}{G0 G G':fc}{s s':PS}{E E':Env}{a:Act}
theorem Om(S:Sem Value):(do pure (ahs (←S)):Sem Next).run P w=(S.run P w).andThen fun v w=> .ok (.value v) w:=by
 simp only[ba,dc]
theorem aaz(S:Sem Unit):(do S;pure Next.skip:Sem Next).run P w=(S.run P w).andThen fun _ w=> .ok .skip w:=by
 simp only[ba,dc]
theorem po.lift(h:i6 B0 w0 nt G0 s G E a w){S:Sem Value}{u:Value}{y:V}{dst:Option Nat}(hr:S.run P w= .ok u w)(hv:fm G E s y u):
  po P B0 nt w0 G0 a w dst ((do pure (ahs (←S)):Sem Next).run P w) (kn.app dst (s.sn []) (.val y)):=by
 rw[Om,hr];exact po.val h rfl hv
theorem qg{v:V}{ids:List Nat}{e:kn}(h:some (kn.qj v)=some (ids,e)):ids=[]∧e= .val v:=by
 simp only[kn.qj,ah,ay]at h;exact⟨h.1.symm,h.2.symm⟩
theorem yv{α:Type}{x:Option α}{f:α→V}{ids:List Nat}{e:kn}(h:x.map (fun v=>kn.qj (f v))=some (ids,e)):∃v,x=some v∧ids=[]∧e= .val (f v):=by
 simp only[ak]at h;obtain⟨v,h1,h2⟩:=h;obtain⟨h3,h4⟩:=qg (congrArg some h2);exact⟨v,h1,h3,h4⟩
theorem ap6(h:i6 B0 w0 nt G0 s G E a w){t:TypeId}{n:Nat}{x:lb}{v:Value}(hv:fm G E s (x.ev s) v){d:Nat}{dst:Option Nat}{ids:List Nat}{ef:kn}(he:(j6.box n x).ml d s=some (ids,ef)):
  po P B0 nt w0 G0 a w dst ((do pure (ahs (←Instr.box t v)):Sem Next).run P w) (ef.app dst (s.sn ids)):=by
 simp only[j6.ml]at he;split at he
 ·rename_i cs Gc
  split at he
  ·simp only[ah,ay]at he
   obtain⟨rfl,rfl⟩:=he;obtain⟨k1,k2⟩:=P1 Gc hv;have hf:=h.new d (.loc cs) v.cells t ⟨k1.symm,k2⟩;refine⟨_,_,_,G,_,_,.dv d (s.ver d+1) 0,rfl,.inl rfl,hf,?_,rfl⟩
   exact⟨by simp[bh,PS.sn],fun _ _=>by simp[bh]⟩
  ·cases he
 ·cases he
theorem afb(h:i6 B0 w0 nt G0 s G E a w){t:TypeId}{z:List D}(hz:Dk P t=some z){d:Nat}{dst:Option Nat}{ids:List Nat}{ef:kn}(he:(j6.alloc z).ml d s=some (ids,ef)):
  po P B0 nt w0 G0 a w dst ((do pure (ahs (←aG7 t true (.tuple #[]))):Sem Next).run P w) (ef.app dst (s.sn ids)):=by
 simp only[j6.ml,ah,ay]at he;obtain⟨rfl,rfl⟩:=he;obtain⟨zv,_,hzr,hzc⟩:=Dj hz h;have hf:=h.new d (.loc (z.map .d)) zv.cells t ⟨hzc.1.symm,hzc.2⟩
 have run:(aG7 t true (.tuple #[])).run P w= .ok (.pointer (some ⟨w.heap.size,0,none⟩)) (w.alloc (.cells zv.cells t)):=by
  unfold aG7;simp only[ba,hzr,aw];rfl
 rw[Om,run];refine⟨_,_,_,G,_,_,.dv d (s.ver d+1) 0,rfl,.inl rfl,hf,?_,rfl⟩
 exact⟨by simp[bh,PS.sn],fun _ _=>by simp[bh]⟩
theorem ac8(h:i6 B0 w0 nt G0 s G E a w){t:TypeId}{z:List D}(hz:Dk P t=some z){d:Nat}{dst:Option Nat}{ids:List Nat}{ef:kn}(he:(j6.w8 z.length).ml d s=some (ids,ef)):
  po P B0 nt w0 G0 a w dst ((do pure (ahs (←aG7 t true (.tuple #[]))):Sem Next).run P w) (ef.app dst (s.sn ids)):=by
 simp only[j6.ml,ah,ay]at he;obtain⟨rfl,rfl⟩:=he;obtain⟨zv,_,hzr,hzc⟩:=Dj hz h
 have hf:=h.new d (.Ph z.length) zv.cells t (by have:=hzc.1;simp at this;exact this.symm)
 have run:(aG7 t true (.tuple #[])).run P w= .ok (.pointer (some ⟨w.heap.size,0,none⟩)) (w.alloc (.cells zv.cells t)):=by
  unfold aG7;simp only[ba,hzr,aw];rfl
 rw[Om,run];refine⟨_,_,_,G,_,_,.dv d (s.ver d+1) 0,rfl,.inl rfl,hf,?_,rfl⟩
 exact⟨by simp[bh,PS.sn],fun _ _=>by simp[bh]⟩
theorem afa(h:i6 B0 w0 nt G0 s G E a w){f:Nat}{first caps:Array Operand}{os:List lb}(hf:first.size=0)(hc:Gn caps.toList=some os){d:Nat}{dst:Option Nat}{ids:List Nat}{ef:kn}(he:(j6.Kr f os).ml d s=some (ids,ef)):
  po P B0 nt w0 G0 a w dst ((do pure (ahs (←aFn (.func f) (first.map a.eval) (caps.map a.eval))):Sem Next).run P w) (ef.app dst (s.sn ids)):=by
 have e0:first.map a.eval= #[]:=by
  have:first= #[]:=by simpa using hf
  subst this;simp
 rw[e0];obtain⟨caps⟩:=caps;simp only at hc
 have key:∀(vs:List Value) (y:V),caps.map a.eval=vs→ids=[]→ef= .val y→fm G E s y (.func (.func f) #[] vs.toArray)→po P B0 nt w0 G0 a w dst ((do pure (ahs (←aFn (.func f) #[] (caps.toArray.map a.eval))):Sem Next).run P w) (ef.app dst (s.sn ids)):=by
  intro vs y e1 e2 e3 hv;subst e2 e3
  exact po.lift h (u:= .func (.func f) #[] vs.toArray) (by simp[aFn,←e1]) hv
 have ptr:∀{x:Operand} {t id ver:Nat},ta x=some (.t t)→s.tmp t= .dv id ver 0→fm G E s (.dv id ver 0) (a.eval x):=by
  intro x t id ver h1 h2;have:=h.ev h1;simp only[lb.ev,h2]at this;exact this
 simp only[j6.ml]at he;split at he
 ·rename_i x0 t0
  match caps,hc with
  |[c0],hc=>
   simp only[Gn]at hc;split at hc
   ·rename_i a0 l0 h0 h1
    simp only[Gn,ah]at h1;subst h1;simp only[ah,a6a,and_true]at hc;subst hc;split at he
    ·rename_i id ver ht
     obtain⟨e1,e2⟩:=qg he;refine key [a.eval c0] _ rfl e1 e2 ?_;obtain⟨p1,p2⟩:=ptr h0 ht
     refine⟨fun p hp=>?_,fun zx=>?_⟩
     ·simp at hp;subst hp;exact p1
     ·have:=p2 (zx (id,ver) (by simp)).1 (zx (id,ver) (by simp)).2
      simp[this]
    ·rename_i x ht
     obtain⟨e1,e2⟩:=qg he;refine key [a.eval c0] _ rfl e1 e2 ?_;have:=h.ev h0;simp only[lb.ev,ht]at this
     refine fh.mb rfl fun i y u hy hu=>?_
     match i with
     |0=>simp at hy hu;subst hy hu;exact this
     |i+1=>simp at hy
    ·cases he
   ·cases hc
  |[],hc=>simp[Gn]at hc
  |c0::c1::r,hc=>
   simp only[Gn]at hc;split at hc
   ·rename_i a0 l0 h0 h1
    simp only[ah,a6a]at hc;obtain⟨_,rfl⟩:=hc;split at h1<;>cases h1
   ·cases hc
 ·rename_i x0 t0 t1
  match caps,hc with
  |[c0,c1],hc=>
   simp only[Gn]at hc;split at hc
   ·rename_i a0 l0 h0 h1
    split at h1
    ·rename_i a1 l1 h2 h3
     simp only[ah]at h1 h3;subst h3 h1;simp only[ah,a6a,and_true]at hc;obtain⟨rfl,rfl⟩:=hc;split at he
     ·rename_i id ver id' a38 ht ht'
      obtain⟨e1,e2⟩:=qg he;refine key [a.eval c0,a.eval c1] _ rfl e1 e2 ?_;obtain⟨p1,p2⟩:=ptr h0 ht;obtain⟨p3,p4⟩:=ptr h2 ht'
      refine⟨fun p hp=>?_,fun zx=>?_⟩
      ·simp at hp;rcases hp with rfl|rfl
       ·exact p1
       ·exact p3
      ·have q1:=p2 (zx (id,ver) (by simp)).1 (zx (id,ver) (by simp)).2
       have q2:=p4 (zx (id',a38) (by simp)).1 (zx (id',a38) (by simp)).2
       simp[q1,q2]
     ·rename_i x y ht ht'
      obtain⟨e1,e2⟩:=qg he;refine key [a.eval c0,a.eval c1] _ rfl e1 e2 ?_;have q1:=h.ev h0;simp only[lb.ev,ht]at q1;have q2:=h.ev h2;simp only[lb.ev,ht']at q2
      refine fh.mb rfl fun i y u hy hu=>?_
      match i with
      |0=>simp at hy hu;subst hy hu;exact q1
      |1=>simp at hy hu;subst hy hu;exact q2
      |i+2=>simp at hy
     ·cases he
    ·cases h1
   ·cases hc
  |[],hc=>simp[Gn]at hc
  |[c0],hc=>
   simp only[Gn]at hc;split at hc
   ·rename_i a0 l0 h0 h1
    simp only[ah]at h1;subst h1;simp at hc
   ·cases hc
  |c0::c1::c2::r,hc=>
   simp only[Gn]at hc;split at hc
   ·rename_i a0 l0 h0 h1
    simp only[ah,a6a]at hc;obtain⟨_,rfl⟩:=hc;split at h1
    ·rename_i h3
     simp only[ah,a6a]at h1;obtain⟨_,rfl⟩:=h1;split at h3<;>cases h3
    ·cases h1
   ·cases hc
 ·match caps,hc with
  |[],hc=>
   obtain⟨e1,e2⟩:=qg he
   exact key [] _ rfl e1 e2 (fh.mb rfl (by simp))
  |c0::r,hc=>
   simp only[Gn]at hc;split at hc<;>cases hc
 ·cases he
end
section
variable{P:Program}{B0 nt:Nat}{w0 w w':World}{G0 G G':fc}{s s':PS}{E E':Env}{a:Act}
theorem a5s{op:BinOp}(hop:op= .eql∨op= .neq){t:TypeId}{ks:List LK}(hl:zo P 8 t=some ks)(hg:yp P t=some true)(hq:P.eqGuardType P.depth t=false){xs ys:List D}{b:Bool}(he:yr ks xs ys=some b)
  {u v:Value}(hx:fh G (.agg xs) u)(hy:fh G (.agg ys) v)(ox oy:Operand):
  (do eqGuard op t ox oy u v;binOp op t u v:Sem Value).run P w= .ok (.bool (if decide (op= .neq)then !b else b)) w:=by
 obtain⟨g,k1,k2,k3,k4⟩:=atm (G:=G) (w:=w) 8 t ks hl aGd (by decide)
 rw[hg]at k2
 injection k2 with k2
 subst k2
 cases hx with
 |agg l1 h1=>
  cases hy with
  |agg l2 h2=>
   rename_i us vs;have hr:=k4 us vs xs ys b ⟨l1,h1⟩ ⟨l2,h2⟩ he;simp only[De,if_true]at hr
   have hgd:(eqGuard op t ox oy (.agg us) (.agg vs)).run P w= .ok () w:=by
    unfold eqGuard;rcases hop with rfl|rfl<;>simp[hq]
   rcases hop with rfl|rfl
   ·simp only[ba,hgd,aw,binOp,aEo,hr]
    simp
   ·simp only[ba,hgd,aw,binOp,aEo,hr]
    simp
theorem afv:∀{l:List Operand} {os:List lb},Gn l=some os→os.length=l.length∧∀(i:Nat) (x:Operand) (o:lb),l[i]? =some x→os[i]? =some o→ta x=some o:=by
 intro l
 induction l with
 |nil=>intro os h;simp only[Gn,ah]at h;subst h;exact⟨rfl,by simp⟩
 |cons x r ih=>
  intro os h;simp only[Gn]at h;split at h
  ·rename_i o l' h1 h2
   injection h with h
   subst h;obtain⟨k1,k2⟩:=ih h2
   refine⟨by simp[k1],fun i y o' hy ho=>?_⟩
   cases i with
   |zero=>simp at hy ho;subst hy ho;exact h1
   |succ i=>simp at hy ho;exact k2 i y o' hy ho
  ·cases h
theorem aei{x:V}{v:Value}(hb:isNil s .fn x=some false)(hv:fm G E s x v):∃f p q,v= .func (.func f) p q:=by
 cases x with
 |d z=>cases z with
  |mb f caps=>cases hv;exact⟨_,_,_,rfl⟩
  |_=>simp[isNil]at hb
 |mb f ids=>
  simp only[isNil]at hb;split at hb
  ·rename_i hl
   simp only[V.live,ck]at hl;obtain⟨_,k⟩:=hv
   refine⟨_,_,_,k fun p hp=>?_⟩
   obtain⟨cs,Gc⟩:=jl.1 (hl p hp);obtain⟨e1,e2⟩:=s9 Gc;exact⟨e1,_,e2,rfl⟩
  ·cases hb
 |_=>simp[isNil]at hb
theorem a8d:∀{ps:List (Nat×Nat×List C)} {cs out:List C},Ju cs ps=some out→out.length=cs.length:=by
 intro ps
 induction ps with
 |nil=>intro cs out h;simp only[Ju,ah]at h;subst h;rfl
 |cons p ps ih=>
  intro cs out h;obtain⟨o,n,xs⟩:=p;simp only[Ju]at h;split at h
  ·rename_i hc
   rw[ih h,om _ _ _ (by omega)]
  ·cases h
theorem afm(h:i6 B0 w0 nt G0 s G E a w){t e:TypeId}{n sz:Nat}{z:List D}{ps:Array (Nat×Operand)}{qs:List (Nat×Nat×lb)}(hu:P.underlying t=some (.slice e))(C3:ji P e=some sz)(hz:Dk P e=some z)
  (hn:n*sz≤2^20)(hzl:z.length=sz)(h0:0<sz)(hq:O1 sz ps.toList=some qs){d:Nat}{dst:Option Nat}{ids:List Nat}{ef:kn}(he:(j6.Xg n sz z qs).ml d s=some (ids,ef)):
  po P B0 nt w0 G0 a w dst (((a6d t n (ps.map fun(p:Nat×Operand)=>(p.1,a.eval p.2))).run P w).andThen fun v w=> .ok (.value v) w) (ef.app dst (s.sn ids)):=by
 simp only[j6.ml]at he;split at he
 ·rename_i pc hp
  split at he
  ·rename_i cs hf
   split at he
   ·rename_i Ac
    simp only[ah,ay]at he;obtain⟨rfl,rfl⟩:=he;obtain⟨zv,hzv,hzr,hzc⟩:=Dj hz h
    have hzs:zv.cells.size=sz:=by have:=hzc.1;simp at this;omega
    have hzero:Lb G E s (((gu n z).flatten).map .d) ((aGk (n*sz)).map ((if n*sz=0 then(#[]:Array Value)else zv.cells)[· %(if n*sz=0 then(#[]:Array Value)else zv.cells).size]!)):=by
     by_cases hn0:n*sz=0
     ·have hn':n=0:=by
       rcases aEp.1 hn0 with h|h
       ·exact h
       ·omega
      subst hn';simp[Lb]
     ·rw[if_neg hn0]
      have:=a4j h hzc (n:=n) (by omega)
      rw[hzl]at this;exact this
    obtain⟨q1,q2⟩:=R7 hq
    obtain⟨r1,r2⟩:=Wm h (get:=fun j _=>some (j*sz,sz)) q1 (fun i p q hp hq=>by
     obtain⟨⟨h1,h2⟩,hc⟩:=q2 i p q hp hq
     exact⟨by simp[h1,←h2],hc⟩) hp
    obtain⟨vs,hv1,hv2⟩:=Vn (place:=fun j=>some (j*sz,sz)) (ev:=a.eval) r1 (fun i p q hp hq=>by
     obtain⟨k1,k2⟩:=r2 i p q hp hq
     exact⟨by simpa using k1,k2⟩) hf hzero
    have hlen:=a8d hf;simp only[ae,aF4,List.map_replicate,aDy,hzl]at hlen
    have hdl:cs.length=n*sz:=by simpa using hlen
    obtain⟨c1,c2⟩:=a2i sz n cs hdl
    have hvs:vs.size=n*sz:=by have:=hv2.1;omega
    have hh:Holds G E s vs (.ny sz (chunks sz n cs)):=by
     refine⟨by rw[c1,hvs];exact ar _,fun i e hi=>(c2 i e hi).1,fun i e j x u hi hj hu=>?_⟩
     obtain⟨k1,k2⟩:=c2 i e hi
     have hjl:j<sz:=by have:=(aq.1 hj).1;omega
     rw[k2 j hjl]at hj;exact hv2.2 (i*sz+j) x u hj hu
    have run:(a6d t n (ps.map fun(p:Nat×Operand)=>(p.1,a.eval p.2))).run P w= .ok (.slice (some ⟨w.heap.size,0,none⟩) n n) (w.alloc (.cells vs e)):=by
     unfold a6d;simp only[ba,underlying,run_program,aw,hu,dc,pt C3]
     rw[if_neg (by omega)]
     have hps:(ps.map fun(p:Nat×Operand)=>(p.1,a.eval p.2)).toList=ps.toList.map fun p=>(p.1,a.eval p.2):=by simp
     by_cases hn0:n*sz=0
     ·rw[if_pos hn0]
      simp only[if_pos hn0]at hv1;simp only[ba,dc,aw,hps,hv1];rfl
     ·rw[if_neg hn0]
      simp only[if_neg hn0]at hv1;simp only[ba,hzr,dc,aw,hps,hv1];rfl
    have hf':=h.new d _ vs e hh;rw[run];refine⟨_,_,_,G,_,_,.ref d (s.ver d+1) n,rfl,.inl rfl,hf',?_,rfl⟩
    have:=yu (G':=G) (s':={s with bm:=jf s.bm d (some (.ny sz (chunks sz n cs))),ver:=jf s.ver d (s.ver d+1)})
     (E':={E with b:=jf E.b d w.heap.size,n:=jf E.n d vs.size}) (id:=d) (sz:=sz) (n:=(chunks sz n cs).length) (len:=n) (cap:=n) (g:=w.heap.size) (bh _ _ _) rfl (bh _ _ _) (by
      show jf E.n d _ d=_
      rw[bh,hvs]) c1 (ar _)
    have hv:jf s.ver d (s.ver d+1) d=s.ver d+1:=bh _ _ _;simpa[hv]using this
   ·cases he
  ·cases he
 ·cases he
theorem T1(h:i6 B0 w0 nt G0 s G E a w){t:TypeId}{id m j id2 off:Nat}{sz:Nat}{b nb:B}{cs:List C}(hs:ji P t=some 1)(hb:s.bm id=some b)(hd:b.Bg=some (sz,m))(hd':nb.Bg=some (sz,j))(hj:j≤m)(hiv:nb.isVar=false)
  (hh:∀cells,Holds G E s cells b→Holds G E s cells nb)(hc:s.cs id2 (s.ver id2)=some cs)(Tq:off+1≤cs.length){v:Value}(hv:fm G E s (.Fo id (s.ver id) m j) v){cap:Nat}(abg:E.n id=cap*sz)(hmc:m≤cap):
  ∃w' E',(storeVar t ⟨E.b id2,off,none⟩ v).run P w= .ok () w'∧
   i6 B0 w0 nt G0 {s with bm:=jf (jf s.bm id (some nb)) id2 (some (.loc (patch cs off [.ref id (s.ver id+1) j]))),ver:=jf s.ver id (s.ver id+1)} G E' a w':=by
 obtain⟨_,e2⟩:=s9 hc
 have kg:id2≠id:=by
  intro e;subst e;rw[hb]at e2
  injection e2 with e2
  subst e2;cases hd
 obtain⟨_,_,k⟩:=hv;obtain⟨_,hv'⟩:=k rfl sz m ((tp hb).trans hd);obtain⟨_,hve⟩:=hv' rfl;subst hve;clear hv' k
 have h1:=h.atr (b':=nb) (j:=j) (m:=j*sz) hb hd hd' (by rw[abg];exact ep _ (by omega)) hh
 have e2':jf s.bm id (some nb) id2=some (.loc cs):=by rw[er _ _ _ _ kg];exact e2
 obtain⟨cells,et,Ii,hn,hhc,hw⟩:=h1.va (id:=id2) e2';obtain⟨hl,hcr⟩:=hhc;have Gc:(aGc (some ⟨E.b id,0,none⟩) j j).cells= #[aGc (some ⟨E.b id,0,none⟩) j j]:=rfl
 have hpl:off+[C.ref id (s.ver id+1) j].length≤cs.length:=by simpa using Tq
 have hpv:off+(aGc (some ⟨E.b id,0,none⟩) j j).cells.toList.length≤cells.toList.length:=by rw[Gc];simp;omega
 have run:=Kw (P:=P) (v:= .slice (some ⟨E.b id,0,none⟩) j j) (o:=off) hs (by rw[Gc];rfl) Ii (by omega) (fun u hu=>by rw[Gc]at hu;simp at hu;subst hu;rfl)
 have L5:=h1.set e2' (b':= .loc (patch cs off [.ref id (s.ver id+1) j])) .loc (y9.setRow Ii (patch cells.toList off (aGc (some ⟨E.b id,0,none⟩) j j).cells.toList).toArray) (by simp[om _ _ _ hpv];exact hn) ⟨by simp[om _ _ _ hpl,om _ _ _ hpv,hl],fun q c u hq hu=>by
  rw[Bu _ _ _ hpl]at hq;rw[xq,Bu _ _ _ hpv]at hu;rw[Gc]at hu;simp only[bq,dh,eh]at hq hu;split at hq
  ·rename_i hin
   have hq0:q-off=0:=by omega
   rw[if_pos hin,hq0]at hu;rw[hq0]at hq;simp at hq hu;subst hq hu
   have:=yu (G':=G) (s':={s with bm:=jf s.bm id (some nb),ver:=jf s.ver id (s.ver id+1)}) (E':={E with n:=jf E.n id (j*sz)}) (id:=id) (sz:=sz) (n:=j) (len:=j) (cap:=j) (g:=E.b id) (bh _ _ _) hd' rfl (bh _ _ _) rfl (ar _)
   have hv:jf s.ver id (s.ver id+1) id=s.ver id+1:=bh _ _ _;simp only[hv]at this;exact this
  ·rename_i hin
   rw[if_neg hin]at hu
   exact hcr q c u hq (by simpa using hu)⟩
 exact⟨_,_,run,L5⟩
theorem a2d(h:i6 B0 w0 nt G0 s G E a w){t:TypeId}{n:Nat}{x y:V}{ad v:Value}{ids:List Nat}{ef:kn}{dst:Option Nat}(hs:ji P t=some n)(he:v8 s n x y=some (ids,ef))(hx:fm G E s x v)(hy:fm G E s y ad):
  po P B0 nt w0 G0 a w dst (((aAr t ad v).run P w).andThen fun _ w=> .ok .skip w) (ef.app dst (s.sn ids)):=by
 cases x with
 |Fo id ver m j=>
  cases y with
  |dv id2 av8 off=>
   have ptr:∀cs,s.cs id2 av8=some cs→ad= .pointer (some ⟨E.b id2,off,none⟩)∧s.cs id2 (s.ver id2)=some cs:=by
    intro cs hc;obtain⟨e1,e2⟩:=s9 hc
    exact⟨hy.2 e1 ⟨_,e2,rfl⟩,by rw[e1];exact hc⟩
   have go:∀{w':World} {E':Env} {s2:PS},ad= .pointer (some ⟨E.b id2,off,none⟩)→(storeVar t ⟨E.b id2,off,none⟩ v).run P w= .ok () w'→i6 B0 w0 nt G0 s2 G E' a w'→
     po P B0 nt w0 G0 a w dst (((aAr t ad v).run P w).andThen fun _ w=> .ok .skip w) (s2.put dst .no):=by
    intro w' E' s2 ha hr hf;subst ha;unfold aAr;simp only[ba,xg,aw,hr];exact⟨_,_,_,G,E',_,.no,rfl,.inr ⟨rfl,rfl⟩,hf,trivial,rfl⟩
   have room:∀sz els,s.Bg id=some (sz,els)→s.ver id=ver→els=m→∃cap,E.n id=cap*sz∧m≤cap:=fun sz els hd hv hl=>((hx.2.2 hv sz els hd).2 hl).1
   simp only[v8]at he;split at he
   ·rename_i sz els cs hb hc
    split at he
    ·rename_i Lt
     obtain⟨rfl,lk,hlen,Tq⟩:=Lt;simp only[ah,ay]at he;obtain⟨rfl,rfl⟩:=he;obtain⟨ha,hc'⟩:=ptr cs hc;subst lk;obtain⟨cap,c1,c2⟩:=room sz els.length (tp hb) rfl hlen
     obtain⟨w',E',r1,r2⟩:=T1 h hs hb (b:= .arr sz els) (nb:= .arr sz (els.take j)) (m:=m) (j:=j) (by simp[B.Bg,hlen]) (by have:=hx.1;simp[B.Bg];omega) hx.1 rfl (fun _ q=>q.take) hc' Tq hx c1 c2
     exact go ha r1 r2
    ·cases he
   ·rename_i sz els cs hb hc
    split at he
    ·rename_i Lt
     obtain⟨rfl,lk,hlen,Tq⟩:=Lt;simp only[ah,ay]at he;obtain⟨rfl,rfl⟩:=he;obtain⟨ha,hc'⟩:=ptr cs hc;subst lk;obtain⟨cap,c1,c2⟩:=room sz els.length (tp hb) rfl hlen
     obtain⟨w',E',r1,r2⟩:=T1 h hs hb (b:= .ny sz els) (nb:= .ny sz (els.take j)) (m:=m) (j:=j) (by simp[B.Bg,hlen]) (by have:=hx.1;simp[B.Bg];omega) hx.1 rfl (fun _ q=>q.ay3) hc' Tq hx c1 c2
     exact go ha r1 r2
    ·cases he
   ·cases he
  |_=>cases he
 |_=>cases he
theorem adb(h:i6 B0 w0 nt G0 s G E a w){t:TypeId}{x:Operand}{lo hi mx:Option Operand}{kp cv:Bool}{d:Nat}{r:j6}{dst:Option Nat}(hc:Pu P kp cv t x lo hi mx=some r){ids:List Nat}{ef:kn}(he:r.ml d s=some (ids,ef)):
  po P B0 nt w0 G0 a w dst ((do pure (ahs (←xf t (a.eval x) (lo.map a.eval) (hi.map a.eval) (mx.map a.eval))):Sem Next).run P w) (ef.app dst (s.sn ids)):=by
 have opt:∀{x:Option Operand} {y:Option lb},a2m x=some y→(y=none∧x.map a.eval=none)∨∃o v,y=some o∧x.map a.eval=some v∧fm G E s (o.ev s) v:=by
  intro x y hxy
  cases x with
  |none=>injection hxy with hxy;exact .inl ⟨hxy.symm,rfl⟩
  |some v=>
   simp only[a2m,ak]at hxy;obtain⟨o,ho,rfl⟩:=hxy;exact .inr ⟨o,_,rfl,rfl,h.ev ho⟩
 unfold Pu at hc;split at hc
 ·rename_i e hu
  split at hc
  ·split at hc
   ·rename_i n y lo' Dx mx' hn hy hlo hhi hmx
    injection hc with hc
    subst hc;obtain⟨u,v,hr,rfl,rfl,hv⟩:=ad1 h hu hn (h.ev hy) (opt hlo) (opt hhi) (opt hmx) he;exact po.lift h hr hv
   ·cases hc
  split at hc
  ·rename_i n y hn hy
   split at hc
   ·rename_i j
    simp only[ak]at hc;obtain⟨j',hj,rfl⟩:=hc;have:=a6k (dst:=dst) h hu hn (h.ev hy) (h.ev hj) he;rw[←Om]at this;exact this
   ·split at hc
    ·rename_i lo' Dx hlo hhi
     injection hc with hc
     subst hc;obtain⟨u,v,hr,rfl,rfl,hv⟩:=a9s h hu hn (h.ev hy) (opt hlo) (opt hhi) he;exact po.lift h hr hv
    ·cases hc
  ·rename_i n y k hn hy
   split at hc
   ·rename_i j k' hk
    simp only[ak]at hc;obtain⟨j',hj,rfl⟩:=hc;split at he
    ·obtain⟨u,v,hr,rfl,rfl,hv⟩:=afl h hu hn (h.ev hy) (h.ev hj) (h.ev hk) he
     exact po.lift h hr hv
    ·have:=a6l (dst:=dst) h hu hn (h.ev hy) (h.ev hj) (h.ev hk) he
     rw[←Om]at this;exact this
   ·cases hc
  ·cases hc
 ·rename_i ln e hu
  split at hc
  ·rename_i n y hn hy
   injection hc with hc
   subst hc;obtain⟨u,v,hr,rfl,rfl,hv⟩:=afz h hu hn (h.ev hy) he;exact po.lift h hr hv
  ·cases hc
 ·cases hc
theorem aoz(h:i6 B0 w0 nt G0 s G E a w){o:Oper}{im kp cv:Bool}{cm d:Nat}{r:j6}(hc:cOp P im kp cv cm o.op=some r){ids:List Nat}{ef:kn}(he:r.ml d s=some (ids,ef)):
  po P B0 nt w0 G0 a w o.dst ((execOp a.eval o).run P w) (ef.app o.dst (s.sn ids)):=by
 unfold execOp;generalize o.op=op at hc⊢;cases op<;>dsimp only
 case makeInterface t x=>
  simp only[cOp,ah]at hc;subst hc;cases he
 case panic x=>
  simp only[cOp,ah]at hc;subst hc;cases he
 case move x=>
  simp only[cOp]at hc;simp only[ak]at hc;obtain⟨y,hy,rfl⟩:=hc
  cases kp with
  |false=>
   obtain⟨rfl,rfl⟩:=qg he;exact po.val h rfl (h.ev hy)
  |true=>exact a02 h (h.ev hy) he
 case assign x=>
  simp only[cOp]at hc;simp only[ak]at hc;obtain⟨y,hy,rfl⟩:=hc
  cases kp with
  |false=>
   obtain⟨rfl,rfl⟩:=qg he;exact po.val h rfl (h.ev hy)
  |true=>exact a02 h (h.ev hy) he
 case pick c x y=>
  simp only[cOp]at hc;split at hc
  ·rename_i c' x' y' h1 h2 h3
   injection hc with hc
   subst hc;have hb:=h.ev h1;simp only[j6.ml]at he;split at he
   ·rename_i hcv
    rw[hcv]at hb;obtain⟨rfl,rfl⟩:=qg he;generalize hcc:a.eval c=vc at hb⊢;cases hb
    exact po.val h (by simp[asBool]) (h.ev h2)
   ·rename_i hcv
    rw[hcv]at hb;obtain⟨rfl,rfl⟩:=qg he;generalize hcc:a.eval c=vc at hb⊢;cases hb
    exact po.val h (by simp[asBool]) (h.ev h3)
   ·cases he
  ·cases hc
 case alloc t=>
  simp only[cOp]at hc;simp only[ak]at hc;obtain⟨z,hz,rfl⟩:=hc;exact afb h hz he
 case box t x=>
  simp only[cOp]at hc;split at hc
  ·rename_i n y h1 h2
   injection hc with hc
   subst hc;exact ap6 h (h.ev h2) he
  ·cases hc
 case load t x=>
  simp only[cOp]at hc;split at hc
  ·rename_i n g y h1 h2 h3
   split at hc
   ·rename_i hg
    injection hc with hc
    subst hc;simp only[j6.ml]at he;obtain⟨v,hl,rfl,rfl⟩:=yv (f:=id) he;obtain⟨u,hr,hv⟩:=Tl h h1 h2 hg hl (h.ev h3);exact po.lift h hr hv
   ·cases hc
  ·cases hc
 case store t x y=>
  simp only[cOp]at hc;split at hc
  ·rename_i n x' y' h1 h2 h3
   injection hc with hc
   subst hc;simp only[j6.ml]at he;split at he
   ·rename_i cs Gc
    obtain⟨k1,k2⟩:=P1 Gc (h.ev h3)
    obtain⟨w',id,b,hr,heq,hf⟩:=Xu h h1 he (h.ev h2) k1 k2 (fun Ac u hu=>by
     obtain⟨i,hi,hiu⟩:=fj.1 hu
     have Dx:i<(a.eval y).cells.size:=by simpa using hi
     have hic:i<cs.length:=by omega
     have k3:=k2 i cs[i] u (ao hic) (by rw[←hiu];simp[Dx])
     exact ub.aal k3 (ck.1 Ac _ (bz hic)))
    simp only[ay]at heq;obtain⟨rfl,rfl⟩:=heq;rw[aaz,hr];exact⟨_,_,_,G,E,_,.no,rfl,.inr ⟨rfl,rfl⟩,hf,trivial,rfl⟩
   ·rw[aaz]
    exact a2d h h1 he (h.ev h3) (h.ev h2)
  ·cases hc
 case nilCheck x=>
  simp only[cOp]at hc;simp only[ak]at hc;obtain⟨y,hy,rfl⟩:=hc;have hv:=h.ev hy;simp only[j6.ml]at he;split at he
  ·rename_i hb
   obtain⟨rfl,rfl⟩:=qg he;obtain⟨k,_⟩:=a10 hb hv;obtain⟨ad,e1,e2⟩:=k rfl
   cases ad with
   |none=>cases e2
   |some p=>
    rw[e1]at hv⊢;exact po.val h rfl hv
  ·rename_i hb _
   obtain⟨rfl,rfl⟩:=qg he;obtain⟨f,p,q,e1⟩:=aei hb hv;rw[e1]at hv⊢;exact po.val h rfl hv
  ·cases he
 case fieldAddr t x i=>
  simp only[cOp]at hc;split at hc
  ·rename_i fs y hu hy
   split at hc
   ·rename_i f hf
    split at hc
    ·rename_i n hn
     split at hc
     ·cases hc
     ·rename_i h0
      injection hc with hc
      subst hc;simp only[j6.ml]at he;obtain⟨v,hl,rfl,rfl⟩:=yv (f:=id) he;obtain⟨u,hr,hv⟩:=akb hu hf hn h0 hl (h.ev hy);exact po.lift h hr hv
    ·cases hc
   ·cases hc
  ·cases hc
 case indexAddr t x i=>
  simp only[cOp]at hc;split at hc
  ·rename_i len e y j hu hy hj
   simp only[ak]at hc;obtain⟨n,hn,rfl⟩:=hc;simp only[j6.ml]at he;split at he
   ·rename_i k m hm
    have hi:=h.ev hj;rw[hm]at hi;split at he
    ·rename_i hb
     obtain⟨v,hl,rfl,rfl⟩:=yv (f:=id) he;generalize a.eval i=vi at hi⊢;cases hi;obtain⟨u,hr,hv⟩:=aen hu hn hb.1 hb.2 hl (h.ev hy);exact po.lift h hr hv
    ·cases he
   ·cases he
  ·rename_i e y j hu hy hj
   simp only[ak]at hc;obtain⟨n,hn,rfl⟩:=hc;simp only[j6.ml]at he;split at he
   ·rename_i k m hm
    have hi:=h.ev hj;rw[hm]at hi;obtain⟨v,hl,rfl,rfl⟩:=yv (f:=id) he;generalize a.eval i=vi at hi⊢;cases hi;obtain⟨u,hr,hv⟩:=aek h hu hn hl (h.ev hy);exact po.lift h hr hv
   ·cases he
  ·cases hc
 case index t x i=>
  simp only[cOp]at hc;split at hc
  ·rename_i y j hu hy hj
   injection hc with hc
   subst hc;simp only[j6.ml]at he;split at he
   ·rename_i b k m hb hm
    have hx:=h.ev hy;have hi:=h.ev hj;rw[hb]at hx;rw[hm]at hi;split at he
    ·rename_i u hu'
     obtain⟨rfl,rfl⟩:=qg he;generalize a.eval i=vi at hi⊢;generalize a.eval x=vx at hx⊢;cases hi;cases hx;exact po.lift h (aem hu hu') fh.int
    ·cases he
   ·cases he
  ·rename_i len e y j hu hy hj
   split at hc
   ·rename_i n g hn hg
    split at hc
    ·rename_i h1
     injection hc with hc
     subst hc;simp only[j6.ml]at he;split at he
     ·rename_i ds k m hd hm
      have hx:=h.ev hy;have hi:=h.ev hj;rw[hd]at hx;rw[hm]at hi;split at he
      ·rename_i hb
       obtain⟨rfl,rfl⟩:=qg he;generalize a.eval i=vi at hi⊢;generalize a.eval x=vx at hx⊢;cases hi
       cases hx with
       | @agg _ vs hl hr=>
        obtain⟨u,hu',hv⟩:=aej (P:=P) (w:=w) (G:=G) (E:=E) (s:=s) (cs:=ds.map .d) (vs:=vs) (k:=k) (i:=m) hu hn hg h1 hb.1 hb.2.1 (by simpa using hb.2.2) (by simpa using hl) (fun q c u hq hu=>by
         simp only[bp,ak]at hq;obtain⟨x,hx,rfl⟩:=hq
         exact hr q x u hx hu)
        rw[←av0,←J7,←Zq]at hv;exact po.lift h hu' hv
      ·cases he
     ·cases he
    ·cases hc
   ·cases hc
  ·cases hc
 case field t x i=>
  simp only[cOp]at hc;split at hc
  ·rename_i fs y hu hy
   split at hc
   ·rename_i f hf
    split at hc
    ·rename_i n g hn hg
     split at hc
     ·rename_i h1
      injection hc with hc
      subst hc;have hx:=h.ev hy;simp only[j6.ml]at he;split at he
      ·rename_i ds hds
       rw[hds]at hx;split at he
       ·rename_i hl
        obtain⟨rfl,rfl⟩:=qg he;generalize a.eval x=vx at hx⊢
        cases hx with
        | @agg _ vs C3 hr=>
         obtain⟨u,hru,hv⟩:=a1n (G:=G) (E:=E) (s:=s) (w:=w) (cs:=ds.map .d) hu hf hn hg h1 (by simpa using hl) (by simpa using C3) (fun i c u hc hu=>by
          simp only[bp,ak]at hc;obtain⟨z,hz,rfl⟩:=hc
          exact hr i z u hz hu)
         refine po.lift h hru ?_;rw[Zq,J7,av0];exact hv
       ·cases he
      ·rename_i cs Gc
       rw[Gc]at hx;split at he
       ·rename_i hl
        obtain⟨rfl,rfl⟩:=qg he;obtain⟨vs,e1,C3,hr⟩:=Cv.1 hx;rw[e1];obtain⟨u,hru,hv⟩:=a1n (G:=G) (E:=E) (s:=s) (w:=w) (cs:=cs) hu hf hn hg h1 hl C3 hr;exact po.lift h hru hv
       ·cases he
      ·cases he
     ·cases hc
    ·cases hc
   ·cases hc
  ·cases hc
 case binOp op t x y yt=>
  simp only[cOp]at hc;split at hc
  ·rename_i p q hp hq
   have hx:=h.ev hp;have hy:=h.ev hq
   have nil:∀(k:TK) (d:TypeDesc),P.underlying t=some d→k.fits d=true→Xl op x y k p q=some r→
     po P B0 nt w0 G0 a w o.dst ((do pure (ahs (←(do eqGuard op t x y (a.eval x) (a.eval y);binOp op t (a.eval x) (a.eval y):Sem Value))):Sem Next).run P w) (ef.app o.dst (s.sn ids)):=by
    intro k d hu hf hcn;obtain⟨z,v,hr,rfl,rfl,hv⟩:=ab3 hcn hu hf hx hy he;exact po.lift h hr hv
   have bin:r= .bin op p q→po P B0 nt w0 G0 a w o.dst ((do pure (ahs (←(do eqGuard op t x y (a.eval x) (a.eval y);binOp op t (a.eval x) (a.eval y):Sem Value))):Sem Next).run P w) (ef.app o.dst (s.sn ids)):=by
    intro hr;subst hr;simp only[j6.ml]at he;split at he
    ·rename_i d1 d2 e1 e2
     obtain⟨v,hl,rfl,rfl⟩:=yv he;rw[e1]at hx;rw[e2]at hy;obtain⟨z,hr,hv⟩:=akx (P:=P) (w:=w) hl hx hy t x y;exact po.lift h hr hv
    ·cases he
   split at hc
   ·injection hc with hc;exact bin hc.symm
   ·injection hc with hc;exact bin hc.symm
   ·rename_i hu
    split at hc
    ·rename_i hop
     injection hc with hc
     subst hc;simp only[j6.ml]at he;split at he
     ·rename_i b1 b2 e1 e2
      rw[e1]at hx;rw[e2]at hy;obtain⟨rfl,rfl⟩:=qg he;generalize a.eval x=vx at hx⊢;generalize a.eval y=vy at hy⊢;cases hx;cases hy;exact po.lift h (aky hop hu b1 b2 x y) fh.bool
     ·cases he
    ·cases hc
   ·rename_i hu;exact nil _ _ hu rfl hc
   ·rename_i hu;exact nil _ _ hu rfl hc
   ·rename_i hu;exact nil _ _ hu rfl hc
   ·rename_i hu;exact nil _ _ hu rfl hc
   ·rename_i hu
    split at hc
    ·rename_i ks hks
     split at hc
     ·rename_i Lt
      injection hc with hc
      subst hc;simp only[j6.ml]at he;split at he
      ·rename_i xs ys e1 e2
       obtain⟨b,hb,rfl,rfl⟩:=yv he;rw[e1]at hx;rw[e2]at hy
       exact po.lift h (a5s Lt.1 hks (by unfold yp;rw[hu]) Lt.2 hb hx hy x y) fh.bool
      ·cases he
     ·cases hc
    ·cases hc
   ·rename_i hu
    split at hc
    ·rename_i ks hks
     split at hc
     ·rename_i Lt
      injection hc with hc
      subst hc;simp only[j6.ml]at he;split at he
      ·rename_i xs ys e1 e2
       obtain⟨b,hb,rfl,rfl⟩:=yv he;rw[e1]at hx;rw[e2]at hy
       exact po.lift h (a5s Lt.1 hks (by unfold yp;rw[hu]) Lt.2 hb hx hy x y) fh.bool
      ·cases he
     ·cases hc
    ·cases hc
   ·cases hc
  ·cases hc
 case unOp op t x=>
  simp only[cOp]at hc;simp only[ak]at hc;obtain⟨y,hy,rfl⟩:=hc;obtain⟨z,v,hr,e1,hv⟩:=ald (P:=P) (w:=w) (h.ev hy) he;simp only[kn.qj,ay]at e1;obtain⟨rfl,rfl⟩:=e1;exact po.lift h hr hv
 case convert t u x=>
  simp only[cOp]at hc;split at hc
  ·rename_i k0 k y h0 h1 hy
   injection hc with hc
   subst hc;simp only[j6.ml]at he;split at he
   ·rename_i k' n hn
    have hx:=h.ev hy;rw[hn]at hx;obtain⟨rfl,rfl⟩:=qg he;generalize a.eval x=vx at hx⊢;cases hx;exact po.lift h (afn h0 h1 n) fh.int
   ·cases he
  ·rename_i y h0 h1 hy
   injection hc with hc
   subst hc;simp only[j6.ml]at he;split at he
   ·rename_i b hb
    have hx:=h.ev hy;rw[hb]at hx;obtain⟨rfl,rfl⟩:=qg he;generalize a.eval x=vx at hx⊢;cases hx;exact po.lift h (acf h0 h1 b) fh.str
   ·cases he
  ·cases hc
 case build t ps=>
  simp only[cOp]at hc
  have fin:∀(z:List D) (qs:List (Nat×Nat×lb)),r= .build z qs→(∀pc cs,Hl s qs=some pc→Ju (z.map .d) pc=some cs→∃us,(aG6 t (ps.map fun(p:Nat×Operand)=>(p.1,a.eval p.2))).run P w= .ok (.agg us) w∧Lb G E s cs us)→
    po P B0 nt w0 G0 a w o.dst ((do pure (ahs (←aG6 t (ps.map fun(p:Nat×Operand)=>(p.1,a.eval p.2)))):Sem Next).run P w) (ef.app o.dst (s.sn ids)):=by
   intro z qs hr hk;subst hr;simp only[j6.ml]at he;split at he
   ·rename_i pc hpc
    split at he
    ·rename_i cs Gc
     obtain⟨rfl,rfl⟩:=qg he;obtain⟨us,hr,hv⟩:=hk pc cs hpc Gc;exact po.lift h hr (ah0 hv)
    ·cases he
   ·cases he
  split at hc
  ·rename_i fs z hu hz
   split at hc
   ·rename_i zx
    simp only[ak]at hc;obtain⟨qs,hq,rfl⟩:=hc
    exact fin z qs rfl fun pc cs h1 h2=>a8r h hu hz zx hq h1 h2
   ·cases hc
  ·rename_i len e z hu hz
   split at hc
   ·rename_i n hn
    simp only[ak]at hc;obtain⟨qs,hq,rfl⟩:=hc
    exact fin z qs rfl fun pc cs h1 h2=>a8s h hu hz hn hq h1 h2
   ·cases hc
  ·cases hc
 case buildSlice t n ps=>
  simp only[cOp]at hc;split at hc
  ·rename_i e hu
   split at hc
   ·rename_i sz z h1 h2
    split at hc
    ·rename_i hb
     simp only[ak]at hc;obtain⟨qs,hq,rfl⟩:=hc;rw[Om];split at he
     ·exact afm h hu h1 h2 hb.1 hb.2.1 hb.2.2 hq he
     ·exact afx h hu h1 h2 hb.1 hb.2.1 hb.2.2 hq he
    ·cases hc
   ·cases hc
  ·cases hc
 case slice t x lo hi mx=>
  simp only[cOp]at hc;exact adb h hc he
 case makeMap t r'=>
  cases r' with
  |some _=>simp[cOp]at hc
  |none=>
   simp only[cOp]at hc;split at hc
   ·injection hc with hc
    subst hc;rw[Om];exact aav h he
   ·cases hc
 case lookup t x i ok=>
  simp only[cOp]at hc;split at hc
  ·rename_i kt e hu
   split at hc
   ·rename_i z y j kk hz hy hj hk
    simp only[ak]at hc;obtain⟨zd,hzd,rfl⟩:=hc;obtain⟨u,v,hr,rfl,rfl,hv⟩:=a7p h hu hz hzd hk (h.ev hy) (h.ev hj) he;exact po.lift h hr hv
   ·cases hc
  ·cases hc
 case mapUpdate t m k v=>
  simp only[cOp]at hc;split at hc
  ·rename_i kt e m' k' v' hu hm hk hv
   simp only[ak]at hc;obtain⟨kk,hkk,rfl⟩:=hc;rw[aaz];exact aeb h hu hkk (h.ev hm) (h.ev hk) (h.ev hv) he
  ·cases hc
 case makeFunc f first caps=>
  cases f with
  |func f=>
   simp only[cOp]at hc;split at hc
   ·rename_i h0
    simp only[ak]at hc;obtain⟨os,ho,rfl⟩:=hc;exact afa h h0 ho he
   ·cases hc
  |_=>simp[cOp]at hc
 case extract x i=>
  simp only[cOp]at hc;simp only[ak]at hc;obtain⟨y,hy,rfl⟩:=hc;simp only[j6.ml]at he;split at he
  ·rename_i vs hvs
   have hx:=h.ev hy;rw[hvs]at hx;obtain⟨z,hz,rfl,rfl⟩:=yv he;obtain⟨u,hr,hv⟩:=a4d (P:=P) (w:=w) hz hx;exact po.lift h hr hv
  ·rename_i cs Gc
   have hx:=h.ev hy;rw[Gc]at hx;obtain⟨z,hz,rfl,rfl⟩:=yv he;obtain⟨vs,e1,e2,e3⟩:=I6.1 hx;rw[e1]
   have iy:i<vs.size:=by have:=(aq.1 hz).1;omega
   refine po.lift h (u:=vs[i]) ?_ (e3 i z _ hz (av iy));unfold aFa;simp[iy]
  ·cases he
 case call c=>
  obtain⟨callee,args,Co⟩:=c
  cases callee with
  |invoke x n=>simp[cOp]at hc
  |value f=>
   cases f with
   |func f=>
    simp only[cOp]at hc
    repeat' split at hc
    all_goals(first|(injection hc with hc;subst hc;cases he;done)|cases hc)
   |tmp t=>
    simp only[cOp]at hc
    repeat' split at hc
    all_goals(first|(injection hc with hc;subst hc;cases he;done)|cases hc)
   |const v=>
    simp only[cOp]at hc
    repeat' split at hc
    all_goals(first|(injection hc with hc;subst hc;cases he;done)|cases hc)
   |global g=>
    simp only[cOp]at hc
    repeat' split at hc
    all_goals(first|(injection hc with hc;subst hc;cases he;done)|cases hc)
  |builtin b=>
   have arg:∀{i:Nat} {x:Operand},args[i]? =some x→(args.map a.eval)[i]? =some (a.eval x):=fun h=>by simp[h]
   have two:∀{x y:Operand},args.toList=[x,y]→(args.map a.eval).toList=[a.eval x,a.eval y]:=fun h=>by simp[h]
   cases b with
   |len=>
    simp only[cOp]at hc;split at hc
    ·rename_i t x ht hx
     have lens:∀(k:TK) (d:TypeDesc) (y:lb),P.underlying t=some d→k.fits d=true→ta x=some y→r= .len k y→
       po P B0 nt w0 G0 a w o.dst ((do let d←resolve a.eval ⟨.builtin .len,args,Co⟩ o.type;invoke d.target d.args:Sem Next).run P w) (ef.app o.dst (s.sn ids)):=by
      intro k d y hu hf hy hr;subst hr;simp only[j6.ml]at he;obtain⟨n,hn,rfl,rfl⟩:=yv he;have Hq:=ajq (P:=P) (w:=w) h (ty:=o.type) (arg hx) ht hu hf hn (h.ev hy);exact po.lift h Hq fh.int
     split at hc
     ·rename_i n e hu
      injection hc with hc
      subst hc;obtain⟨rfl,rfl⟩:=qg he
      have Hq:(aG4 Co o.type (args.map a.eval)).run P w= .ok (.int .i64 n) w:=by
       unfold aG4;simp only[ht,arg hx,ba,underlying,run_program,aw,hu,dc];rfl
      exact po.lift h Hq fh.int
     ·rename_i y hu hy;injection hc with hc;exact lens _ _ y hu rfl hy hc.symm
     ·rename_i y hu hy;injection hc with hc;exact lens _ _ y hu rfl hy hc.symm
     ·rename_i y hu hy;injection hc with hc;exact lens _ _ y hu rfl hy hc.symm
     ·cases hc
    ·cases hc
   |cap=>
    simp only[cOp]at hc;split at hc
    ·rename_i t x ht hx
     split at hc
     ·rename_i e y hu hy
      injection hc with hc
      subst hc;obtain⟨u,v,hr,rfl,rfl,hv⟩:=afq (P:=P) (ty:=o.type) h (arg hx) ht hu (h.ev hy) he;exact po.lift h hr hv
     ·cases hc
    ·cases hc
   |clear=>
    simp only[cOp]at hc;split at hc
    ·rename_i t x ht hx
     split at hc
     ·rename_i e y hu hy
      split at hc
      ·rename_i i zd hi hzd
       split at hc
       ·rename_i hb
        injection hc with hc
        subst hc;obtain⟨hz,hzl⟩:=hb;simp only[ak]at hz;obtain⟨z,hz,hzz⟩:=hz;have:=akp (P:=P) (dst:=o.dst) (ty:=o.type) h hu hi hz hzz hzd hzl (arg hx) ht (h.ev hy) he;rw[←Om]at this;exact this
       ·cases hc
      ·cases hc
     ·cases hc
    ·cases hc
   |append=>
    simp only[cOp]at hc;split at hc
    ·rename_i t u x y ht hu hx hy
     split at hc
     ·rename_i e ik x' y' h1 h2 h3 h4
      split at hc
      ·rename_i i zd hi hzd
       split at hc
       ·rename_i hb
        injection hc with hc
        subst hc;obtain⟨z,hz,hzz⟩:=ak.1 hb.1;have:=ag0 (dst:=o.dst) (ty:=o.type) h h1 h2 hi hz hzd hb.2.1 hb.2.2.1 hb.2.2.2.1 (arg hx) (arg hy) ht hu (h.ev h3) (h.ev h4) he;rw[←Om]at this;exact this
       ·cases hc
      ·cases hc
     ·rename_i e e' x' y' h1 h2 h3 h4
      split at hc
      ·rename_i i hi
       split at hc
       ·rename_i hb
        injection hc with hc
        subst hc;obtain⟨z,hz,hzz⟩:=ak.1 hb.1;have:=akz (dst:=o.dst) (ty:=o.type) h h1 h2 hi hz hb.2.1 hb.2.2.1 hzz (arg hx) (arg hy) ht hu (h.ev h3) (h.ev h4) he;rw[←Om]at this;exact this
       ·cases hc
      ·cases hc
     ·cases hc
    ·cases hc
   |min=>
    simp only[cOp]at hc;split at hc
    ·rename_i x y hxy
     split at hc
     ·rename_i x' y' hx hy
      injection hc with hc
      subst hc;simp only[j6.ml]at he;split at he
      ·rename_i k m k' n e1 e2
       obtain⟨rfl,rfl⟩:=qg he;have hx:=h.ev hx;have hy:=h.ev hy;rw[e1]at hx;rw[e2]at hy
       have Hq:(Builtin.min_ Co o.type (args.map a.eval)).run P w= .ok (.int k (if n<m then n else m)) w:=by
        unfold Builtin.min_;rw[two hxy];generalize a.eval x=vx at hx⊢;generalize a.eval y=vy at hy⊢;cases hx;cases hy;rfl
       exact po.lift h Hq fh.int
      ·cases he
     ·cases hc
    ·cases hc
   |max=>
    simp only[cOp]at hc;split at hc
    ·rename_i x y hxy
     split at hc
     ·rename_i x' y' hx hy
      injection hc with hc
      subst hc;simp only[j6.ml]at he;split at he
      ·rename_i k m k' n e1 e2
       obtain⟨rfl,rfl⟩:=qg he;have hx:=h.ev hx;have hy:=h.ev hy;rw[e1]at hx;rw[e2]at hy
       have Hq:(Builtin.max_ Co o.type (args.map a.eval)).run P w= .ok (.int k (if n>m then n else m)) w:=by
        unfold Builtin.max_;rw[two hxy];generalize a.eval x=vx at hx⊢;generalize a.eval y=vy at hy⊢;cases hx;cases hy;rfl
       exact po.lift h Hq fh.int
      ·cases he
     ·cases hc
    ·cases hc
   |_=>simp[cOp]at hc
 all_goals(simp[cOp]at hc)
end
section
variable{P:Program}{B0 nt:Nat}{w0 w w':World}{G0 G G':fc}{s s':PS}{E E':Env}{a:Act}
theorem i6.aA7{f:Nat}(h:i6 B0 w0 nt G0 s G E a w){args:List V}{vs cvs:Array Value}{caps:List D}{own:Bool}(C3:vs.size=args.length)(hcz:cvs.size=caps.length)
  (hv:∀(i:Nat) (x:V) (v:Value),args[i]? =some x→vs[i]? =some v→fm G E s x v)(hcv:∀(i:Nat) (x:D) (v:Value),caps[i]? =some x→cvs[i]? =some v→fh (full w) x v)
  (hcg:own=false→∀(i:Nat) (x:D) (v:Value),caps[i]? =some x→cvs[i]? =some v→fh G x v)
  {ds:List D}{r:D}(hs:Gt s args=some ds)(hf:fp P f (ds++caps) r)(hr:r.flat=true∨(own=false∧args.all V.isD=true)):
  Calls P f (vs++cvs) w fun e w'=>∃v G',e= .returned v∧i6 B0 w0 nt G0 s G' E a w'∧fm G' E s (.d r) v:=by
 obtain⟨hl,hk⟩:=a4s hs
 have app:∀{H:fc},(∀(i:Nat) (x:D) (v:Value),ds[i]? =some x→vs[i]? =some v→fh H x v)→(∀(i:Nat) (x:D) (v:Value),caps[i]? =some x→cvs[i]? =some v→fh H x v)→
   ∀(i:Nat) (x:D) (v:Value),(ds++caps)[i]? =some x→(vs++cvs)[i]? =some v→fh H x v:=by
  intro H h1 h2 i x v hx hvv;by_cases hi:i<ds.length
  ·rw[jr hi]at hx
   rw[yc (by omega)]at hvv
   exact h1 i x v hx hvv
  ·rw[jy (by omega)]at hx
   rw[a01 (by omega)]at hvv
   rw[C3,←hl]at hvv;exact h2 _ x v hx hvv
 by_cases zx:own=false∧args.all V.isD=true
 ·have hd:∀(i:Nat) (x:D) (v:Value),ds[i]? =some x→vs[i]? =some v→fh G x v:=by
   intro i x v hx hvv
   have hi:i<args.length:=by have:=(aq.1 hx).1;omega
   have hx':args[i]? =some args[i]:=ao hi;have h1:=hk i _ x hx' hx;have h2:=hv i _ v hx' hvv;have h3:=ck.1 zx.2 args[i] (bz hi)
   generalize args[i]=y at*
   cases y with
   |d z=>simp only[snap,ah]at h1;subst h1;exact h2
   |_=>cases h3
  refine(hf.2 G w (vs++cvs) h.gok (by simp;omega) (app hd (hcg zx.1))).mono ?_
  rintro e w' ⟨v,G',he,hle,Ey,hok,X2,Di⟩;exact⟨v,G',he,h.U8 X2 hle hok Ey.1 Ey.2,Di⟩
 ·have abc:r.flat=true:=hr.resolve_right zx
  have hd:∀(i:Nat) (x:D) (v:Value),ds[i]? =some x→vs[i]? =some v→fh (full w) x v:=by
   intro i x v hx hvv
   have hi:i<args.length:=by have:=(aq.1 hx).1;omega
   have hx':args[i]? =some args[i]:=ao hi;exact h.a05 (hk i _ x hx' hx) (hv i _ v hx' hvv)
  refine(hf.2 (full w) w (vs++cvs) (GOk.ah9 w) (by simp;omega) (app hd hcv)).mono ?_
  rintro e w' ⟨v,G',he,hle,Ey,hok,X2,Di⟩
  refine⟨v,join G G' w.heap.size,he,h.U8 X2 ⟨fun b o v hc=>?_,fun b es hc=>?_⟩ ⟨fun b o v hc=>?_,fun b es hc=>?_⟩ (fun b o hb=>?_) (fun b hb=>?_),fh.flat abc Di⟩
  ·show(if b<w.heap.size then G.cv b o else G'.cv b o)=_
   rw[if_pos (h.gok.lt hc)];exact hc
  ·show(if b<w.heap.size then G.mv b else G'.mv b)=_
   rw[if_pos (h.gok.ltm hc)];exact hc
  ·change(if b<w.heap.size then G.cv b o else G'.cv b o)=_ at hc
   split at hc
   ·rename_i hb;exact(X2.cell (p:=⟨b,o,none⟩) hb).trans (h.gok.cv b o v hc)
   ·exact hok.cv b o v hc
  ·change(if b<w.heap.size then G.mv b else G'.mv b)=_ at hc
   split at hc
   ·rename_i hb
    obtain⟨ents,clock,h1,h2⟩:=h.gok.mv b es hc;exact⟨ents,clock,(X2.block b hb).trans h1,h2⟩
   ·exact hok.mv b es hc
  ·show(if b<w.heap.size then G.cv b o else G'.cv b o)=_
   rw[if_pos hb]
  ·show(if b<w.heap.size then G.mv b else G'.mv b)=_
   rw[if_pos hb]
theorem i6.bump(h:i6 B0 w0 nt G0 s G E a w){id g:Nat}{cs:List C}(hb:s.bm id=some (.loc cs))(hv:a.tmps.getD g undef= .pointer (some ⟨E.b id,0,none⟩)):
  i6 B0 w0 nt G0 {s with tmp:=jf s.tmp g (.dv id (s.ver id+1) 0),ver:=jf s.ver id (s.ver id+1)} G E a w:=by
 have hm:Fs E E s {s with tmp:=jf s.tmp g (.dv id (s.ver id+1) 0),ver:=jf s.ver id (s.ver id+1)}:=by
  refine⟨fun i=>?_,fun i sz Qc hv ow=>⟨Qc,ow,ar _,fun _=>⟨rfl,rfl⟩⟩,fun i b1 hv ow hva=>⟨⟨b1,ow,hva⟩,rfl⟩,fun i hv hp=>⟨hp,rfl⟩⟩
  show _≤jf s.ver id (s.ver id+1) i;by_cases e:i=id
  ·subst e;rw[bh];omega
  ·rw[er _ _ _ _ e];exact ar _
 refine⟨h.size,h.defers,h.base,h.below,h.gok,h.gle,h.Gk,fun t=>?_,fun i b hi=>?_,h.inj,fun i es hi=>?_,h.Oi,fun p=>fm.move (fc.le_refl _) hm (h.ctx p)⟩
 ·by_cases e:t=g
  ·subst e
   show fm G E _ (jf s.tmp t _ t) _;rw[bh]
   exact⟨by simp[bh],fun _ _=>hv⟩
  ·show fm G E _ (jf s.tmp g _ t) _
   rw[er _ _ _ _ e];exact fm.move (fc.le_refl _) hm (h.tmp t)
 ·have k:=h.bm i b hi
  exact k.move (fc.le_refl _) hm rfl k.2.1 rfl rfl
 ·obtain⟨h1,h2,ents,clock,h3,h4,h5,h6⟩:=h.mp i es hi
  exact⟨h1,h2,ents,clock,h3,h4,fun i e x hx hy=>⟨(h5 i e x hx hy).1,fm.Bv (fc.le_refl _) hm (h5 i e x hx hy).2⟩,h6⟩
theorem y9.refl{g:Nat}{o:Obj}(h:w.heap[g]? =some o):y9 w w g o:=⟨rfl,rfl,rfl,rfl,rfl,fun _ _=>rfl,h⟩
theorem akh(h:i6 B0 w0 nt G0 s G E a w){t:TypeId}{n g:Nat}{xo:lb}{v:Value}(hs:ji P t=some n)(hx:fm G E s (xo.ev s) v){d:Nat}{ids:List Nat}{ef:kn}(he:(j6.init g n xo).ml d s=some (ids,ef)):
  po P B0 nt w0 G0 a w none ((do aAr t (a.tmps.getD g undef) v;pure Next.skip:Sem Next).run P w) (ef.app none (s.sn ids)):=by
 simp only[j6.ml]at he;split at he
 ·rename_i id ver m cs ht hb Gc
  split at he
  ·rename_i hc
   obtain⟨hid,rfl,rfl,hlen,Ac⟩:=hc;simp only[ah,ay]at he;obtain⟨rfl,rfl⟩:=he;generalize s.base+g=id0 at hid hb ht⊢;subst hid;have hp:=h.tmp g;rw[ht]at hp;have had:=hp.2 rfl ⟨_,hb,rfl⟩;have k0:=h.bm id _ hb;obtain⟨_,_,cells,et,k3,k4,k5⟩:=k0;have k5':m=cells.size:=k5
   have h1:=h.set hb (b':= .loc (gu m (.d .any))) ⟨rfl,fun _ _ h'=>by simp[B.Bg]at h'⟩ (y9.refl k3) k4 ⟨by simp[k5'],fun j c u hc hu=>by
    rw[O6]at hc;split at hc
    ·injection hc with hc;subst hc;exact fh.any
    ·cases hc⟩
   have hm:Fs E E s {s with bm:=jf s.bm id (some (.loc (gu m (.d .any))))}:=by
    refine⟨fun i=>ar _,fun i sz Qc _ ow=>?_,fun i b1 _ ow hva=>?_,fun i _ hp=>⟨hp,rfl⟩⟩
    ·by_cases e:i=id
     ·subst e;simp[PS.Bg,B.Bg,bh]at ow
     ·simp only[PS.Bg,er _ _ _ _ e]at ow;exact⟨Qc,ow,ar _,fun _=>⟨rfl,rfl⟩⟩
    ·by_cases e:i=id
     ·subst e;exact⟨⟨_,hb,rfl⟩,rfl⟩
     ·simp only[er _ _ _ _ e]at ow;exact⟨⟨b1,ow,hva⟩,rfl⟩
   obtain⟨c1,c2⟩:=P1 Gc hx
   have aog:∀i ver,PS.Gl {s with bm:=jf s.bm id (some (.loc (gu m (.d .any))))} i ver=s.Gl i ver:=by
    intro i ver;unfold PS.Gl;by_cases e:i=id
    ·subst e;simp[bh,hb,B.Bg]
    ·simp[er _ _ _ _ e]
   have ayz:cs.all (C.one {s with bm:=jf s.bm id (some (.loc (gu m (.d .any))))})=true:=by
    rw[ck]at Ac⊢;intro c hc;have:=Ac c hc
    cases c with
    |d x=>exact this
    |ref i v l=>simp only[C.one,V.live,aog]at this⊢;exact this
    |ku i v=>exact this
    |ptr i v o=>
     simp only[C.one,V.live,PS.cs]at this⊢;by_cases e:i=id
     ·subst e;simp only[hb]at this;simp at this
     ·simp only[er _ _ _ _ e];exact this
   have tc:w9 {s with bm:=jf s.bm id (some (.loc (gu m (.d .any))))} m cs (.dv id (s.ver id) 0)=some ([],.set id (.loc cs)):=by
    have e1:PS.cs {s with bm:=jf s.bm id (some (.loc (gu m (.d .any))))} id (s.ver id)=some (gu m (.d .any)):=by
     simp[PS.cs,bh]
    simp only[w9,e1]
    rw[if_pos ⟨ayz,hlen,by simp⟩]
    have:patch (gu m (C.d .any)) 0 cs=cs:=by simp[patch,hlen]
    rw[this]
   obtain⟨w',id',b,hr,heq,hf⟩:=Xu h1 hs tc (ad:=a.tmps.getD g undef) (v:=v) ⟨ar _,fun _ _=>had⟩ c1 (fun j c u hj hu=>fm.Bv (fc.le_refl _) hm (c2 j c u hj hu)) (fun _ u hu=>by
    obtain⟨i,hi,hiu⟩:=fj.1 hu
    have Dx:i<v.cells.size:=by simpa using hi
    have hic:i<cs.length:=by omega
    have k3:=c2 i cs[i] u (ao hic) (by rw[←hiu];simp[Dx])
    exact ub.aal k3 (ck.1 Ac _ (bz hic)))
   simp only[ay,kn.set.injEq,true_and]at heq;obtain⟨rfl,rfl⟩:=heq;rw[aaz,hr]
   have h2:=hf.bump (id:=id) (g:=g) (cs:=cs) (by simp[bh]) had
   refine⟨_,_,_,G,E,_,.no,rfl,.inr ⟨rfl,rfl⟩,h2,trivial,?_⟩
   have e:jf (jf s.bm id (some (B.loc (gu m (C.d .any))))) id (some (B.loc cs))=jf s.bm id (some (B.loc cs)):=by
    funext i
    by_cases e:i=id
    ·subst e;simp[bh]
    ·simp[er _ _ _ _ e]
   simp only[kn.app,PS.sn,PS.put,e]
  ·cases he
 ·cases he
end
section
variable{P:Program}{B0 nt:Nat}{w0 w w':World}{G0 G G':fc}{s s':PS}{E E':Env}{a:Act}
def Fits(P:Program)(nt:Nat)(an:Ann)(ops:Array Oper)(o:Oper)(ri:RI):Prop:=
 ∃r0,a2l P nt an ops o=some r0∧(ri=r0∨(∃z,r0.op= .alloc z∧ri={r0 with op:= .w8 z.length})∨∃n g x,r0.op= .store n (.t g) x∧r0.dst=none∧ri={r0 with op:= .init g n x})
def J6(B0 nt:Nat)(w0:World)(G0:fc)(K:PS→Prop)(a:Act)(w:World):Prop:=∃s G E,K s∧i6 B0 w0 nt G0 s G E a w
theorem U7{an:Ann}{ops:Array Oper}{o:Oper}{r0:RI}(h:a2l P nt an ops o=some r0):
  cOp P (an.imm.contains (o.dst.getD 0)) (an.kp.contains (o.dst.getD 0)) (an.cv.contains (o.dst.getD 0)) (if an.ce.contains (o.dst.getD 0)then 2 else if an.cf.contains (o.dst.getD 0)then 1 else if an.cr.contains (o.dst.getD 0)then 3 else 0) o.op=some r0.op∧r0.dst=o.dst∧o.dst.all (· <nt)=true∧
   ((o.guard=none∧r0.guard=none)∨∃j b t,o.guard=some (j,b)∧r0.guard=some (t,b)∧(ops[j]?).bind (·.dst)=some t)∧
   r0.after=(o.after.toList.filter (aFc .any)).map (·.on):=by
 unfold a2l at h;split at h
 ·cases h
 ·rename_i r hr
  split at h
  ·rename_i hg
   split at h
   ·rename_i hd;injection h with h;subst h;exact⟨hr,rfl,hd,.inl ⟨hg,rfl⟩,rfl⟩
   ·cases h
  ·rename_i j b hg
   split at h
   ·rename_i t ht
    split at h
    ·rename_i hd;injection h with h;subst h;exact⟨hr,rfl,hd,.inr ⟨j,b,t,hg,rfl,ht⟩,rfl⟩
    ·cases h
   ·cases h
theorem Fits.spec{an:Ann}{ops:Array Oper}{o:Oper}{ri:RI}(h:Fits P nt an ops o ri):
  ri.dst=o.dst∧o.dst.all (· <nt)=true∧((o.guard=none∧ri.guard=none)∨∃j b t,o.guard=some (j,b)∧ri.guard=some (t,b)∧(ops[j]?).bind (·.dst)=some t)∧
   ri.after=(o.after.toList.filter (aFc .any)).map (·.on):=by
 obtain⟨r0,hc,rfl|⟨z,_,rfl⟩|⟨n,g,x,_,_,rfl⟩⟩:=h<;>exact(U7 hc).2
theorem Ap(h:i6 B0 w0 nt G0 s G E a w){an:Ann}{ops:Array Oper}{o:Oper}{ri:RI}(hf:Fits P nt an ops o ri){b:Bool}(hw:wanted ri s=some b):aF1 o (yielded ops a.tmps)=b:=by
 obtain⟨_,_,hg,_⟩:=hf.spec;unfold wanted at hw;unfold aF1;rcases hg with ⟨h1,h2⟩|⟨j,c,t,h1,h2,h3⟩
 ·rw[h2]at hw
  rw[h1];simpa using hw
 ·rw[h2]at hw
  rw[h1];simp only at hw⊢;split at hw
  ·rename_i x hx
   injection hw with hw
   have hv:=h.tmp t;rw[hx]at hv;unfold yielded;rw[h3];simp only[a62]
   have a7y:a.tmps[t]? =some (.bool x):=by
    generalize hq:a.tmps.getD t undef=q at hv;cases hv;rw[jo]at hq
    cases hz:a.tmps[t]? with
    |none=>rw[hz]at hq;cases hq
    |some y=>rw[hz]at hq;simp at hq;rw[hq]
   rw[a7y];subst hw;cases x<;>cases c<;>rfl
  ·rename_i hx
   injection hw with hw
   subst hw;have hv:=h.tmp t;rw[hx]at hv;unfold yielded;rw[h3];simp only[a62]
   cases hz:a.tmps[t]? with
   |none=>rfl
   |some y=>
    rw[jo,hz]at hv;simp only[j3]at hv;cases hv;rfl
  ·cases hw
theorem po.wp{o:Oper}{s':PS}{K:PS→Prop}{next:Act→World→Prop}{Q:Exit→Act→World→Prop}(hd:o.dst.all (· <nt)=true)
  (h:po P B0 nt w0 G0 a w o.dst ((execOp a.eval o).run P w) s')(hK:K s')(hn:∀a w,J6 B0 nt w0 G0 K a w→next a w):o.wp P a w next Q:=by
 obtain⟨n,v,w',G',E',st,x,hr,hnv,hf,hv,rfl⟩:=h;unfold aH0;rw[hr];rcases hnv with rfl|⟨rfl,rfl⟩
 ·exact hn _ _ ⟨_,G',E',hK,hf.a3f hd hv⟩
 ·exact hn _ _ ⟨_,G',E',hK,hf.a3f hd hv⟩
theorem I5{f:Nat}(hf:yh P f=true)(args:Array Value):(callFunc f args).run P w= .ok (.enter f args) w:=by
 unfold yh at hf;split at hf
 ·rename_i fn hfn
  simp only[cd,bne_iff_ne,ne_eq]at hf;unfold callFunc
  have h2:fn.body≠none:=by intro h;have:=hf.2;rw[h]at this;cases this
  simp[hfn,hf.1,h2]
 ·cases hf
theorem ahe(h:i6 B0 w0 nt G0 s G E a w){o:Oper}{K:PS→Prop}{next:Act→World→Prop}{Q:Exit→Act→World→Prop}(hd:o.dst.all (· <nt)=true){f:Nat}{args:List V}{caps:List D}{own:Bool}{vs cvs:Array Value}
  (tc:Dd P f args caps own o.dst s K)(Hq:yh P f=true→(execOp a.eval o).run P w= .ok (.enter f (vs++cvs)) w)(C3:vs.size=args.length)(hcz:cvs.size=caps.length)
  (hv:∀(i:Nat) (x:V) (v:Value),args[i]? =some x→vs[i]? =some v→fm G E s x v)(hcv:∀(i:Nat) (x:D) (v:Value),caps[i]? =some x→cvs[i]? =some v→fh (full w) x v)
  (hcg:own=false→∀(i:Nat) (x:D) (v:Value),caps[i]? =some x→cvs[i]? =some v→fh G x v)(hn:∀a w,J6 B0 nt w0 G0 K a w→next a w):o.wp P a w next Q:=by
 obtain⟨ds,r,hs,hf,hr,hK⟩:=tc;unfold aH0;rw[Hq hf.1,aEn];refine(h.aA7 C3 hcz hv hcv hcg hs hf hr).mono ?_;rintro e w' ⟨v,G',rfl,hf',hv'⟩;exact hn _ _ ⟨_,G',E,hK,hf'.a3f hd hv'⟩
theorem M4(h:i6 B0 w0 nt G0 s G E a w){args:Array Operand}{l:List lb}(hl:Gn args.toList=some l):
  (args.map a.eval).size=(l.map (·.ev s)).length∧∀(i:Nat) (x:V) (v:Value),(l.map (·.ev s))[i]? =some x→(args.map a.eval)[i]? =some v→fm G E s x v:=by
 obtain⟨k1,k2⟩:=afv hl
 refine⟨by simp[k1],fun i x v hx hv=>?_⟩
 simp only[bp,ak]at hx;simp only[Uc,ak]at hv;obtain⟨y,hy,rfl⟩:=hx;obtain⟨z,hz,rfl⟩:=hv
 exact h.ev (k2 i z y (by simpa using hz) hy)
theorem alp(h:i6 B0 w0 nt G0 s G E a w){x:V}{g:Nat}{caps:List D}(hs:snap s x=some (.mb g caps)){v:Value}(hv:fm G E s x v):
  ∃cvs:Array Value,v= .func (.func g) #[] cvs∧cvs.size=caps.length∧(∀(i:Nat) (x:D) (v:Value),caps[i]? =some x→cvs[i]? =some v→fh (full w) x v)∧
   ((!x.isD)=false→∀(i:Nat) (x:D) (v:Value),caps[i]? =some x→cvs[i]? =some v→fh G x v):=by
 have hf:=h.a05 hs hv
 cases hf with
 | @mb _ _ vs hl hr=>
  refine⟨vs,rfl,hl,hr,fun hx=>?_⟩
  cases x with
  |d z=>
   simp only[snap,ah]at hs;subst hs
   cases hv with
   |mb hl' hr'=>exact hr'
  |_=>cases hx
theorem akt{im kp cv:Bool}{cm:Nat}{op:Op}{z:List D}(h:cOp P im kp cv cm op=some (.alloc z)):∃t,op= .alloc t∧Dk P t=some z:=by
 unfold cOp at h;split at h
 all_goals(first|(simp only[ak]at h;obtain⟨y,hy,hh⟩:=h;first|(cases hh;exact⟨_,rfl,hy⟩)|cases hh)|skip)
 all_goals(repeat' split at h)
 all_goals(first|unfold Xl at h|unfold Pu at h|skip)
 all_goals(repeat' split at h)
 all_goals(first|cases h|simp[ak]at h)
theorem aks{im kp cv:Bool}{cm:Nat}{op:Op}{n g:Nat}{xo:lb}(h:cOp P im kp cv cm op=some (.store n (.t g) xo)):∃t ad x,op= .store t ad x∧ji P t=some n∧ta ad=some (.t g)∧ta x=some xo:=by
 unfold cOp at h;split at h
 case h_9 t ad x=>
  split at h
  ·rename_i n' a' x' h1 h2 h3
   cases h;exact⟨t,ad,x,rfl,h1,h2,h3⟩
  ·cases h
 all_goals(first|(simp only[ak]at h;obtain⟨y,hy,hh⟩:=h;cases hh)|skip)
 all_goals(repeat' split at h)
 all_goals(first|unfold Xl at h|unfold Pu at h|skip)
 all_goals(repeat' split at h)
 all_goals(first|cases h|simp[ak]at h)
theorem Vt{im kp cv:Bool}{cm:Nat}{op:Op}{f:Nat}{l:List lb}{r:j6}(h:cOp P im kp cv cm op=some r)(hr:r= .call f l∨r= .ti f l∨r= .M0 f l∨r= .pz f l):∃args Co,op= .call ⟨.value (.func f),args,Co⟩∧Gn args.toList=some l:=by
 rcases hr with rfl|rfl|rfl|rfl
 all_goals
  unfold cOp at h;split at h
  all_goals(first|(simp only[ak]at h;obtain⟨y,hy,hh⟩:=h;cases hh;done)|skip)
  all_goals(repeat' split at h)
  all_goals(first|unfold Xl at h|unfold Pu at h|skip)
  all_goals(repeat' split at h)
  all_goals(first|(cases h;exact⟨_,_,rfl,by assumption⟩)|cases h|simp[ak]at h)
theorem Xk{im kp cv:Bool}{cm:Nat}{op:Op}{f:lb}{l:List lb}{r:j6}(h:cOp P im kp cv cm op=some r)(hr:r= .vb f l∨r= .Kn f l∨r= .Lz f l):∃x args Co,op= .call ⟨.value x,args,Co⟩∧ta x=some f∧Gn args.toList=some l:=by
 rcases hr with rfl|rfl|rfl
 all_goals
  unfold cOp at h;split at h
  all_goals(first|(simp only[ak]at h;obtain⟨y,hy,hh⟩:=h;cases hh;done)|skip)
  all_goals(repeat' split at h)
  all_goals(first|unfold Xl at h|unfold Pu at h|skip)
  all_goals(repeat' split at h)
  all_goals(first|(cases h;exact⟨_,_,_,rfl,by assumption,by assumption⟩)|cases h|simp[ak]at h)
theorem apg{im kp cv:Bool}{cm:Nat}{op:Op}{kk:KK}{sz by_:Nat}{x k y:lb}{ts:List Nat}(h:cOp P im kp cv cm op=some (.Xc kk sz by_ x k y ts)):False:=by
 unfold cOp at h;split at h
 all_goals(first|(simp only[ak]at h;obtain⟨y,hy,hh⟩:=h;cases hh;done)|skip)
 all_goals(repeat' split at h)
 all_goals(first|unfold Xl at h|unfold Pu at h|skip)
 all_goals(repeat' split at h)
 all_goals(first|cases h|(simp[ak]at h;done)|(simp only[ak]at h;obtain⟨y,hy,hh⟩:=h;first|cases hh|(split at hh<;>cases hh)))
theorem En(s:PS)(i ver:Nat):xn s s i ver:=⟨rfl,rfl,rfl,rfl,rfl,fun _ _ _=>rfl⟩
theorem aie(s:PS)(v:V):Gh s s v:=by
 cases v with
 |agg cs=>intro c _;cases c<;>first|trivial|exact En _ _ _
 |yi cs=>intro c _;cases c<;>first|trivial|exact En _ _ _
 |mb f ids=>exact fun p _=>⟨En _ _ _,fun cs _ c _=>by cases c<;>first|trivial|exact En _ _ _⟩
 |dv i v o=>exact⟨En _ _ _,fun cs _ c _=>by cases c<;>first|trivial|exact En _ _ _⟩
 |Ig i v l n=>exact⟨En _ _ _,fun cs _ c _=>by cases c<;>first|trivial|exact En _ _ _⟩
 |d x=>trivial
 |no=>trivial
 |_=>exact En _ _ _
theorem a1y(h:i6 B0 w0 nt G0 s G E a w){o:Oper}{K:PS→Prop}{next:Act→World→Prop}{Q:Exit→Act→World→Prop}(hd:o.dst.all (· <nt)=true){f:Nat}{args:List V}{m':Mem}{r:V}{vs:Array Value}
  (hE:nj P f s.mem args m' r)(hK:K ((s.gl m').put o.dst r))(Hq:yh P f=true→(execOp a.eval o).run P w= .ok (.enter f vs) w)(C3:vs.size=args.length)
  (hv:∀(i:Nat) (x:V) (v:Value),args[i]? =some x→vs[i]? =some v→fm G E s x v)(hn:∀a w,J6 B0 nt w0 G0 K a w→next a w):o.wp P a w next Q:=by
 unfold aH0;rw[Hq hE.1,aEn];refine(hE.2 s B0 w0 nt G0 G E a w vs rfl h C3 hv).mono ?_;rintro e w' ⟨v,G',E',rfl,hf',hv'⟩;exact hn _ _ ⟨_,G',E',hK,hf'.a3f hd hv'⟩
theorem a57(h:i6 B0 w0 nt G0 s G E a w){o:Oper}{K:PS→Prop}{next:Act→World→Prop}{Q:Exit→Act→World→Prop}(hd:o.dst.all (· <nt)=true){f:Nat}{args:List V}{R:Mem→V→Prop}{vs:Array Value}
  (hE:Cw P f s args R)(hK:∀m' r,R m' r→K ((s.gl m').put o.dst r))(Hq:yh P f=true→(execOp a.eval o).run P w= .ok (.enter f vs) w)(C3:vs.size=args.length)
  (hv:∀(i:Nat) (x:V) (v:Value),args[i]? =some x→vs[i]? =some v→fm G E s x v)(hn:∀a w,J6 B0 nt w0 G0 K a w→next a w):o.wp P a w next Q:=by
 unfold aH0;rw[Hq hE.1,aEn];refine(hE.2 B0 w0 nt G0 G E a w vs h C3 hv).mono ?_;rintro e w' ⟨v,G',E',m',r,rfl,hR,hf',hv'⟩;exact hn _ _ ⟨_,G',E',hK m' r hR,hf'.a3f hd hv'⟩
theorem Qj(h:i6 B0 w0 nt G0 s G E a w){an:Ann}{ops:Array Oper}{o:Oper}{ri:RI}(hf:Fits P nt an ops o ri){K:PS→Prop}{next:Act→World→Prop}{Q:Exit→Act→World→Prop}
  (tc:Ev P ri s K)(hn:∀a w,J6 B0 nt w0 G0 K a w→next a w):o.wp P a w next Q:=by
 obtain⟨a7z,hd,_,_⟩:=hf.spec;obtain⟨r0,hc,hri⟩:=hf;obtain⟨hop,_,_,_,_⟩:=U7 hc
 have ml:(match ri.op.ml (s.base+ri.dst.getD 0) s with|some (ids,e)=>K (e.app ri.dst (s.sn ids))|none=>False)→o.wp P a w next Q:=by
  intro hh;split at hh
  ·rename_i ids e he
   rw[a7z]at he hh;rcases hri with rfl|⟨z,hz,rfl⟩|⟨n,g,x,hz,hdn,rfl⟩
   ·exact(aoz h hop he).wp hd hh hn
   ·rw[hz]at hop
    obtain⟨t,ho,ht⟩:=akt hop;refine po.wp hd (s':=kn.app o.dst (s.sn ids) e) ?_ hh hn;unfold execOp;rw[ho];exact ac8 h ht he
   ·rw[hz]at hop
    obtain⟨t,ad,x',ho,hs,had,hx⟩:=aks hop;refine po.wp hd (s':=kn.app o.dst (s.sn ids) e) ?_ hh hn;unfold execOp;rw[ho]
    have e1:a.eval ad=a.tmps.getD g undef:=by
     cases ad with
     |tmp t=>simp only[ta,ah,lb.t.injEq]at had;subst had;rfl
     |const v=>simp[ta]at had
     |func f=>simp[ta]at had
     |global g=>cases had
    dsimp only
    rw[e1];have aCg:o.dst=none:=a7z.symm.trans hdn;rw[aCg]at he⊢;exact akh h hs (h.ev hx) he
  ·exact hh.elim
 unfold Ev at tc
 have opc:∀(q:j6),(∀n,q≠ .w8 n)→(∀g n x,q≠ .init g n x)→ri.op=q→r0.op=q:=by
  intro q h1 h2 hq;rcases hri with rfl|⟨z,_,rfl⟩|⟨n,g,x,_,_,rfl⟩
  ·exact hq
  ·exact absurd hq.symm (h1 _)
  ·exact absurd hq.symm (h2 _ _ _)
 have go:∀{f:Nat} {as:Array Operand} {Co:Array TypeId},o.op= .call ⟨.value (.func f),as,Co⟩→yh P f=true→(execOp a.eval o).run P w= .ok (.enter f (as.map a.eval)) w:=by
  intro f as Co ho hcb;unfold execOp;rw[ho];simp only[ba,resolve,Act.eval,av3,dc,aw,invoke];rw[I5 hcb];simp
 split at tc
 ·rename_i hg
  have Tp:=opc _ (by simp) (by simp) hg
  rw[Tp]at hop;exact(apg hop).elim
 ·rename_i f args Ks
  have Tp:=opc _ (by simp) (by simp) Ks
  obtain⟨as,Co,ho,hl⟩:=Vt hop (.inr (.inr (.inr Tp)));obtain⟨k1,k2⟩:=M4 h hl;rw[a7z]at tc;obtain⟨R,hE,hK⟩:=tc;exact a57 h hd hE hK (go ho) k1 k2 hn
 ·rename_i f args Ks
  have Tp:=opc _ (by simp) (by simp) Ks
  obtain⟨fx,as,Co,ho,hfx,hl⟩:=Xk hop (.inr (.inr Tp));obtain⟨k1,k2⟩:=M4 h hl;split at tc
  ·rename_i g caps hev
   rw[a7z]at tc;obtain⟨R,hE,hK⟩:=tc;have hfv:=h.ev hfx;rw[hev]at hfv;have hfv:fh G (.mb g caps) (a.eval fx):=hfv;generalize hfe:a.eval fx=fv at hfv
   cases hfv with
   | @mb _ _ cvs hcl hcr=>
    refine a57 h hd hE hK (vs:=as.map a.eval++cvs) (fun hcb=>?_) (by simp at k1⊢;omega) (fun i x v hx hv=>?_) hn
    ·unfold execOp
     rw[ho];simp only[ba,resolve,hfe,av3,dc,aw,invoke];rw[I5 hcb];simp
    ·by_cases hi:i<(args.map (·.ev s)).length
     ·rw[jr hi]at hx
      rw[yc (by omega)]at hv
      exact k2 i x v hx hv
     ·rw[jy (by omega)]at hx
      rw[a01 (by omega)]at hv
      rw[k1]at hv;simp only[bp,ak]at hx;obtain⟨y,hy,rfl⟩:=hx;exact hcr _ y v hy hv
  ·exact tc.elim
 ·rename_i f args Ks
  have Tp:=opc _ (by simp) (by simp) Ks
  obtain⟨as,Co,ho,hl⟩:=Vt hop (.inr (.inl Tp));obtain⟨k1,k2⟩:=M4 h hl;rw[a7z]at tc;obtain⟨m',r,hE,hK⟩:=tc;exact a1y h hd hE hK (go ho) k1 k2 hn
 ·rename_i f args Ks
  have Tp:=opc _ (by simp) (by simp) Ks
  obtain⟨as,Co,ho,hl⟩:=Vt hop (.inr (.inr (.inl Tp)));obtain⟨k1,k2⟩:=M4 h hl;rw[a7z]at tc;obtain⟨r,hF,hK⟩:=tc
  exact a1y h hd (hF s fun x _=>aie s x) hK (go ho) k1 k2 hn
 ·rename_i f args Ks
  have Tp:=opc _ (by simp) (by simp) Ks
  obtain⟨fx,as,Co,ho,hfx,hl⟩:=Xk hop (.inr (.inl Tp));obtain⟨k1,k2⟩:=M4 h hl;split at tc
  ·rename_i g caps hev
   rw[a7z]at tc;obtain⟨m',r,hE,hK⟩:=tc;have hfv:=h.ev hfx;rw[hev]at hfv;have hfv:fh G (.mb g caps) (a.eval fx):=hfv;generalize hfe:a.eval fx=fv at hfv
   cases hfv with
   | @mb _ _ cvs hcl hcr=>
    refine a1y h hd hE hK (vs:=as.map a.eval++cvs) (fun hcb=>?_) (by simp at k1⊢;omega) (fun i x v hx hv=>?_) hn
    ·unfold execOp
     rw[ho];simp only[ba,resolve,hfe,av3,dc,aw,invoke];rw[I5 hcb];simp
    ·by_cases hi:i<(args.map (·.ev s)).length
     ·rw[jr hi]at hx
      rw[yc (by omega)]at hv
      exact k2 i x v hx hv
     ·rw[jy (by omega)]at hx
      rw[a01 (by omega)]at hv
      rw[k1]at hv;simp only[bp,ak]at hx;obtain⟨y,hy,rfl⟩:=hx;exact hcr _ y v hy hv
  ·exact tc.elim
 ·rename_i f args Ks
  have Tp:=opc _ (by simp) (by simp) Ks
  obtain⟨as,Co,ho,hl⟩:=Vt hop (.inl Tp);obtain⟨k1,k2⟩:=M4 h hl;rw[a7z]at tc
  exact ahe h hd (vs:=as.map a.eval) (cvs:= #[]) tc (fun hcb=>by rw[go ho hcb];simp) k1 rfl k2 (fun i x v hx _=>by simp at hx) (fun _ i x v hx _=>by simp at hx) hn
 ·rename_i f args Ks
  have Tp:=opc _ (by simp) (by simp) Ks
  obtain⟨fx,as,Co,ho,hfx,hl⟩:=Xk hop (.inl Tp);obtain⟨k1,k2⟩:=M4 h hl;split at tc
  ·rename_i g caps hsn
   rw[a7z]at tc;obtain⟨cvs,e1,hcz,hcv,hcg⟩:=alp h hsn (h.ev hfx)
   refine ahe h hd (vs:=as.map a.eval) (cvs:=cvs) tc (fun hcb=>?_) k1 hcz k2 hcv hcg hn
   unfold execOp;rw[ho];simp only[ba,resolve,e1,av3,dc,aw,invoke];rw[I5 hcb];simp
  ·exact tc.elim
 ·exact ml tc
end
section
variable{P:Program}{s s':PS}
theorem Vw{α:Type}{l:List α}{p q:α→Bool}(h:∀x∈l,p x=q x):l.all p=l.all q:=by
 induction l with
 |nil=>rfl
 |cons x r ih=>simp only[Sl,h x (by simp),ih fun y hy=>h y (by simp[hy])]
theorem Rx{v:V}(h:Gh s s' v):v.live s'=v.live s:=by
 cases v with
 |ref i v l=>simp only[V.live,h.Gl]
 |ku i v=>simp only[V.live,h.ents]
 |dv i v o=>simp only[V.live,h.1.cs]
 |Fl i v l j o=>simp only[V.live,h.Gl]
 |mb f ids=>
  simp only[V.live]
  exact Vw fun p hp=>by rw[(h p hp).1.cs]
 |Ig i v l n=>simp only[V.live,h.1.cs]
 |Fo i v m j=>simp only[V.live,h.Gl]
 |win i v m o l=>simp only[V.live,h.Gl]
 |_=>rfl
theorem aak{c:C}(h:Fq s s' c):c.one s'=c.one s:=by
 cases c with
 |d x=>rfl
 |ref i v l=>exact Rx (v:= .ref i v l) h
 |ku i v=>exact Rx (v:= .ku i v) h
 |ptr i v o=>simp only[C.one,V.live,h.cs]
theorem Lx{v:V}(h:Gh s s' v):v.cells s'=v.cells s:=by
 cases v with
 |ref i v l=>simp only[V.cells,h.Gl]
 |ku i v=>simp only[V.cells,h.ents]
 |dv i v o=>simp only[V.cells,h.1.cs]
 |d x=>cases x<;>rfl
 |_=>rfl
theorem U6{v:V}(h:Gh s s' v){cs:List C}(hc:v.cells s=some cs):∀c∈cs,Fq s s' c:=by
 cases v with
 |d x=>cases x<;>simp[V.cells]at hc<;>(try subst hc)<;>intro c hcm<;>simp at hcm<;>(first|subst hcm|(obtain⟨y,_,rfl⟩:=hcm))<;>trivial
 |ref i v l=>
  simp only[V.cells]at hc;split at hc
  ·split at hc
   ·injection hc with hc;subst hc;intro c hcm;simp at hcm;subst hcm;exact h
   ·cases hc
  ·cases hc
 |ku i v=>
  simp only[V.cells]at hc;split at hc
  ·injection hc with hc;subst hc;intro c hcm;simp at hcm;subst hcm;exact h
  ·cases hc
 |dv i v o=>
  simp only[V.cells]at hc;split at hc
  ·injection hc with hc;subst hc;intro c hcm;simp at hcm;subst hcm;exact h.1
  ·cases hc
 |agg cs'=>simp only[V.cells,ah]at hc;subst hc;exact h
 |_=>cases hc
theorem aca{v:V}(h:Gh s s' v)(n:Nat)(g:Bool):A8 s' n g v=A8 s n g v:=by
 cases v with
 |dv i v o=>simp only[A8,h.1.cs]
 |Fl i v l j o=>simp only[A8,h.els,h.elc]
 |d x=>cases x<;>rfl
 |_=>rfl
theorem a8h{v:V}(h:Gh s s' v){xs:List C}(hx:∀c∈xs,Fq s s' c)(n:Nat):w9 s' n xs v=w9 s n xs v:=by
 have e:xs.all (C.one s')=xs.all (C.one s):=Vw fun c hc=>aak (hx c hc)
 cases v with
 |dv i v o=>simp only[w9,h.1.cs,e]
 |Fl i v l j o=>simp only[w9,Cu,h.els,h.elc,e]
 |_=>rfl
theorem a29{v:V}(h:Gh s s' v)(off:Nat):Ox s' off v=Ox s off v:=by
 cases v with
 |dv i v o=>simp only[Ox,h.1.cs]
 |Fl i v l j o=>simp only[Ox,h.Gl]
 |d x=>cases x<;>rfl
 |_=>rfl
theorem acb{v:V}(h:Gh s s' v)(n:Nat)(i:Int):I3 s' n i v=I3 s n i v:=by
 cases v with
 |ref i v l=>simp only[I3,h.Gl]
 |Ig i v l n=>simp only[I3,h.1.cs]
 |d x=>cases x<;>rfl
 |_=>rfl
theorem afd{v:V}(h:Gh s s' v)(k:TK):Lw s' k v=Lw s k v:=by
 cases v with
 |ref i v l=>cases k<;>simp only[Lw,h.Gl]
 |ku i v=>cases k<;>simp only[Lw,h.ents]
 |Ig i v l n=>cases k<;>simp only[Lw,h.1.cs]
 |win i v m o l=>cases k<;>simp only[Lw,h.Gl]
 |d x=>cases k<;>cases x<;>rfl
 |_=>cases k<;>rfl
theorem a11{v:V}(h:Gh s s' v)(k:TK):isNil s' k v=isNil s k v:=by
 have e:=Rx h
 cases v with
 |d x=>cases k<;>cases x with
  |dt n l=>cases l<;>rfl
  |_=>rfl
 |ref i v l=>cases k<;>simp only[isNil,e]
 |ku i v=>cases k<;>simp only[isNil,e]
 |dv i v o=>cases k<;>simp only[isNil,e]
 |Fl i v l j o=>cases k<;>simp only[isNil,e]
 |mb f ids=>cases k<;>simp only[isNil,e]
 |agg cs=>cases k<;>rfl
 |yi cs=>cases k<;>rfl
 |Ig _ _ _ _=>cases k<;>rfl
 |Fo _ _ _ _=>cases k<;>rfl
 |win _ _ _ _ _=>cases k<;>rfl
 |no=>cases k<;>rfl
theorem aj8{c:C}(h:Fq s s' c):Nr s' c=Nr s c:=by
 cases c with
 |d x=>rfl
 |ref i v l=>simp only[Nr,h.els]
 |ku i v=>simp only[Nr,h.ents]
 |ptr i v o=>rfl
theorem ae0:∀{cs:List C},(∀c∈cs,Fq s s' c)→Mh s' cs=Mh s cs:=by
 intro cs
 induction cs with
 |nil=>intro _;rfl
 |cons c r ih=>intro h;simp only[Mh,aj8 (h c (by simp)),ih fun c' hc=>h c' (by simp[hc])]
theorem afe{v:V}(h:Gh s s' v):ov s' v=ov s v:=by
 cases v with
 |ref i v l=>simp only[ov,h.els]
 |win i v m o l=>simp only[ov,h.els]
 |d x=>cases x<;>rfl
 |_=>rfl
theorem awz{v:V}(h:Gh s s' v):Pz s' v=Pz s v:=by
 cases v with
 |ref i v l=>simp only[Pz,h.elc]
 |d x=>cases x<;>rfl
 |_=>rfl
theorem aou{v:V}(h:Gh s s' v):v.ent s'=v.ent s:=by
 have e:=Rx h
 cases v with
 |d x=>rfl
 |ref i v l=>simp only[V.ent,e]
 |ku i v=>simp only[V.ent,e]
 |dv i v o=>simp only[V.ent,e]
 |_=>rfl
theorem aff{v:V}(h:Gh s s' v)(n a:Nat):Q0 s' n a v=Q0 s n a v:=by
 cases v with
 |ref i v l=>
  simp only[Q0,h.els]
  cases he:s.els i v with
  |none=>rfl
  |some p=>
   have hp':s'.els i v=some p:=by rw[h.els];exact he
   have e:s'.ver i=s.ver i:=(v7 (s:=s') (sz:=p.1) (els:=p.2) hp').1.trans (v7 (s:=s) (sz:=p.1) (els:=p.2) he).1.symm;simp only[e]
 |d x=>cases x<;>rfl
 |_=>rfl
theorem afc{v:V}(h:Gh s s' v):I2 s' v=I2 s v:=by
 cases v with
 |ku i v=>simp only[I2,h.ents]
 |d x=>cases x<;>rfl
 |_=>rfl
theorem ada{c:C}(h:Fq s s' c):mc s' c=mc s c:=by
 cases c with
 |d x=>rfl
 |ref i v l=>simp only[mc,h.els,h.dp 6 _ (.inl ⟨l,rfl⟩)]
 |ku i v=>simp only[mc,h.dp 6 _ (.inr rfl)]
 |ptr i v o=>rfl
theorem Gj:∀{cs:List C},(∀c∈cs,Fq s s' c)→iz s' cs=iz s cs:=by
 intro cs
 induction cs with
 |nil=>intro _;rfl
 |cons c r ih=>intro h;simp only[iz,ada (h c (by simp)),ih fun c' hc=>h c' (by simp[hc])]
theorem a4t{v:V}(h:Gh s s' v):snap s' v=snap s v:=by
 cases v with
 |ref i v l=>simp only[snap,h.els,h.dp 6 _ (.inl ⟨l,rfl⟩)]
 |ku i v=>simp only[snap,h.dp 6 _ (.inr rfl)]
 |Ig i v l n=>
  simp only[snap,h.1.cs]
  cases hc:s.cs i v with
  |none=>rfl
  |some cs=>simp only[Gj (h.2 cs hc)]
 |dv i v o=>
  simp only[snap,h.1.cs]
  cases hc:s.cs i v with
  |none=>rfl
  |some cs=>simp only[Gj (h.2 cs hc)]
 |mb f ids=>
  match ids,h with
  |[],h=>rfl
  |[p],h=>
   obtain⟨i,v⟩:=p
   have h1:=h (i,v) (by simp)
   simp only[snap,h1.1.cs]
   cases hc:s.cs i v with
   |none=>rfl
   |some cs=>simp only[Gj (h1.2 cs hc)]
  |[p,q],h=>
   obtain⟨i,v⟩:=p;obtain⟨j,u⟩:=q
   have h1:=h (i,v) (by simp)
   have h2:=h (j,u) (by simp)
   simp only[snap,h1.1.cs,h2.1.cs]
   cases hc:s.cs i v with
   |none=>rfl
   |some cs=>
    cases hc':s.cs j u with
    |none=>rfl
    |some cs'=>simp only[Gj (h1.2 cs hc),Gj (h2.2 cs' hc')]
  |p::q::r::l,h=>rfl
 |agg cs=>simp only[snap,Gj h]
 |_=>rfl
def Vy(s s':PS)(x:lb):Prop:=x.ev s'=x.ev s∧Gh s s' (x.ev s)
theorem Y2:∀{ps:List (Nat×Nat×lb)},(∀p∈ps,Vy s s' p.2.2)→Hl s' ps=Hl s ps:=by
 intro ps
 induction ps with
 |nil=>intro _;rfl
 |cons p r ih=>
  obtain⟨o,n,x⟩:=p;intro h
  obtain⟨h1,h2⟩:=h (o,n,x) (by simp)
  simp only at h1 h2
  simp only[Hl,h1,Lx h2,ih fun p hp=>h p (by simp[hp])]
theorem aaf:∀{ps:List (Nat×Nat×lb)},(∀p∈ps,Vy s s' p.2.2)→Lp s' ps=Lp s ps:=by
 intro ps
 induction ps with
 |nil=>intro _;rfl
 |cons p r ih=>
  obtain⟨o,n,x⟩:=p;intro h
  obtain⟨h1,h2⟩:=h (o,n,x) (by simp)
  simp only at h1 h2
  simp only[Lp,h1,Lx h2,ih fun p hp=>h p (by simp[hp])]
  cases hc:(x.ev s).cells s with
  |none=>rfl
  |some cs=>
   cases hq:Lp s r with
   |none=>rfl
   |some q=>simp only[ae0 (U6 h2 hc)]
theorem a5d{x:Option lb}(h:∀o∈x.toList,Vy s s' o):S9 s' x=S9 s x:=by
 cases x with
 |none=>rfl
 |some o=>simp only[S9,(h o (by simp)).1]
theorem Wo{x:Option lb}(h:∀o∈x.toList,Vy s s' o)(n:Nat):Oh s' n x=Oh s n x:=by
 cases x with
 |none=>rfl
 |some o=>simp only[Oh,(h o (by simp)).1]
theorem ad9:∀{l:List lb},(∀x∈l,Vy s s' x)→Gt s' (l.map (·.ev s'))=Gt s (l.map (·.ev s)):=by
 intro l
 induction l with
 |nil=>intro _;rfl
 |cons x r ih=>
  intro h
  obtain⟨h1,h2⟩:=h x (by simp)
  simp only[cu,Gt,h1,a4t h2,ih fun p hp=>h p (by simp[hp])]
theorem aed(h:s'.mem=s.mem)(d sz b:Nat)(x y:V):O2 s' d sz b x y=O2 s d sz b x y:=by
 cases s;cases s';simp only[PS.mem,Mem.mk.injEq]at h;obtain⟨rfl,rfl,rfl⟩:=h;rfl
theorem asf(h:s'.mem=s.mem)(n:Nat)(x y:V):v8 s' n x y=v8 s n x y:=by
 cases s;cases s';simp only[PS.mem,Mem.mk.injEq]at h;obtain⟨rfl,rfl,rfl⟩:=h;rfl
theorem ase(h:s'.mem=s.mem)(c:C):c.one s'=c.one s:=by
 cases s;cases s';simp only[PS.mem,Mem.mk.injEq]at h;obtain⟨rfl,rfl,rfl⟩:=h;rfl
theorem anp(h:s'.mem=s.mem)(i v:Nat):s'.ents i v=s.ents i v:=by
 cases s;cases s';simp only[PS.mem,Mem.mk.injEq]at h;obtain⟨rfl,rfl,rfl⟩:=h;rfl
theorem Rw(h:s'.mem=s.mem)(i v:Nat):s'.els i v=s.els i v∧s'.ver=s.ver:=by
 cases s;cases s';simp only[PS.mem,Mem.mk.injEq]at h;obtain⟨rfl,rfl,rfl⟩:=h;exact⟨rfl,rfl⟩
theorem ap0{d:Nat}{r:j6}(hme:r.kind= .write→s'.mem=s.mem)(ho:∀x∈r.pj,Vy s s' x)(hbs:s'.base=s.base)(hv:s'.ver d=s.ver d)(hi:∀g n x,r= .init g n x→s'.bm (s.base+g)=s.bm (s.base+g)∧s'.ver (s.base+g)=s.ver (s.base+g)):r.ml d s'=r.ml d s:=by
 cases r with
 |ij x=>simp only[j6.ml,(ho x (by simp[j6.pj])).1]
 |pick c a b=>simp only[j6.ml,(ho c (by simp[j6.pj])).1,(ho a (by simp[j6.pj])).1,(ho b (by simp[j6.pj])).1]
 |alloc z=>simp only[j6.ml,hv]
 |box n x=>obtain⟨h1,h2⟩:=ho x (by simp[j6.pj]);simp only[j6.ml,h1,Lx h2,hv]
 |load n g x=>obtain⟨h1,h2⟩:=ho x (by simp[j6.pj]);simp only[j6.ml,h1,aca h2]
 |store n a x=>
  obtain⟨h1,h2⟩:=ho x (by simp[j6.pj])
  obtain⟨h3,h4⟩:=ho a (by simp[j6.pj])
  simp only[j6.ml,h1,h3,Lx h2]
  cases hc:(x.ev s).cells s with
  |none=>exact asf (hme rfl) _ _ _
  |some cs=>simp only[a8h h4 (U6 h2 hc)]
 |V3 x=>obtain⟨h1,h2⟩:=ho x (by simp[j6.pj]);simp only[j6.ml,h1,a11 h2]
 |xj o x=>obtain⟨h1,h2⟩:=ho x (by simp[j6.pj]);simp only[j6.ml,h1,a29 h2]
 |tf l n x i=>obtain⟨h1,h2⟩:=ho x (by simp[j6.pj]);simp only[j6.ml,h1,a29 h2,(ho i (by simp[j6.pj])).1]
 |te n x i=>obtain⟨h1,h2⟩:=ho x (by simp[j6.pj]);simp only[j6.ml,h1,acb h2,(ho i (by simp[j6.pj])).1]
 |Wy x i=>simp only[j6.ml,(ho x (by simp[j6.pj])).1,(ho i (by simp[j6.pj])).1]
 |Zh o n g x=>simp only[j6.ml,(ho x (by simp[j6.pj])).1]
 |len k x=>obtain⟨h1,h2⟩:=ho x (by simp[j6.pj]);simp only[j6.ml,h1,afd h2]
 |bin op x y=>simp only[j6.ml,(ho x (by simp[j6.pj])).1,(ho y (by simp[j6.pj])).1]
 |eqs ks n x y=>simp only[j6.ml,(ho x (by simp[j6.pj])).1,(ho y (by simp[j6.pj])).1]
 |Hp k n x=>obtain⟨h1,h2⟩:=ho x (by simp[j6.pj]);simp only[j6.ml,h1,a11 h2]
 |beq n x y=>simp only[j6.ml,(ho x (by simp[j6.pj])).1,(ho y (by simp[j6.pj])).1]
 |un op x=>simp only[j6.ml,(ho x (by simp[j6.pj])).1]
 |conv k x=>simp only[j6.ml,(ho x (by simp[j6.pj])).1]
 |Ye x=>simp only[j6.ml,(ho x (by simp[j6.pj])).1]
 |build z ps=>simp only[j6.ml,Y2 fun p hp=>ho p.2.2 (by simp only[j6.pj,jc];exact⟨p,hp,rfl⟩)]
 |xi im n sz z ps=>simp only[j6.ml,hv,aaf fun p hp=>ho p.2.2 (by simp only[j6.pj,jc];exact⟨p,hp,rfl⟩)]
 |app sz b x y=>
  obtain⟨h1,h2⟩:=ho x (by simp[j6.pj])
  obtain⟨h3,h4⟩:=ho y (by simp[j6.pj])
  simp only[j6.ml,h1,h3,afe h4,hv,aed (hme rfl)];generalize x.ev s=vx at h2⊢
  cases vx with
  |ref i v l=>simp only[h2.els]
  |win i v m o l=>simp only[h2.els]
  |d z=>cases z<;>rfl
  |_=>rfl
 |Xg n sz z ps=>
  have e:∀cs:List C,cs.all (C.one s')=cs.all (C.one s):=fun cs=>Vw fun c _=>ase (hme rfl) c
  simp only[j6.ml,hv,e,Y2 fun p hp=>ho p.2.2 (by simp only[j6.pj,jc];exact⟨p,hp,rfl⟩)]
 |Xc kk sz b x k y ts=>rfl
 |bad=>rfl
 |Zi sz b z x y=>simp only[j6.ml,(ho x (by simp[j6.pj])).1,(ho y (by simp[j6.pj])).1,hv]
 |a8n x=>simp only[j6.ml,(ho x (by simp[j6.pj])).1]
 |a8v l n x=>
  obtain⟨h1,h2⟩:=ho x (by simp[j6.pj])
  simp only[j6.ml,h1];generalize x.ev s=vx at h2⊢
  cases vx with
  |dv i v o=>cases o<;>first|rfl|simp only[h2.1.cs]
  |_=>rfl
 |Fo n x j k=>
  obtain⟨h1,h2⟩:=ho x (by simp[j6.pj])
  simp only[j6.ml,h1,(ho j (by simp[j6.pj])).1,(ho k (by simp[j6.pj])).1]
  generalize x.ev s=vx at h2⊢;generalize j.ev s=vj;generalize k.ev s=vk
  cases vx with
  |ref i v l=>cases vj with
   |d zj=>cases zj with
    |int _ _=>cases vk with
     |d zk=>cases zk with
      |int _ _=>simp only[h2.Gl]
      |_=>rfl
     |_=>rfl
    |_=>rfl
   |_=>rfl
  |_=>rfl
 |Le n x j=>
  obtain⟨h1,h2⟩:=ho x (by simp[j6.pj])
  simp only[j6.ml,h1,(ho j (by simp[j6.pj])).1,(Rw (hme rfl) 0 0).2,fun i v=>(Rw (hme rfl) i v).1]
 |Kv n x lo up mx=>
  obtain⟨h1,h2⟩:=ho x (by simp[j6.pj])
  have e1:S9 s' lo=S9 s lo:=a5d fun o h=>ho o (by simp only[j6.pj,dn,oo];exact .inr (.inl (.inl h)))
  have e2:∀n,Oh s' n up=Oh s n up:=Wo fun o h=>ho o (by simp only[j6.pj,dn,oo];exact .inr (.inl (.inr h)))
  have e3:∀n,Oh s' n mx=Oh s n mx:=Wo fun o h=>ho o (by simp only[j6.pj,dn,oo];exact .inr (.inr h))
  simp only[j6.ml,h1];generalize x.ev s=vx at h2⊢
  cases vx with
  |ref i v l=>simp only[h2.Gl,a1z,e1,e2,e3]
  |win i v m o l=>simp only[h2.Gl,a1z,e1,e2,e3]
  |_=>rfl
 |trim x=>
  obtain⟨h1,h2⟩:=ho x (by simp[j6.pj])
  simp only[j6.ml,h1,(Rw (hme rfl) 0 0).2,fun i v=>(Rw (hme rfl) i v).1]
 |clr z x=>
  obtain⟨h1,h2⟩:=ho x (by simp[j6.pj])
  simp only[j6.ml,h1,(Rw (hme rfl) 0 0).2,fun i v=>(Rw (hme rfl) i v).1]
 |slice n x lo up=>
  obtain⟨h1,h2⟩:=ho x (by simp[j6.pj])
  have e1:S9 s' lo=S9 s lo:=a5d fun o h=>ho o (by simp only[j6.pj,dn,oo];exact .inr (.inl h))
  have e2:∀n,Oh s' n up=Oh s n up:=Wo fun o h=>ho o (by simp only[j6.pj,dn,oo];exact .inr (.inr h))
  simp only[j6.ml,h1,e1,e2]
 |Ho=>simp only[j6.ml,hv]
 |lookup kk z x i ok=>obtain⟨h1,h2⟩:=ho x (by simp[j6.pj]);simp only[j6.ml,h1,afc h2,(ho i (by simp[j6.pj])).1]
 |Wq kk x k v=>
  obtain⟨h1,h2⟩:=ho x (by simp[j6.pj])
  obtain⟨h3,h4⟩:=ho v (by simp[j6.pj])
  simp only[j6.ml,h1,(ho k (by simp[j6.pj])).1,h3,aou h4,anp (hme rfl)]
 |Kr f caps=>
  match caps,ho with
  |[],ho=>rfl
  |[.t a],ho=>have h1:s'.tmp a=s.tmp a:=(ho (.t a) (by simp[j6.pj])).1;simp only[j6.ml,h1]
  |[.t a,.t b],ho=>
   have h1:s'.tmp a=s.tmp a:=(ho (.t a) (by simp[j6.pj])).1
   have h2:s'.tmp b=s.tmp b:=(ho (.t b) (by simp[j6.pj])).1
   simp only[j6.ml,h1,h2]
  |[.c x],ho=>rfl
  |[.c x,y],ho=>rfl
  |[.t a,.c y],ho=>rfl
  |x::y::z::l,ho=>cases x<;>cases y<;>rfl
 |ext x i=>simp only[j6.ml,(ho x (by simp[j6.pj])).1]
 |Ce m x y=>simp only[j6.ml,(ho x (by simp[j6.pj])).1,(ho y (by simp[j6.pj])).1]
 |call f args=>rfl
 |vb f args=>rfl
 |ti f args=>rfl
 |M0 f args=>rfl
 |Kn f args=>rfl
 |pz f args=>rfl
 |Lz f args=>rfl
 |a14 l n g x i=>simp only[j6.ml,(ho x (by simp[j6.pj])).1,(ho i (by simp[j6.pj])).1]
 |slice3 n x j k=>
  obtain⟨h1,h2⟩:=ho x (by simp[j6.pj])
  simp only[j6.ml,h1,(ho j (by simp[j6.pj])).1,(ho k (by simp[j6.pj])).1,aff h2]
 |w8 n=>simp only[j6.ml,hv]
 |init g n x=>
  obtain⟨h1,h2⟩:=ho x (by simp[j6.pj])
  have h3:s'.tmp g=s.tmp g:=(ho (.t g) (by simp[j6.pj])).1
  obtain⟨h4,h5⟩:=hi g n x rfl
  have e:∀cs,(x.ev s).cells s=some cs→cs.all (C.one s')=cs.all (C.one s):=fun cs hc=>Vw fun c hcm=>aak (U6 h2 hc c hcm)
  simp only[j6.ml,h1,h3,hbs,h4,h5,Lx h2];generalize(x.ev s).cells s=q at e⊢
  cases s.tmp g with
  |dv id ver off=>
   cases off with
   |zero=>
    cases s.bm (s.base+g)with
    |none=>rfl
    |some b=>
     cases b with
     |Ph m=>
      cases q with
      |none=>rfl
      |some cs=>simp only[e cs rfl]
     |_=>rfl
   |succ _=>rfl
  |_=>rfl
end
section
variable{P:Program}{s s':PS}
def kn.tw(d:Option Nat):kn→Option (Nat×V)
 | .val v=>d.map (·,v)
 | .new v _ _=>d.map (·,v)
 | .set _ _=>d.map (·,.no)
 | .grow v _ _=>d.map (·,v)
 | .Yu v _=>d.map (·,v)
 | .W9 _ _=>d.map (·,.no)
 | .init v t _ _=>some (t,v)
 | .cut v _ _=>d.map (·,v)
 | .Gf .. =>d.map (·,.no)
 | .mem _ v=>d.map (·,v)
def kn.bw:kn→Option (Nat×Option B)
 | .new _ id b=>some (id,some b)
 | .set id b=>some (id,some b)
 | .grow _ id b=>some (id,some b)
 | .init _ _ id cs=>some (id,some (.loc cs))
 | .cut _ id b=>some (id,some b)
 |_=>none
def kn.vw:kn→Option Nat
 | .new _ id _=>some id
 | .Yu _ id=>some id
 | .init _ _ id _=>some id
 | .cut _ id _=>some id
 |_=>none
def kn.isM:kn→Bool
 | .mem .. =>true
 | .Gf .. =>true
 |_=>false
def kn.mw:kn→Option (Nat×Option (List (D×C)))
 | .Yu _ id=>some (id,some [])
 | .W9 id es=>some (id,some es)
 |_=>none
def mod{α:Type}(f:Nat→α):Option (Nat×α)→Nat→α
 |none=>f
 |some (i,a)=>jf f i a
def inc(f:Nat→Nat):Option Nat→Nat→Nat
 |none=>f
 |some i=>jf f i (f i+1)
theorem Rj(d:Option Nat)(s:PS)(e:kn)(hm:e.isM=false):e.app d s=⟨mod s.tmp (e.tw d),mod s.bm e.bw,inc s.ver e.vw,mod s.mp e.mw,s.base,s.ctx⟩:=by
 cases e<;>cases d<;>first|rfl|cases hm
theorem au0(d:Option Nat)(s:PS)(e:kn):(e.app d s).tmp=mod s.tmp (e.tw d):=by
 cases e<;>cases d<;>rfl
theorem P3(d:Option Nat)(s:PS)(e:kn):(e.app d s).base=s.base:=by
 cases e<;>cases d<;>rfl
theorem au1(d:Option Nat)(s:PS)(e:kn):(e.app d s).ctx=s.ctx:=by
 cases e<;>cases d<;>rfl
theorem Fg(ids:List Nat):∀(s:PS),(s.sn ids).base=s.base∧(s.sn ids).ctx=s.ctx:=by
 induction ids with
 |nil=>intro s;exact⟨rfl,rfl⟩
 |cons i r ih=>intro s;rw[PS.Jo];exact ih _
theorem a0o{α:Type}(f:Nat→α){x y:Option (Nat×α)}(h:∀i a j b,x=some (i,a)→y=some (j,b)→i≠j):mod (mod f x) y=mod (mod f y) x:=by
 cases x with
 |none=>rfl
 |some p=>
  cases y with
  |none=>rfl
  |some q=>
   obtain⟨i,a⟩:=p;obtain⟨j,b⟩:=q;have hij:=h i a j b rfl rfl
   funext k
   simp only[mod,al]
   split<;>split<;>first|rfl|(subst_vars;exact absurd rfl hij)
theorem ao0(f:Nat→Nat){x y:Option Nat}(h:∀i j,x=some i→y=some j→i≠j):inc (inc f x) y=inc (inc f y) x:=by
 cases x with
 |none=>rfl
 |some i=>
  cases y with
  |none=>rfl
  |some j=>
   have hij:=h i j rfl rfl
   funext k
   simp only[inc,al]
   split<;>split<;>subst_vars<;>first|rfl|exact absurd rfl hij|simp_all
theorem acp{d1 d2:Option Nat}{e1 e2:kn}(ht:∀i a j b,e1.tw d1=some (i,a)→e2.tw d2=some (j,b)→i≠j)(hb:∀i a j b,e1.bw=some (i,a)→e2.bw=some (j,b)→i≠j)
  (hv:∀i j,e1.vw=some i→e2.vw=some j→i≠j)(hm:∀i a j b,e1.mw=some (i,a)→e2.mw=some (j,b)→i≠j)(m1:e1.isM=false)(m2:e2.isM=false):e2.app d2 (e1.app d1 s)=e1.app d1 (e2.app d2 s):=by
 rw[Rj _ _ _ m1,Rj _ _ _ m2,Rj _ _ _ m2,Rj _ _ _ m1];simp only[a0o s.tmp ht,a0o s.bm hb,ao0 s.ver hv,a0o s.mp hm]
theorem aro(ids:List Nat):∀(s:PS) (d:Option Nat) (v:V),(s.put d v).sn ids=(s.sn ids).put d v:=by
 induction ids with
 |nil=>intro s d v;rfl
 |cons i r ih=>intro s d v;rw[PS.Jo,PS.Jo,←ih];rfl
theorem Zp(ids:List Nat):∀(s:PS),(s.sn ids).tmp=s.tmp:=by
 induction ids with
 |nil=>intro s;rfl
 |cons i r ih=>intro s;rw[PS.Jo,ih];rfl
theorem amy(ids:List Nat):∀(s:PS) (i:Nat),(i∈ids∨(s.bm i=none∧s.mp i=none))→(s.sn ids).bm i=none∧(s.sn ids).mp i=none:=by
 induction ids with
 |nil=>
  intro s i h;rcases h with h|h
  ·cases h
  ·exact h
 |cons j r ih=>
  intro s i h;rw[PS.Jo];apply ih;by_cases e:i=j
  ·subst e;exact .inr ⟨bh _ _ _,bh _ _ _⟩
  ·rcases h with h|⟨h1,h2⟩
   ·exact .inl ((dn.1 h).resolve_left e)
   ·exact .inr ⟨(er _ _ _ _ e).trans h1,(er _ _ _ _ e).trans h2⟩
theorem ags(ids:List Nat):∀(s:PS) (i:Nat),((s.sn ids).bm i=none∨(s.sn ids).bm i=s.bm i)∧((s.sn ids).mp i=none∨(s.sn ids).mp i=s.mp i):=by
 induction ids with
 |nil=>intro s i;exact⟨.inr rfl,.inr rfl⟩
 |cons j r ih=>
  intro s i;rw[PS.Jo];obtain⟨h1,h2⟩:=ih (s.G8 j) i;by_cases e:i=j
  ·subst e
   have e1:(s.G8 i).bm i=none:=bh _ _ _;have e2:(s.G8 i).mp i=none:=bh _ _ _;rw[e1]at h1;rw[e2]at h2;exact⟨.inl (h1.elim id id),.inl (h2.elim id id)⟩
  ·have e1:(s.G8 j).bm i=s.bm i:=er _ _ _ _ e
   have e2:(s.G8 j).mp i=s.mp i:=er _ _ _ _ e;rw[e1]at h1;rw[e2]at h2;exact⟨h1,h2⟩
def a97(P:Program)(f:Nat)(args:List V)(caps:List D)(own:Bool)(s:PS)(r:D):Prop:=
 ∃ds,Gt s args=some ds∧fp P f (ds++caps) r∧(r.flat=true∨(own=false∧args.all V.isD=true))
def Spec(P:Program)(o:RI)(s:PS)(ids:List Nat)(e:kn):Prop:=
 (∃f args m' r,o.op= .ti f args∧ids=[]∧e= .mem m' r∧nj P f s.mem (args.map (·.ev s)) m' r)∨
 (∃f args g caps m' r,o.op= .Kn f args∧f.ev s= .d (.mb g caps)∧ids=[]∧e= .mem m' r∧nj P g s.mem (args.map (·.ev s)++caps.map .d) m' r)∨
 (∃f args r,o.op= .M0 f args∧ids=[]∧e= .val (.d r)∧al5 P f s (args.map (·.ev s)) r)
def Lc(P:Program)(o:RI)(s:PS)(ids:List Nat)(e:kn):Prop:=
 (wanted o s=some false∧ids=[]∧e= .val (.d (.yi [])))∨(wanted o s=some true∧
  ((∃f args r,o.op= .call f args∧ids=[]∧e= .val (.d r)∧a97 P f (args.map (·.ev s)) [] false s r)∨
   (∃f args g caps r,o.op= .vb f args∧snap s (f.ev s)=some (.mb g caps)∧ids=[]∧e= .val (.d r)∧a97 P g (args.map (·.ev s)) caps (!(f.ev s).isD) s r)∨
   o.op.ml (s.base+o.dst.getD 0) s=some (ids,e)∨Spec P o s ids e))
def Stp(P:Program)(o:RI)(s s1:PS):Prop:=∃ids e,Lc P o s ids e∧s1=e.app o.dst (s.sn ids)
def a61(P:Program):List RI→PS→PS→Prop
 |[],s,s'=>s=s'
 |o::r,s,s'=>∃s1,Stp P o s s1∧a61 P r s1 s'
theorem aj0{o:RI}{K:PS→Prop}(C4:o.isR=false)(hw:wanted o s=some true)(h:Ev P o s K):∃ids e,Lc P o s ids e∧K (e.app o.dst (s.sn ids)):=by
 unfold Ev at h;split at h
 ·rename_i ho
  unfold RI.isR at C4;rw[ho]at C4;cases C4
 ·rename_i f args ho
  unfold RI.isR at C4;rw[ho]at C4;cases C4
 ·rename_i f args ho
  unfold RI.isR at C4;rw[ho]at C4;cases C4
 ·rename_i f args ho
  obtain⟨m',r,h1,h2⟩:=h;exact⟨[],.mem m' r,.inr ⟨hw,.inr (.inr (.inr (.inl ⟨f,args,m',r,ho,rfl,rfl,h1⟩)))⟩,h2⟩
 ·rename_i f args ho
  obtain⟨r,h1,h2⟩:=h;exact⟨[],.val (.d r),.inr ⟨hw,.inr (.inr (.inr (.inr (.inr ⟨f,args,r,ho,rfl,rfl,h1⟩))))⟩,h2⟩
 ·rename_i f args ho
  split at h
  ·rename_i g caps hs
   obtain⟨m',r,h1,h2⟩:=h;exact⟨[],.mem m' r,.inr ⟨hw,.inr (.inr (.inr (.inr (.inl ⟨f,args,g,caps,m',r,ho,hs,rfl,rfl,h1⟩))))⟩,h2⟩
  ·exact h.elim
 ·rename_i f args ho
  obtain⟨ds,r,h1,h2,h3,h4⟩:=h;exact⟨[],.val (.d r),.inr ⟨hw,.inl ⟨f,args,r,ho,rfl,rfl,ds,h1,h2,h3⟩⟩,h4⟩
 ·rename_i f args ho
  split at h
  ·rename_i g caps hs
   obtain⟨ds,r,h1,h2,h3,h4⟩:=h;exact⟨[],.val (.d r),.inr ⟨hw,.inr (.inl ⟨f,args,g,caps,r,ho,hs,rfl,rfl,ds,h1,h2,h3⟩)⟩,h4⟩
  ·exact h.elim
 ·split at h
  ·rename_i ids e he
   exact⟨ids,e,.inr ⟨hw,.inr (.inr (.inl he))⟩,h⟩
  ·exact h.elim
theorem a5c{o:RI}{ids:List Nat}{e:kn}(hw:wanted o s=some true)(h:Lc P o s ids e):Ev P o s (· =e.app o.dst (s.sn ids)):=by
 rcases h with ⟨h,_⟩|⟨_,⟨f,args,r,ho,rfl,rfl,ds,h1,h2,h3⟩|⟨f,args,g,caps,r,ho,hs,rfl,rfl,ds,h1,h2,h3⟩|he|⟨f,args,m',r,ho,rfl,rfl,h1⟩|⟨f,args,g,caps,m',r,ho,hs,rfl,rfl,h1⟩|⟨f,args,r,ho,rfl,rfl,h1⟩⟩
 ·rw[hw]at h;cases h
 ·unfold Ev
  rw[ho];exact⟨ds,r,h1,h2,h3,rfl⟩
 ·unfold Ev
  rw[ho];simp only[hs];exact⟨ds,r,h1,h2,h3,rfl⟩
 ·unfold Ev
  split
  ·rename_i ho;rw[ho]at he;cases he
  ·rename_i ho;rw[ho]at he;cases he
  ·rename_i ho;rw[ho]at he;cases he
  ·rename_i ho;rw[ho]at he;cases he
  ·rename_i ho;rw[ho]at he;cases he
  ·rename_i ho;rw[ho]at he;cases he
  ·rename_i ho;rw[ho]at he;cases he
  ·rename_i ho;rw[ho]at he;cases he
  ·simp only[he]
 ·unfold Ev
  rw[ho];exact⟨m',r,h1,rfl⟩
 ·unfold Ev
  rw[ho];simp only[hs];exact⟨m',r,h1,rfl⟩
 ·unfold Ev
  rw[ho];exact⟨r,h1,rfl⟩
theorem adv:∀{l:List RI} {s:PS} {K:PS→Prop},(∀o∈l,o.isR=false)→jn P l s K→∃s',a61 P l s s'∧K s':=by
 intro l
 induction l with
 |nil=>intro s K _ h;exact⟨s,rfl,h⟩
 |cons o r ih=>
  intro s K C4 h;rw[zc]at h;split at h
  ·rename_i hw
   obtain⟨ids,e,h1,h2⟩:=aj0 (C4 o (by simp)) hw h
   obtain⟨s',h3,h4⟩:=ih (fun x hx=>C4 x (by simp[hx])) h2
   exact⟨s',⟨_,⟨ids,e,h1,rfl⟩,h3⟩,h4⟩
  ·rename_i hw
   obtain⟨s',h3,h4⟩:=ih (fun x hx=>C4 x (by simp[hx])) h
   exact⟨s',⟨_,⟨[],.val (.d (.yi [])),.inl ⟨hw,rfl,rfl⟩,rfl⟩,h3⟩,h4⟩
  ·exact h.elim
theorem Rs{o:RI}{ids:List Nat}{e:kn}(hk:o.op.kind= .pure∨o.op.kind= .read)(h:Lc P o s ids e):ids=[]∧∃v,e= .val v:=by
 rcases h with ⟨_,rfl,rfl⟩|⟨_,⟨f,args,r,ho,rfl,rfl,_⟩|⟨f,args,g,caps,r,ho,hs,rfl,rfl,_⟩|he|⟨f,args,m',r,ho,rfl,rfl,h1⟩|⟨f,args,g,caps,m',r,ho,hs,rfl,rfl,h1⟩|⟨f,args,r,ho,rfl,rfl,h1⟩⟩
 ·exact⟨rfl,_,rfl⟩
 ·exact⟨rfl,_,rfl⟩
 ·exact⟨rfl,_,rfl⟩
 rotate_left
 ·rw[ho]at hk;simp[j6.kind]at hk
 ·rw[ho]at hk;simp[j6.kind]at hk
 ·exact⟨rfl,_,rfl⟩
 ·generalize o.op=op at hk he
  cases op<;>simp only[j6.kind,reduceCtorEq,or_self,or_false,or_true,false_or]at hk<;>simp only[j6.ml,ak]at he
  case xi im n sz z ps=>
   cases im with
   |false=>simp at hk
   |true=>
    repeat' split at he
    all_goals first|(cases he;done)|(obtain⟨rfl,rfl⟩:=qg he;exact⟨rfl,_,rfl⟩)|skip
    all_goals simp_all
  all_goals(repeat' split at he)
  all_goals first
   |(cases he;done)
   |(obtain⟨rfl,rfl⟩:=qg he;exact⟨rfl,_,rfl⟩)
   |(obtain⟨_,_,he⟩:=he;obtain⟨rfl,rfl⟩:=qg (congrArg some he);exact⟨rfl,_,rfl⟩)
   |(simp only[ak]at he;obtain⟨_,_,he⟩:=he;obtain⟨rfl,rfl⟩:=qg (congrArg some he);exact⟨rfl,_,rfl⟩)
def kn.Jb(i:Nat):kn→Prop
 | .val _=>True
 | .new _ id _=>id=i
 | .Yu _ id=>id=i
 | .init _ _ id _=>id=i
 |_=>False
theorem ajd{o:RI}{ids:List Nat}{e:kn}(hk:o.op.kind= .alloc)(h:Lc P o s ids e):ids=[]∧∃i,e.Jb i∧((∃g n x,o.op= .init g n x∧i=s.base+g∧∀v t id cs,e= .init v t id cs→t=g)∨((∀g n x,o.op≠ .init g n x)∧i=s.base+o.dst.getD 0)):=by
 rcases h with ⟨_,rfl,rfl⟩|⟨_,⟨f,args,r,ho,rfl,rfl,_⟩|⟨f,args,g,caps,r,ho,hs,rfl,rfl,_⟩|he|⟨f,args,m',r,ho,rfl,rfl,h1⟩|⟨f,args,g,caps,m',r,ho,hs,rfl,rfl,h1⟩|⟨f,args,r,ho,rfl,rfl,h1⟩⟩
 ·refine⟨rfl,?_⟩
  by_cases hi:∃g n x,o.op= .init g n x
  ·obtain⟨g,n,x,hi⟩:=hi;exact⟨s.base+g,trivial,.inl ⟨g,n,x,hi,rfl,by simp⟩⟩
  ·exact⟨_,trivial,.inr ⟨fun g n x hh=>hi ⟨g,n,x,hh⟩,rfl⟩⟩
 ·rw[ho]at hk;cases hk
 ·rw[ho]at hk;cases hk
 rotate_left
 ·rw[ho]at hk;cases hk
 ·rw[ho]at hk;cases hk
 ·rw[ho]at hk;cases hk
 ·generalize o.op=op at hk he
  cases op<;>simp only[j6.kind,reduceCtorEq]at hk<;>simp only[j6.ml]at he
  case alloc z=>simp only[ah,ay]at he;obtain⟨rfl,rfl⟩:=he;exact⟨rfl,_,rfl,.inr ⟨by simp,rfl⟩⟩
  case box n x=>
   repeat' split at he
   all_goals first|(cases he;done)|(simp only[ah,ay]at he;obtain⟨rfl,rfl⟩:=he;exact⟨rfl,_,rfl,.inr ⟨by simp,rfl⟩⟩)
  case Ho=>simp only[ah,ay]at he;obtain⟨rfl,rfl⟩:=he;exact⟨rfl,_,rfl,.inr ⟨by simp,rfl⟩⟩
  case w8 n=>simp only[ah,ay]at he;obtain⟨rfl,rfl⟩:=he;exact⟨rfl,_,rfl,.inr ⟨by simp,rfl⟩⟩
  case init g n x=>
   repeat' split at he
   all_goals first|(cases he;done)|(simp only[ah,ay]at he;obtain⟨rfl,rfl⟩:=he;exact⟨rfl,_,rfl,.inl ⟨g,n,x,rfl,rfl,fun _ _ _ _ hh=>by cases hh;rfl⟩⟩)
  case xi im n sz z ps=>cases im<;>simp at hk
end
section
variable{P:Program}{s s' s1 s2:PS}
def CWf(s:PS):C→Prop
 | .d _=>True
 | .ref i ver _=>ver≤s.ver i
 | .ku i ver=>ver≤s.ver i
 | .ptr i ver _=>ver≤s.ver i
def VWf(s:PS):V→Prop
 | .d _=>True
 | .ref i ver _=>ver≤s.ver i
 | .ku i ver=>ver≤s.ver i
 | .dv i ver _=>ver≤s.ver i
 | .Fl i ver _ _ _=>ver≤s.ver i
 | .mb _ ids=>∀p∈ids,p.2≤s.ver p.1
 | .agg cs=>∀c∈cs,CWf s c
 | .yi cs=>∀c∈cs,CWf s c
 | .Ig i ver _ _=>ver≤s.ver i
 | .Fo i ver _ _=>ver≤s.ver i
 | .win i ver _ _ _=>ver≤s.ver i
 | .no=>True
structure Wf(s:PS):Prop where
 tmp:∀t,VWf s (s.tmp t)
 loc:∀id cs,s.bm id=some (.loc cs)→∀c∈cs,CWf s c
 ny:∀id sz els,s.bm id=some (.ny sz els)→∀e∈els,∀c∈e,CWf s c
 mp:∀id es,s.mp id=some es→∀e∈es,CWf s e.2
def I8(s:PS)(d:Nat):Prop:=∀ver,s.els d ver=none∧s.cs d ver=none∧s.ents d ver=none∧s.elc d ver=none∧s.Gl d ver=none
theorem ap7(hl:∀i ver,s'.elc i ver=s.elc i ver∧s'.ents i ver=s.ents i ver):∀(n:Nat) (c:C),deep s' n c=deep s n c:=by
 intro n
 induction n with
 |zero=>intro c;cases c<;>rfl
 |succ n ih=>
  intro c;have ih':deep s' n=deep s n:=funext ih
  cases c with
  |d x=>rfl
  |ref i ver l=>simp only[deep,(hl i ver).1,ih']
  |ku i ver=>simp only[deep,(hl i ver).2,ih']
  |ptr _ _ _=>rfl
theorem a0p(hb:s'.bm=s.bm)(hv:s'.ver=s.ver)(hm:s'.mp=s.mp)(i ver:Nat):xn s s' i ver:=by
 have k1:∀i ver,s'.elc i ver=s.elc i ver:=fun i ver=>by unfold PS.elc;rw[hb,hv]
 have k2:∀i ver,s'.ents i ver=s.ents i ver:=fun i ver=>by unfold PS.ents;rw[hm,hv]
 exact⟨by unfold PS.els;rw[hb,hv],by unfold PS.cs;rw[hb,hv],k2 i ver,k1 i ver,by unfold PS.Gl;rw[hb,hv],fun n c _=>ap7 (fun i v=>⟨k1 i v,k2 i v⟩) n c⟩
theorem Fb(h:∀i ver,xn s s' i ver)(c:C):Fq s s' c:=by cases c<;>first|trivial|exact h _ _
theorem Um(h:∀i ver,xn s s' i ver)(v:V):Gh s s' v:=by
 cases v with
 |agg cs=>exact fun c _=>Fb h c
 |yi cs=>exact fun c _=>Fb h c
 |mb f ids=>exact fun p _=>⟨h _ _,fun cs _ c _=>Fb h c⟩
 |dv i v o=>exact⟨h _ _,fun cs _ c _=>Fb h c⟩
 |Ig i v l n=>exact⟨h _ _,fun cs _ c _=>Fb h c⟩
 |d x=>trivial
 |no=>trivial
 |_=>exact h _ _
theorem Jm(h:∀i ver,ver≤s.ver i→xn s s' i ver){c:C}(hw:CWf s c):Fq s s' c:=by cases c<;>first|trivial|exact h _ _ hw
theorem adf(h:∀i ver,ver≤s.ver i→xn s s' i ver)(hb:∀id cs,s.bm id=some (.loc cs)→∀c∈cs,CWf s c){v:V}(hw:VWf s v):Gh s s' v:=by
 cases v with
 |agg cs=>exact fun c hc=>Jm h (hw c hc)
 |yi cs=>exact fun c hc=>Jm h (hw c hc)
 |mb f ids=>exact fun p hp=>⟨h _ _ (hw p hp),fun cs Gc c hc=>Jm h (hb _ _ (s9 Gc).2 c hc)⟩
 |dv i v o=>exact⟨h _ _ hw,fun cs Gc c hc=>Jm h (hb _ _ (s9 Gc).2 c hc)⟩
 |Ig i v l n=>exact⟨h i v hw,fun cs Gc c hc=>Jm h (hb _ _ (s9 Gc).2 c hc)⟩
 |Fo i v m j=>exact h i v hw
 |win i v m o l=>exact h i v hw
 |d x=>trivial
 |no=>trivial
 |_=>exact h _ _ hw
theorem akf{i ver sz:Nat}{els:List (List C)}(wf:Wf s)(h:s.elc i ver=some (sz,els)):∀e∈els,∀c∈e,CWf s c:=by
 obtain⟨_,b,hb,_,hk⟩:=Fm h;rcases hk with ⟨ds,rfl,rfl⟩|rfl
 ·intro e he c hc
  obtain⟨e',_,rfl⟩:=jc.1 he;obtain⟨x,_,rfl⟩:=jc.1 hc;trivial
 ·exact wf.ny i sz els hb
theorem akk(wf:Wf s)(hl:∀i ver,ver≤s.ver i→s'.elc i ver=s.elc i ver∧s'.ents i ver=s.ents i ver):∀(n:Nat) (c:C),CWf s c→deep s' n c=deep s n c:=by
 intro n
 induction n with
 |zero=>intro c _;cases c<;>rfl
 |succ n ih=>
  intro c hc
  cases c with
  |d x=>rfl
  |ref i ver l=>
   simp only[deep,(hl i ver hc).1]
   cases he:s.elc i ver with
   |none=>rfl
   |some p=>
    obtain⟨sz,els⟩:=p
    have e:els.map (fun e=>Nt (e.map (deep s' n)))=els.map fun e=>Nt (e.map (deep s n)):=
     Mv fun e hem=>by rw[Mv fun c hcm=>ih c (akf wf he e hem c hcm)]
    simp only[e]
  |ku i ver=>
   simp only[deep,(hl i ver hc).2]
   cases he:s.ents i ver with
   |none=>rfl
   |some es=>
    have e:es.map (fun e=>(deep s' n e.2).map fun x=>(e.1,x))=es.map fun e=>(deep s n e.2).map fun x=>(e.1,x):=
     Mv fun e hem=>by rw[ih e.2 (wf.mp i es (D7 he).2 e hem)]
    simp only[e]
  |ptr _ _ _=>rfl
theorem ant(wf:Wf s)(hl:∀i ver,ver≤s.ver i→s'.els i ver=s.els i ver∧s'.cs i ver=s.cs i ver∧s'.ents i ver=s.ents i ver∧s'.elc i ver=s.elc i ver∧s'.Gl i ver=s.Gl i ver):
  ∀i ver,ver≤s.ver i→xn s s' i ver:=by
 intro i ver hi;obtain⟨h1,h2,h3,h4,h5⟩:=hl i ver hi
 refine⟨h1,h2,h3,h4,h5,fun n c hc=>akk wf (fun i ver h=>⟨(hl i ver h).2.2.2.1,(hl i ver h).2.2.1⟩) n c ?_⟩
 rcases hc with ⟨l,rfl⟩|rfl<;>exact hi
theorem aef(wf:Wf s){e:kn}{i:Nat}(he:e.Jb i)(hd:I8 s i)(d:Option Nat):∀j ver,ver≤s.ver j→xn s (e.app d s) j ver:=by
 rw[Rj _ _ _ (by cases e<;>first|rfl|exact he.elim)]
 have new:∀{ax8:Nat→Option B} {mp':Nat→Option (List (D×C))} {tmp':Nat→V} {id:Nat},id=i→(∀k,k≠id→ax8 k=s.bm k)→(∀k,k≠id→mp' k=s.mp k)→
   ∀j ver,ver≤s.ver j→xn s ⟨tmp',ax8,jf s.ver id (s.ver id+1),mp',s.base,s.ctx⟩ j ver:=by
  intro ax8 mp' tmp' id hid hb hm;subst hid
  refine ant wf fun j ver hj=>?_
  by_cases e:j=id
  ·subst e
   obtain⟨h1,h2,h3,h4,h5⟩:=hd ver
   have kg:¬(jf s.ver j (s.ver j+1) j=ver):=by rw[bh];omega
   refine⟨?_,?_,?_,?_,?_⟩
   ·rw[h1];unfold PS.els;exact if_neg kg
   ·rw[h2];unfold PS.cs;exact if_neg kg
   ·rw[h3];unfold PS.ents;exact if_neg kg
   ·rw[h4];unfold PS.elc;exact if_neg kg
   ·rw[h5];unfold PS.Gl;exact if_neg kg
  ·refine⟨?_,?_,?_,?_,?_⟩<;>simp only[PS.els,PS.cs,PS.ents,PS.elc,PS.Gl,er _ _ _ _ e,hb j e,hm j e]
 intro j ver hj
 cases e with
 |val v=>exact a0p (s:=s) (s':=⟨mod s.tmp ((kn.val v).tw d),s.bm,s.ver,s.mp,s.base,s.ctx⟩) rfl rfl rfl j ver
 |set _ _=>exact he.elim
 |grow _ _ _=>exact he.elim
 |W9 _ _=>exact he.elim
 |cut _ _ _=>exact he.elim
 |Gf _ _ _ _=>exact he.elim
 |mem _ _=>exact he.elim
 |new v id b=>exact new he (fun k hk=>er _ _ _ _ hk) (fun _ _=>rfl) j ver hj
 |Yu v id=>exact new he (fun _ _=>rfl) (fun k hk=>er _ _ _ _ hk) j ver hj
 |init v t id cs=>exact new he (fun k hk=>er _ _ _ _ hk) (fun _ _=>rfl) j ver hj
theorem Th{o:RI}{x:lb}{t:Nat}(hx:x∈o.op.pj)(ht:x= .t t):t∈o.looks:=by
 subst ht;unfold RI.looks
 exact a68 _ (M9.2 ⟨_,hx,by simp[lb.ts]⟩)
theorem an3{o:RI}(h:∀t∈o.looks,s'.tmp t=s.tmp t∧Gh s s' (s.tmp t)):∀x∈o.op.pj,Vy s s' x:=by
 intro x hx
 cases x with
 |c y=>exact⟨rfl,trivial⟩
 |t n=>exact h n (Th hx rfl)
theorem Qf{o:RI}(h:∀t∈o.looks,s'.tmp t=s.tmp t):wanted o s'=wanted o s:=by
 unfold wanted
 cases hg:o.guard with
 |none=>rfl
 |some p=>
  obtain⟨t,b⟩:=p
  have:t∈o.looks:=by unfold RI.looks;rw[hg];simp
  simp only[h t this]
theorem a7m{l:List lb}(h:∀x∈l,Vy s s' x):l.map (·.ev s')=l.map (·.ev s):=Mv fun x hx=>(h x hx).1
theorem Yg{f:Nat}{l:List lb}{caps:List D}{own:Bool}{r:D}(h:∀x∈l,Vy s s' x)(hc:a97 P f (l.map (·.ev s)) caps own s r):a97 P f (l.map (·.ev s')) caps own s' r:=by
 obtain⟨ds,h1,h2,h3⟩:=hc
 refine⟨ds,by rw[ad9 h];exact h1,h2,?_⟩
 rw[a7m h];exact h3
theorem Gh.trans{s1 s2 s3:PS}{v:V}(h:Gh s1 s2 v)(k:Gh s2 s3 v):Gh s1 s3 v:=by
 have lt:∀{i ver},xn s1 s2 i ver→xn s2 s3 i ver→xn s1 s3 i ver:=fun a b=>⟨b.els.trans a.els,b.cs.trans a.cs,b.ents.trans a.ents,b.elc.trans a.elc,b.Gl.trans a.Gl,fun n c hc=>(b.dp n c hc).trans (a.dp n c hc)⟩
 have ct:∀{c},Fq s1 s2 c→Fq s2 s3 c→Fq s1 s3 c:=by
  intro c a b
  cases c with
  |d x=>trivial
  |_=>exact lt a b
 have bt:∀{i ver},P5 s1 s2 i ver→P5 s2 s3 i ver→P5 s1 s3 i ver:=fun a b=>⟨lt a.1 b.1,fun cs Gc c hc=>ct (a.2 cs Gc c hc) (b.2 cs (a.1.cs.trans Gc) c hc)⟩
 cases v with
 |agg cs=>exact fun c hc=>ct (h c hc) (k c hc)
 |yi cs=>exact fun c hc=>ct (h c hc) (k c hc)
 |mb f ids=>exact fun p hp=>bt (h p hp) (k p hp)
 |dv i v o=>exact bt h k
 |Ig i v l n=>exact bt h k
 |d x=>trivial
 |no=>trivial
 |_=>exact lt h k
theorem Uv{o:RI}(h:∀t∈o.looks,s'.tmp t=s.tmp t∧Gh s s' (s.tmp t))(hbs:s'.base=s.base)(hE:o.op.kind= .write→s'.mem=s.mem)(hv:s'.ver (s.base+o.dst.getD 0)=s.ver (s.base+o.dst.getD 0))(hi:∀g n x,o.op= .init g n x→s'.bm (s.base+g)=s.bm (s.base+g)∧s'.ver (s.base+g)=s.ver (s.base+g))
  {ids:List Nat}{e:kn}(ho:Lc P o s ids e):Lc P o s' ids e:=by
 have hs:=an3 h
 have hw:=Qf fun t ht=>(h t ht).1
 unfold Lc at ho⊢;rw[hw];rcases ho with ho|⟨h0,⟨f,args,r,h1,h2,h3,h4⟩|⟨f,args,g,caps,r,h1,h2,h3,h4,h5⟩|he|⟨f,args,m',r,h1,h2,h3,h4⟩|⟨f,args,g,caps,m',r,h1,h2,h3,h4,h5⟩|⟨f,args,r,h1,h2,h3,h4⟩⟩
 ·exact .inl ho
 ·rw[h1]at hs
  exact .inr ⟨h0,.inl ⟨f,args,r,h1,h2,h3,Yg hs h4⟩⟩
 ·rw[h1]at hs
  obtain⟨k1,k2⟩:=hs f (by simp[j6.pj])
  refine .inr ⟨h0,.inr (.inl ⟨f,args,g,caps,r,h1,?_,h3,h4,?_⟩)⟩
  ·rw[k1,a4t k2];exact h2
  ·rw[k1];exact Yg (fun x hx=>hs x (by simp[j6.pj,hx])) h5
 ·exact .inr ⟨h0,.inr (.inr (.inl (by rw[hbs,ap0 hE hs hbs hv hi];exact he)))⟩
 ·have hme:=hE (by rw[h1];rfl)
  rw[h1]at hs
  exact .inr ⟨h0,.inr (.inr (.inr (.inl ⟨f,args,m',r,h1,h2,h3,by rw[hme,a7m (l:=args) hs];exact h4⟩)))⟩
 ·have hme:=hE (by rw[h1];rfl)
  rw[h1]at hs
  exact .inr ⟨h0,.inr (.inr (.inr (.inr (.inl ⟨f,args,g,caps,m',r,h1,by rw[(hs f (by simp[j6.pj])).1];exact h2,h3,h4,by rw[hme,a7m fun x hx=>hs x (by simp[j6.pj,hx])];exact h5⟩))))⟩
 ·rw[h1]at hs
  refine .inr ⟨h0,.inr (.inr (.inr (.inr (.inr ⟨f,args,r,h1,h2,h3,?_⟩))))⟩;rw[a7m (l:=args) hs];intro s2 h2'
  refine h4 s2 fun x hx=>?_
  obtain⟨y,hy,rfl⟩:=jc.1 hx;exact(hs y hy).2.trans (h2' _ hx)
theorem aoy{d:Nat}{r:j6}(hk:r.kind= .pure)(ho:∀x∈r.pj,x.ev s'=x.ev s):r.ml d s'=r.ml d s:=by
 cases r<;>simp only[j6.kind,reduceCtorEq]at hk<;>simp only[j6.pj,dn,jg,or_false,forall_eq_or_imp,forall_eq]at ho
 case ij x=>simp only[j6.ml,ho]
 case pick c a b=>simp only[j6.ml,ho.1,ho.2.1,ho.2.2]
 case Wy x i=>simp only[j6.ml,ho.1,ho.2]
 case a14 l n g x i=>simp only[j6.ml,ho.1,ho.2]
 case Zh o n g x=>simp only[j6.ml,ho]
 case bin op x y=>simp only[j6.ml,ho.1,ho.2]
 case eqs ks n x y=>simp only[j6.ml,ho.1,ho.2]
 case beq n x y=>simp only[j6.ml,ho.1,ho.2]
 case un op x=>simp only[j6.ml,ho]
 case conv k x=>simp only[j6.ml,ho]
 case Ye x=>simp only[j6.ml,ho]
 case xi im n sz z ps=>cases im<;>simp at hk
 case ext x i=>simp only[j6.ml,ho]
 case Ce m x y=>simp only[j6.ml,ho.1,ho.2]
theorem aai{o:RI}(hk:o.op.kind= .pure)(hbs:s'.base=s.base)(h:∀t∈o.looks,s'.tmp t=s.tmp t){ids:List Nat}{e:kn}(ho:Lc P o s ids e):Lc P o s' ids e:=by
 have hw:=Qf h;unfold Lc at ho⊢;rw[hw];rcases ho with ho|⟨h0,⟨f,args,r,h1,h2,h3,h4⟩|⟨f,args,g,caps,r,h1,h2,h3,h4,h5⟩|he|⟨f,args,m',r,h1,h2,h3,h4⟩|⟨f,args,g,caps,m',r,h1,h2,h3,h4,h5⟩|⟨f,args,r,h1,h2,h3,h4⟩⟩
 ·exact .inl ho
 ·rw[h1]at hk;cases hk
 ·rw[h1]at hk;cases hk
 rotate_left
 ·rw[h1]at hk;cases hk
 ·rw[h1]at hk;cases hk
 ·rw[h1]at hk;cases hk
 ·refine .inr ⟨h0,.inr (.inr (.inl ?_))⟩
  rw[hbs,aoy hk]
  ·exact he
  ·intro x hx
   cases x with
   |c y=>rfl
   |t n=>exact h n (Th hx rfl)
structure aho(x y:RI):Prop where
 kind:x.op.kind.ok y.op.kind=true∨x.soft y=true∨y.soft x=true
 aEe:∀d∈x.makes,d∉y.nw
 aCr:∀d∈y.makes,d∉x.nw
 aDw:x.isE=true→y.nw=[]
 azs:y.isE=true→x.nw=[]
 ay6:∀d∈x.nw,d≠y.dst.getD 0
 ay5:∀d∈y.nw,d≠x.dst.getD 0
 w1:∀d,x.writes=some d→d∉y.looks∧y.writes≠some d
 w2:∀d,y.writes=some d→d∉x.looks∧x.writes≠some d
 n1:x.writes=none→x.op.kind≠ .alloc
 n2:y.writes=none→y.op.kind≠ .alloc
theorem RI.a8k{x y:RI}(h:x.a8l y=true):aho x y:=by
 unfold RI.a8l RI.far at h;simp only[cd,ck,wg,aEv,decide_eq_false_iff_not,bne_iff_ne,ne_eq,Zk,List.isEmpty_iff]at h;obtain⟨⟨⟨⟨⟨⟨h1,h2,h2'⟩,h3,h3'⟩,h4⟩,h5⟩,h6⟩,h7⟩:=h
 refine⟨h1,h2,h3,fun he=>h2'.resolve_left (by simp[he]),fun he=>h3'.resolve_left (by simp[he]),h4,h5,fun d hd=>?_,fun d hd=>?_,fun hn=>?_,fun hn=>?_⟩
 ·rw[hd]at h6
  simpa using h6
 ·rw[hd]at h7
  refine⟨by simpa using h7,fun hx=>?_⟩
  rw[hx]at h6;simp at h6;exact h6.2 hd
 ·rw[hn]at h6;simpa using h6
 ·rw[hn]at h7;simpa using h7
end
section
variable{P:Program}{s s' s1 s2:PS}
theorem xn.symm{i ver:Nat}(h:xn s s' i ver):xn s' s i ver:=⟨h.els.symm,h.cs.symm,h.ents.symm,h.elc.symm,h.Gl.symm,fun n c hc=>(h.dp n c hc).symm⟩
theorem Fq.symm{c:C}(h:Fq s s' c):Fq s' s c:=by cases c<;>first|trivial|exact xn.symm h
theorem P5.symm{i ver:Nat}(h:P5 s s' i ver):P5 s' s i ver:=⟨h.1.symm,fun cs Gc c hc=>Fq.symm (h.2 cs (h.1.cs.symm.trans Gc) c hc)⟩
theorem Gh.symm{v:V}(h:Gh s s' v):Gh s' s v:=by
 cases v with
 |agg cs=>exact fun c hc=>Fq.symm (h c hc)
 |yi cs=>exact fun c hc=>Fq.symm (h c hc)
 |mb f ids=>exact fun p hp=>P5.symm (h p hp)
 |dv i v o=>exact P5.symm h
 |Ig i v l n=>exact P5.symm h
 |d x=>trivial
 |no=>trivial
 |_=>exact xn.symm h
def Good(o:RI):Prop:=∀g n x,o.op= .init g n x→o.dst=none
def a2u(b:Nat)(o:RI)(e:kn):Prop:=(∀i a,e.tw o.dst=some (i,a)→o.writes=some i)∧((∃v,e= .val v)∨∃w,o.writes=some w∧w∈o.nw∧e.Jb (b+w))
theorem Io{o:RI}(h:∀g n x,o.op≠ .init g n x):o.writes=o.dst:=by
 unfold RI.writes;split
 ·rename_i g n x ho;exact absurd ho (h g n x)
 ·rfl
theorem a2a{n a:Nat}{v:V}{ids:List Nat}{e:kn}(h:Q0 s n a v=some (ids,e)):ids=[]∧((∃x,e= .val x)∨∃x id b,e= .cut x id b∧¬I8 s id):=by
 cases v with
 |d z=>
  cases z<;>simp only[Q0,reduceCtorEq]at h<;>(split at h)<;>(first|(cases h;exact⟨rfl,.inl ⟨_,rfl⟩⟩)|cases h)
 |ref id ver n0=>
  simp only[Q0]at h;split at h
  ·rename_i sz els he
   split at h
   ·cases h;exact⟨rfl,.inr ⟨_,_,_,rfl,fun hd=>by rw[(hd ver).1]at he;cases he⟩⟩
   ·cases h
  ·cases h
 |_=>simp[Q0]at h
theorem a8g{n:Nat}{xs:List C}{v:V}{ids:List Nat}{e:kn}(h:w9 s n xs v=some (ids,e)):∃id b,e= .set id b:=by
 have c:∀{id ver ln i off},Cu s n xs id ver ln i off=some (ids,e)→∃id b,e= .set id b:=by
  intro id ver ln i off h;unfold Cu at h
  repeat' split at h
  all_goals first|(cases h;done)|(cases h;exact⟨_,_,rfl⟩)
 cases v with
 |dv id ver off=>
  simp only[w9]at h
  repeat' split at h
  all_goals first|(cases h;done)|(cases h;exact⟨_,_,rfl⟩)
 |Fl id ver ln i off=>
  simp only[w9]at h;split at h
  ·split at h
   ·split at h
    ·cases h;exact⟨_,_,rfl⟩
    ·cases h
   ·exact c h
  ·exact c h
 |_=>cases h
theorem aki{n:Nat}{x y:V}{ids:List Nat}{e:kn}(h:v8 s n x y=some (ids,e)):∃id b id2 b2,e= .Gf id b id2 b2∧s.bm id≠none∧(∃b,s.bm id2=some b∧b.isVar=true):=by
 unfold v8 at h;split at h
 ·split at h
  ·rename_i h1 h2
   split at h
   ·cases h;exact⟨_,_,_,_,rfl,by rw[h1];simp,_,(s9 h2).2,rfl⟩
   ·cases h
  ·rename_i h1 h2
   split at h
   ·cases h;exact⟨_,_,_,_,rfl,by rw[h1];simp,_,(s9 h2).2,rfl⟩
   ·cases h
  ·cases h
 ·cases h
theorem Ra{d sz b:Nat}{x y:V}{ids:List Nat}{e:kn}(h:O2 s d sz b x y=some (ids,e)):ids=[]∧((∃v,e= .val v)∨(∃v b,e= .new v d b)∨∃v id b,e= .grow v id b∧¬I8 s id):=by
 unfold O2 at h;split at h
 ·split at h
  ·split at h
   ·split at h
    ·cases h;exact⟨rfl,.inl ⟨_,rfl⟩⟩
    ·split at h
     ·cases h;exact⟨rfl,.inr (.inl ⟨_,_,rfl⟩)⟩
     ·cases h
   ·split at h
    ·rename_i he
     split at h
     ·cases h;exact⟨rfl,.inr (.inr ⟨_,_,_,rfl,fun hd=>by rw[(hd _).2.2.2.1]at he;cases he⟩)⟩
     ·cases h
    ·cases h
   ·cases h
  ·cases h
 ·cases h
theorem a1x{d:Nat}{r:j6}{ids:List Nat}{v:V}{t g:Nat}{cs:List C}(h:r.ml d s=some (ids,.init v t g cs)):∃n x,r= .init t n x:=by
 cases r<;>simp only[j6.ml,ak]at h
 case init g' n x=>
  repeat' split at h
  all_goals first|(cases h;done)|(simp only[ah,ay,kn.init.injEq]at h;obtain⟨_,_,rfl,_,_⟩:=h;exact⟨_,_,rfl⟩)
 case store n a x=>
  split at h
  ·obtain⟨_,_,h⟩:=a8g h;cases h
  ·obtain⟨_,_,_,_,h,_⟩:=aki h;cases h
 case app sz b x y=>
  split at h
  ·split at h
   ·split at h
    ·repeat' split at h
     all_goals(cases h)
    ·split at h
     ·split at h<;>cases h
     ·rcases(Ra h).2 with ⟨_,h⟩|⟨_,_,h⟩|⟨_,_,_,h,_⟩<;>cases h
    ·split at h
     ·split at h<;>cases h
     ·cases h
    ·cases h
   ·cases h
  ·rcases(Ra h).2 with ⟨_,h⟩|⟨_,_,h⟩|⟨_,_,_,h,_⟩<;>cases h
 case slice3 n x j k=>
  split at h
  ·split at h
   ·rcases(a2a h).2 with ⟨_,h⟩|⟨_,_,_,h,_⟩<;>cases h
   ·cases h
  ·cases h
 all_goals(repeat' split at h)
 all_goals first
  |(cases h;done)
  |(obtain⟨_,_,h⟩:=h;cases h;done)
  |(simp only[ak]at h;obtain⟨_,_,h⟩:=h;cases h;done)
theorem aug{o:RI}{ids:List Nat}{e:kn}(hg:Good o)(hk:o.op.kind≠ .write)(hn:o.writes=none→o.op.kind≠ .alloc)(ho:Lc P o s ids e):ids=[]∧a2u s.base o e:=by
 have val:∀v,e= .val v→a2u s.base o e:=by
  intro v hv;subst hv
  refine⟨fun i a hi=>?_,.inl ⟨v,rfl⟩⟩
  simp only[kn.tw,ak,ay]at hi;obtain⟨d,hd,rfl,_⟩:=hi;rw[Io]
  ·exact hd
  ·intro g n x hx;rw[hg g n x hx]at hd;cases hd
 cases hkk:o.op.kind with
 |pure=>obtain⟨h1,v,h2⟩:=Rs (.inl hkk) ho;exact⟨h1,val v h2⟩
 |read=>obtain⟨h1,v,h2⟩:=Rs (.inr hkk) ho;exact⟨h1,val v h2⟩
 |write=>exact absurd hkk hk
 |alloc=>
  obtain⟨h1,i,h2,h3⟩:=ajd hkk ho;refine⟨h1,?_⟩;by_cases hv:∃v,e= .val v
  ·obtain⟨v,hv⟩:=hv;exact val v hv
  rcases h3 with ⟨g,n,x,hx,rfl,htg⟩|⟨hx,rfl⟩
  ·have hd:=hg g n x hx
   have hwr:o.writes=some g:=by unfold RI.writes;rw[hx];simp[hd]
   refine⟨fun j a hj=>?_,.inr ⟨g,hwr,by unfold RI.nw;rw[hx];simp,h2⟩⟩
   cases e with
   |init v t id cs=>simp only[kn.tw,ah,ay]at hj;rw[hwr,←hj.1,htg v t id cs rfl]
   |val v=>exact absurd ⟨v,rfl⟩ hv
   |_=>simp[kn.tw,hd]at hj
  ·cases hd:o.dst with
   |none=>exact absurd hkk (hn (by rw[Io hx];exact hd))
   |some d=>
    have hwr:o.writes=some d:=by rw[Io hx];exact hd
    rw[hd]at h2;simp only[j3]at h2
    refine⟨fun j a hj=>?_,.inr ⟨d,hwr,?_,h2⟩⟩
    ·rw[hwr]
     rw[hd]at hj
     cases e with
     |init v t id cs=>
      rcases ho with ⟨_,_,h⟩|⟨_,⟨_,_,_,_,_,h,_⟩|⟨_,_,_,_,_,_,_,_,h,_⟩|h|⟨_,_,_,_,_,_,h,_⟩|⟨_,_,_,_,_,_,_,_,_,h,_⟩|⟨_,_,_,_,_,h,_⟩⟩
      ·cases h
      ·cases h
      ·cases h
      ·obtain⟨n,x,h⟩:=a1x h;exact absurd h (hx _ n x)
      ·cases h
      ·cases h
      ·cases h
     |val v=>exact absurd ⟨v,rfl⟩ hv
     |_=>simp only[kn.tw,gz,ah,ay]at hj;exact congrArg some hj.1
    ·unfold RI.nw
     generalize o.op=op at hkk hx;cases op<;>simp only[j6.kind,reduceCtorEq]at hkk<;>simp only[hd,ahq,Ua]
     case xi im n sz z ps=>cases im<;>simp at hkk
     case init g n x=>exact absurd rfl (hx g n x)
theorem O9{e:kn}{d:Option Nat}{t:Nat}(h:∀i a,e.tw d=some (i,a)→i≠t):(e.app d s).tmp t=s.tmp t:=by
 rw[au0];show mod s.tmp (e.tw d) t=s.tmp t
 cases ht:e.tw d with
 |none=>rfl
 |some p=>obtain⟨i,a⟩:=p;exact er _ _ _ _ (aGr (h i a ht))
theorem ajm{e:kn}{w:Nat}(h:e.Jb w):(∀i a,e.bw=some (i,a)→i=w)∧(∀i,e.vw=some i→i=w)∧(∀i a,e.mw=some (i,a)→i=w):=by
 cases e with
 |val v=>exact⟨by simp[kn.bw],by simp[kn.vw],by simp[kn.mw]⟩
 |new v id b=>refine⟨?_,?_,?_⟩<;>simp only[kn.bw,kn.vw,kn.mw,ah,ay,reduceCtorEq,false_implies,implies_true]<;>(first|(intro i a hi;rw[←hi.1];exact h)|(intro i hi;rw[←hi];exact h))
 |Yu v id=>refine⟨?_,?_,?_⟩<;>simp only[kn.bw,kn.vw,kn.mw,ah,ay,reduceCtorEq,false_implies,implies_true]<;>(first|(intro i a hi;rw[←hi.1];exact h)|(intro i hi;rw[←hi];exact h))
 |init v t id cs=>refine⟨?_,?_,?_⟩<;>simp only[kn.bw,kn.vw,kn.mw,ah,ay,reduceCtorEq,false_implies,implies_true]<;>(first|(intro i a hi;rw[←hi.1];exact h)|(intro i hi;rw[←hi];exact h))
 |set _ _=>exact h.elim
 |grow _ _ _=>exact h.elim
 |W9 _ _=>exact h.elim
 |cut _ _ _=>exact h.elim
 |Gf _ _ _ _=>exact h.elim
 |mem _ _=>exact h.elim
theorem Wt{b:Nat}{o:RI}{e:kn}(h:a2u b o e):(∀i a,e.bw=some (i,a)→∃w,i=b+w∧o.writes=some w∧w∈o.nw)∧(∀i,e.vw=some i→∃w,i=b+w∧o.writes=some w∧w∈o.nw)∧
  (∀i a,e.mw=some (i,a)→∃w,i=b+w∧o.writes=some w∧w∈o.nw)∧e.isM=false:=by
 rcases h.2 with ⟨v,rfl⟩|⟨w,h1,h2,h3⟩
 ·exact⟨by simp[kn.bw],by simp[kn.vw],by simp[kn.mw],rfl⟩
 ·obtain⟨k1,k2,k3⟩:=ajm h3
  exact⟨fun i a hi=>⟨w,k1 i a hi,h1,h2⟩,fun i hi=>⟨w,k2 i hi,h1,h2⟩,fun i a hi=>⟨w,k3 i a hi,h1,h2⟩,by cases e<;>first|rfl|exact h3.elim⟩
theorem a9i(d:Option Nat)(x v:V):Gh s (kn.app d s (.val x)) v:=by
 refine Um (s':=kn.app d s (.val x)) (a0p ?_ ?_ ?_) v<;>cases d<;>rfl
theorem a0v{o:RI}{e:kn}(h:a2u s.base o e)(hd:∀d∈o.nw,I8 s (s.base+d))(wf:Wf s){v:V}(hw:VWf s v):Gh s (e.app o.dst s) v:=by
 rcases h.2 with ⟨v',rfl⟩|⟨w,h1,h2,h3⟩
 ·refine Um (s':=kn.app o.dst s (.val v')) (a0p ?_ ?_ ?_) v<;>cases o.dst<;>rfl
 ·exact adf (aef wf h3 (hd w h2) o.dst) wf.loc hw
theorem a0w{o z:RI}{e:kn}(h:a2u s.base o e)(hz:Good z)(hzE:z.op.kind≠ .write)(hd:∀d∈o.nw,I8 s (s.base+d))(wf:Wf s)(hl:∀w,o.writes=some w→w∉z.looks∧z.writes≠some w)(hs:∀d∈o.nw,d≠z.dst.getD 0){ids:List Nat}{e':kn}:
  Lc P z (e.app o.dst s) ids e'↔Lc P z s ids e':=by
 obtain⟨kb,kv,km,kM⟩:=Wt h
 have ht:∀t∈z.looks,(e.app o.dst s).tmp t=s.tmp t:=fun t ht=>O9 fun i a hi hit=>(hl i (h.1 i a hi)).1 (hit▸ht)
 have hv:∀j,(∀i,e.vw=some i→i≠j)→(e.app o.dst s).ver j=s.ver j:=by
  intro j hj;rw[Rj _ _ _ kM];show inc s.ver e.vw j=s.ver j
  cases hvw:e.vw with
  |none=>rfl
  |some i=>exact er _ _ _ _ (aGr (hj i hvw))
 have hb:∀j,(∀i a,e.bw=some (i,a)→i≠j)→(e.app o.dst s).bm j=s.bm j:=by
  intro j hj;rw[Rj _ _ _ kM];show mod s.bm e.bw j=s.bm j
  cases hbw:e.bw with
  |none=>rfl
  |some p=>obtain⟨i,a⟩:=p;exact er _ _ _ _ (aGr (hj i a hbw))
 have hbs:=P3 o.dst s e
 have slot:(e.app o.dst s).ver (s.base+z.dst.getD 0)=s.ver (s.base+z.dst.getD 0):=hv _ fun i hi hij=>by
  obtain⟨w,rfl,_,hw⟩:=kv i hi
  exact hs w hw (by omega)
 have ini:∀g n x,z.op= .init g n x→(e.app o.dst s).bm (s.base+g)=s.bm (s.base+g)∧(e.app o.dst s).ver (s.base+g)=s.ver (s.base+g):=by
  intro g n x hx
  have hwz:z.writes=some g:=by unfold RI.writes;rw[hx];simp[hz g n x hx]
  refine⟨hb _ fun i a hi hig=>?_,hv _ fun i hi hig=>?_⟩
  ·obtain⟨w,rfl,hw,_⟩:=kb i a hi
   have:w=g:=by omega
   subst this;exact(hl w hw).2 hwz
  ·obtain⟨w,rfl,hw,_⟩:=kv i hi
   have:w=g:=by omega
   subst this;exact(hl w hw).2 hwz
 constructor
 ·intro ho
  refine Uv (s:=e.app o.dst s) (s':=s) (fun t htl=>⟨(ht t htl).symm,?_⟩) hbs.symm (fun hh=>absurd hh hzE) (by rw[hbs];exact slot.symm) (fun g n x hx=>by rw[hbs];exact⟨(ini g n x hx).1.symm,(ini g n x hx).2.symm⟩) ho
  rw[ht t htl];exact(a0v h hd wf (wf.tmp t)).symm
 ·intro ho
  exact Uv (fun t htl=>⟨ht t htl,a0v h hd wf (wf.tmp t)⟩) hbs (fun hh=>absurd hh hzE) slot ini ho
theorem abd{o:RI}{ids:List Nat}{e:kn}(hk:o.op.kind= .write)(ho:Lc P o s ids e):o.writes=o.dst∧∀i a,e.tw o.dst=some (i,a)→o.writes=some i:=by
 have hx:∀g n x,o.op≠ .init g n x:=by intro g n x h;rw[h]at hk;cases hk
 have hw:=Io hx
 refine⟨hw,fun i a hi=>?_⟩
 rw[hw]
 have:∀v t g cs,e≠ .init v t g cs:=by
  intro v t g cs he;subst he;rcases ho with ⟨_,_,h⟩|⟨_,⟨_,_,_,_,_,h,_⟩|⟨_,_,_,_,_,_,_,_,h,_⟩|h|⟨_,_,_,_,_,_,h,_⟩|⟨_,_,_,_,_,_,_,_,_,h,_⟩|⟨_,_,_,_,_,h,_⟩⟩
  ·cases h
  ·cases h
  ·cases h
  ·obtain⟨n,x,h⟩:=a1x h
   exact hx t n x h
  ·cases h
  ·cases h
  ·cases h
 cases hd:o.dst with
 |none=>rw[hd]at hi;cases e<;>first|(simp[kn.tw]at hi;done)|exact absurd rfl (this _ _ _ _)
 |some d=>rw[hd]at hi;cases e<;>first|(simp only[kn.tw,gz,ah,ay]at hi;rw[hi.1];done)|exact absurd rfl (this _ _ _ _)
theorem Vv{e:kn}{d1 d2:Option Nat}{v:V}{ids:List Nat}(ht:∀i a j b,e.tw d1=some (i,a)→(kn.val v).tw d2=some (j,b)→i≠j):
  (kn.val v).app d2 (e.app d1 (s.sn ids))=e.app d1 ((s.put d2 v).sn ids):=by
 rw[aro]
 cases hM:e.isM with
 |false=>exact acp (e2:= .val v) (d2:=d2) ht (by simp[kn.bw]) (by simp[kn.vw]) (by simp[kn.mw]) hM rfl
 |true=>
  cases e with
  |mem m r=>
   cases d1 with
   |none=>cases d2<;>rfl
   |some i=>
    cases d2 with
    |none=>rfl
    |some j=>
     have hij:=ht i r j v rfl rfl
     have e:∀(f:Nat→V),jf (jf f i r) j v=jf (jf f j v) i r:=by
      intro f
      funext k
      simp only[al]
      split<;>split<;>first|rfl|(subst_vars;exact absurd rfl hij)
     show PS.mk _ _ _ _ _ _=PS.mk _ _ _ _ _ _
     congr 1
     exact e _
  |Gf id b id2 b2=>
   cases d1 with
   |none=>cases d2<;>rfl
   |some i=>
    cases d2 with
    |none=>rfl
    |some j=>
     have hij:=ht i .no j v rfl rfl
     have e:∀(f:Nat→V),jf (jf f i .no) j v=jf (jf f j v) i .no:=by
      intro f
      funext k
      simp only[al]
      split<;>split<;>first|rfl|(subst_vars;exact absurd rfl hij)
     show PS.mk _ _ _ _ _ _=PS.mk _ _ _ _ _ _
     congr 1
     exact e _
  |_=>cases hM
theorem axl{o:RI}(h:o.op.kind≠ .write):o.isE=false:=by
 unfold RI.isE;split
 ·rename_i ho;rw[ho]at h;exact absurd rfl h
 ·rename_i ho;rw[ho]at h;exact absurd rfl h
 ·rfl
theorem Oc{x y:RI}(h:x.soft y=true):∃n m j k n' a v,x.op= .Fo n m j k∧y.op= .store n' a v∧n'≠1:=by
 unfold RI.soft at h;split at h
 ·rename_i h1 h2
  exact⟨_,_,_,_,_,_,_,h1,h2,by simpa using h⟩
 ·cases h
theorem a6o{id:Nat}{b b':B}(d:Option Nat)(hb:s.bm id=some b)(hd:b'.Bg=b.Bg):∀i ver,(kn.app d s (.set id b')).Gl i ver=s.Gl i ver:=by
 intro i ver
 have e1:(kn.app d s (.set id b')).ver=s.ver:=by cases d<;>rfl
 have e2:(kn.app d s (.set id b')).bm=jf s.bm id (some b'):=by cases d<;>rfl
 unfold PS.Gl;rw[e1,e2];by_cases hi:i=id
 ·subst hi;rw[bh,hb];simp only[hd]
 ·rw[al,if_neg hi]
theorem Vq{n id ver ln i off:Nat}{xs:List C}{ids:List Nat}{e:kn}(d:Option Nat)(h:Cu s n xs id ver ln i off=some (ids,e)):ids=[]∧∀i ver,(e.app d s).Gl i ver=s.Gl i ver:=by
 unfold Cu at h;split at h
 ·rename_i sz els he
  split at h
  ·split at h
   ·cases h
    obtain⟨_,b,hb,hd,_⟩:=Fm he
    exact⟨rfl,a6o d hb (by rw[hd];simp[B.Bg])⟩
   ·cases h
  ·cases h
 ·cases h
theorem ac9{n:Nat}{xs:List C}{v:V}{ids:List Nat}{e:kn}(d:Option Nat)(h:w9 s n xs v=some (ids,e)):ids=[]∧∀i ver,(e.app d s).Gl i ver=s.Gl i ver:=by
 cases v with
 |dv id ver off=>
  simp only[w9]at h;split at h
  ·rename_i cs Gc
   split at h
   ·cases h;exact⟨rfl,a6o d (s9 Gc).2 rfl⟩
   ·cases h
  ·cases h
 |Fl id ver ln i off=>
  simp only[w9]at h;split at h
  ·rename_i sz els he
   split at h
   ·split at h
    ·cases h;exact⟨rfl,a6o d (v7 he).2 (by simp[B.Bg])⟩
    ·cases h
   ·exact Vq d h
  ·exact Vq d h
 |_=>cases h
theorem a5b{o:RI}{ids:List Nat}{e:kn}{n:Nat}{a v:lb}(ho:o.op= .store n a v)(hn:n≠1)(h:Lc P o s ids e):∀i ver,(e.app o.dst (s.sn ids)).Gl i ver=s.Gl i ver:=by
 have val:∀x:V,ids=[]→e= .val x→∀i ver,(e.app o.dst (s.sn ids)).Gl i ver=s.Gl i ver:=by
  rintro x rfl rfl i ver;cases o.dst<;>rfl
 rcases h with ⟨_,h1,h2⟩|⟨_,⟨f,args,r,h1,_⟩|⟨f,args,g,caps,r,h1,_⟩|he|hsp⟩
 ·exact val _ h1 h2
 ·rw[ho]at h1;cases h1
 ·rw[ho]at h1;cases h1
 ·rw[ho]at he
  simp only[j6.ml]at he;split at he
  ·obtain⟨rfl,h2⟩:=ac9 o.dst he
   exact h2
  ·exfalso
   unfold v8 at he;split at he
   ·split at he
    ·split at he
     ·rename_i hq;exact hn hq.1
     ·cases he
    ·split at he
     ·rename_i hq;exact hn hq.1
     ·cases he
    ·cases he
   ·cases he
 ·rcases hsp with ⟨_,_,_,_,h1,_⟩|⟨_,_,_,_,_,_,h1,_⟩|⟨_,_,_,h1,_⟩<;>(rw[ho]at h1;cases h1)
theorem aah{o:RI}{n:Nat}{x j k:lb}(ho:o.op= .Fo n x j k)(hbs:s'.base=s.base)(hel:∀i ver,s'.Gl i ver=s.Gl i ver)(h:∀t∈o.looks,s'.tmp t=s.tmp t){ids:List Nat}{e:kn}(hq:Lc P o s ids e):Lc P o s' ids e:=by
 have hw:=Qf h;unfold Lc at hq⊢;rw[hw];rcases hq with hq|⟨h0,⟨f,args,r,h1,_⟩|⟨f,args,g,caps,r,h1,_⟩|he|hsp⟩
 ·exact .inl hq
 ·rw[ho]at h1;cases h1
 ·rw[ho]at h1;cases h1
 ·refine .inr ⟨h0,.inr (.inr (.inl ?_))⟩
  have ev:∀y∈o.op.pj,y.ev s'=y.ev s:=fun y hy=>by
   cases y with
   |c z=>rfl
   |t m=>exact h m (Th hy rfl)
  rw[ho]at he ev⊢;simp only[j6.pj,dn,jg,or_false,forall_eq_or_imp,forall_eq]at ev;rw[hbs];simp only[j6.ml,ev.1,ev.2.1,ev.2.2,hel]at he⊢;exact he
 ·rcases hsp with ⟨_,_,_,_,h1,_⟩|⟨_,_,_,_,_,_,h1,_⟩|⟨_,_,_,h1,_⟩<;>(rw[ho]at h1;cases h1)
theorem swap{x y:RI}(hc:aho x y)(gx:Good x)(gy:Good y)(wf:Wf s)(dx:∀d∈x.nw,I8 s (s.base+d))(dy:∀d∈y.nw,I8 s (s.base+d))(h1:Stp P x s s1)(h2:Stp P y s1 s2):∃s1',Stp P y s s1'∧Stp P x s1' s2:=by
 obtain⟨i1,e1,o1,rfl⟩:=h1;obtain⟨i2,e2,o2,rfl⟩:=h2;have hkk:=hc.kind;by_cases kx:x.op.kind= .write
 ·have ky:y.op.kind= .pure∨y.soft x=true:=by
   rcases hkk with hkk|hkk|hkk
   ·rw[kx]at hkk
    cases h:y.op.kind<;>rw[h]at hkk<;>first|exact .inl rfl|cases hkk
   ·obtain⟨_,_,_,_,_,_,_,h,_⟩:=Oc hkk
    rw[h]at kx;cases kx
   ·exact .inr hkk
  have kr:y.op.kind= .pure∨y.op.kind= .read:=by
   rcases ky with ky|ky
   ·exact .inl ky
   ·obtain⟨_,_,_,_,_,_,_,h,_⟩:=Oc ky
    exact .inr (by rw[h];rfl)
  obtain⟨w1,w2⟩:=abd kx o1;obtain⟨rfl,v,rfl⟩:=Rs kr o2
  have hyd:y.writes=y.dst:=Io (fun g n z h=>by rw[h]at kr;rcases kr with kr|kr<;>cases kr)
  have ht:∀t∈y.looks,(e1.app x.dst (s.sn i1)).tmp t=s.tmp t:=fun t htl=>by
   rw[O9 fun i a hi hit=>(hc.w1 i (w2 i a hi)).1 (hit▸htl),Zp]
  have hb1:(e1.app x.dst (s.sn i1)).base=s.base:=by rw[P3,(Fg i1 s).1]
  have oy:Lc P y s [] (.val v):=by
   rcases ky with ky|ky
   ·exact aai ky hb1.symm (fun t htl=>(ht t htl).symm) o2
   ·obtain⟨_,_,_,_,_,_,_,h1,h2,h3⟩:=Oc ky
    exact aah h1 hb1.symm (fun i ver=>(a5b h2 h3 o1 i ver).symm) (fun t htl=>(ht t htl).symm) o2
  refine⟨_,⟨[],.val v,oy,rfl⟩,i1,e1,?_,?_⟩
  ·have htx:∀t∈x.looks,(kn.app y.dst s (.val v)).tmp t=s.tmp t:=fun t htl=>O9 fun i a hi hit=>by
    simp only[kn.tw,ak,ay]at hi;obtain⟨d,hd,rfl,_⟩:=hi;exact(hc.w2 d (hyd.trans hd)).1 (hit▸htl)
   exact Uv (s:=s) (fun t htl=>⟨htx t htl,a9i _ _ _⟩) rfl (fun _=>rfl) rfl (fun _ _ _ _=>⟨rfl,rfl⟩) o1
  ·exact Vv fun i a j b hi hj hij=>by
    simp only[kn.tw,ak,ay]at hj;obtain⟨d,hd,rfl,_⟩:=hj;exact(hc.w1 i (w2 i a hi)).2 (hij▸(hyd.trans hd))
 ·obtain⟨rfl,l1⟩:=aug gx kx hc.n1 o1
  by_cases ky:y.op.kind= .write
  ·have kx':x.op.kind= .pure∨x.soft y=true:=by
    rcases hkk with hkk|hkk|hkk
    ·rw[ky]at hkk
     cases h:x.op.kind<;>rw[h]at hkk<;>first|exact .inl rfl|cases hkk
    ·exact .inr hkk
    ·obtain⟨_,_,_,_,_,_,_,h,_⟩:=Oc hkk
     rw[h]at ky;cases ky
   have kr:x.op.kind= .pure∨x.op.kind= .read:=by
    rcases kx' with kx'|kx'
    ·exact .inl kx'
    ·obtain⟨_,_,_,_,_,_,_,h,_⟩:=Oc kx'
     exact .inr (by rw[h];rfl)
   obtain⟨w1,w2⟩:=abd ky o2;obtain⟨_,v,rfl⟩:=Rs kr o1
   have hxd:x.writes=x.dst:=Io (fun g n z h=>by rw[h]at kr;rcases kr with kr|kr<;>cases kr)
   have hty:∀t∈y.looks,(kn.app x.dst s (.val v)).tmp t=s.tmp t:=fun t htl=>O9 fun i a hi hit=>by
    simp only[kn.tw,ak,ay]at hi;obtain⟨d,hd,rfl,_⟩:=hi;exact(hc.w1 d (hxd.trans hd)).1 (hit▸htl)
   have oy:Lc P y s i2 e2:=Uv (s:=kn.app x.dst s (.val v)) (s':=s) (fun t htl=>⟨(hty t htl).symm,(a9i _ _ _).symm⟩) rfl (fun _=>rfl) rfl (fun _ _ _ _=>⟨rfl,rfl⟩) o2
   refine⟨_,⟨i2,e2,oy,rfl⟩,[],.val v,?_,?_⟩
   ·have ht:∀t∈x.looks,(e2.app y.dst (s.sn i2)).tmp t=s.tmp t:=fun t htl=>by
     rw[O9 fun i a hi hit=>(hc.w2 i (w2 i a hi)).1 (hit▸htl),Zp]
    rcases kx' with kx'|kx'
    ·exact aai kx' (by rw[P3,(Fg i2 s).1]) ht o1
    ·obtain⟨_,_,_,_,_,_,_,h1,h2,h3⟩:=Oc kx'
     exact aah h1 (by rw[P3,(Fg i2 s).1]) (a5b h2 h3 oy) ht o1
   ·exact(Vv fun i a j b hi hj hij=>by
     simp only[kn.tw,ak,ay]at hj;obtain⟨d,hd,rfl,_⟩:=hj
     exact(hc.w2 i (w2 i a hi)).2 (hij▸(hxd.trans hd))).symm
  ·obtain⟨rfl,l2⟩:=aug gy ky hc.n2 o2
   have hb1:=P3 x.dst s e1
   have l2':a2u s.base y e2:=by
    have:(kn.app x.dst s e1).base=s.base:=hb1;change a2u (kn.app x.dst (s.sn []) e1).base y e2 at l2
    rwa[show(kn.app x.dst (s.sn []) e1).base=s.base from hb1]at l2
   have oy:Lc P y s [] e2:=(a0w l1 gy ky dx wf hc.w1 hc.ay6).1 o2;have ox:Lc P x (e2.app y.dst s) [] e1:=(a0w l2' gx kx dy wf hc.w2 hc.ay5).2 o1;refine⟨_,⟨[],e2,oy,rfl⟩,[],e1,ox,?_⟩;show e2.app y.dst (e1.app x.dst s)=e1.app x.dst (e2.app y.dst s);obtain⟨b1,v1,m1,M1⟩:=Wt l1;obtain⟨b2,v2,m2,M2⟩:=Wt l2'
   have off:∀{p q:Nat},x.writes=some p→y.writes=some q→s.base+p≠s.base+q:=by
    intro p q hp hq hpq
    have:p=q:=by omega
    subst this;exact(hc.w1 p hp).2 hq
   exact acp (fun i a j b hi hj hij=>(hc.w1 i (l1.1 i a hi)).2 (hij▸l2.1 j b hj)) (fun i a j b hi hj=>by obtain⟨p,rfl,hp,_⟩:=b1 i a hi;obtain⟨q,rfl,hq,_⟩:=b2 j b hj;exact off hp hq)
    (fun i j hi hj=>by obtain⟨p,rfl,hp,_⟩:=v1 i hi;obtain⟨q,rfl,hq,_⟩:=v2 j hj;exact off hp hq) (fun i a j b hi hj=>by obtain⟨p,rfl,hp,_⟩:=m1 i a hi;obtain⟨q,rfl,hq,_⟩:=m2 j b hj;exact off hp hq) M1 M2
end
section
variable{P:Program}{B0 nt:Nat}{w0 w w':World}{G0 G G':fc}{s s':PS}{E E':Env}{a:Act}
theorem Wl(ids:List Nat):∀(s:PS) (i:Nat),(s.sn ids).bm i=(if i∈ids then none else s.bm i)∧(s.sn ids).mp i=(if i∈ids then none else s.mp i):=by
 induction ids with
 |nil=>intro s i;simp[PS.sn]
 |cons j r ih=>
  intro s i;obtain⟨h1,h2⟩:=ih (s.G8 j) i;rw[PS.Jo,h1,h2];by_cases e:i=j
  ·subst e
   simp[PS.G8,bh]
  ·simp[PS.G8,er _ _ _ _ e,e]
theorem al3:∀{els:List (List C)} {ds:List (List D)},Yl els=some ds→els=ds.map fun e=>e.map .d:=by
 intro els
 induction els with
 |nil=>intro ds h;simp only[Yl,ah]at h;subst h;rfl
 |cons e r ih=>
  intro ds h;simp only[Yl]at h;split at h
  ·rename_i x l h1 h2
   injection h with h
   subst h;rw[ih h2,P4 h1];rfl
  ·cases h
def ak6(s:PS)(ids:List Nat):B→B
 | .loc cs=> .loc (cs.map (C.rb s ids))
 | .ny sz els=>Uz (.ny sz (els.map fun e=>e.map (C.rb s ids)))
 |b=>b
theorem Y4(sz:Nat)(els:List (List C)):(∃ds,Uz (.ny sz els)= .arr sz ds∧els=ds.map fun e=>e.map .d)∨Uz (.ny sz els)= .ny sz els:=by
 cases h:Yl els with
 |some ds=>exact .inl ⟨ds,by simp only[Uz,h],al3 h⟩
 |none=>exact .inr (by simp only[Uz,h])
theorem a5o(s:PS)(ids:List Nat)(sz:Nat)(els:List (List C)):ak6 s ids (.ny sz els)=Uz (.ny sz (els.map fun e=>e.map (C.rb s ids))):=by simp only[ak6]
theorem abt(s:PS)(ids:List Nat)(b:B):(ak6 s ids b).Bg=b.Bg∧(ak6 s ids b).isVar=b.isVar:=by
 cases b with
 |ny sz els=>
  rw[a5o]
  rcases Y4 sz (els.map fun e=>e.map (C.rb s ids))with ⟨ds,e1,e2⟩|e1
  ·rw[e1]
   have:=congrArg Cq e2;simp only[ae]at this
   exact⟨by simp[B.Bg,this],rfl⟩
  ·rw[e1];exact⟨by simp[B.Bg],rfl⟩
 |_=>exact⟨rfl,rfl⟩
theorem i6.rb(h:i6 B0 w0 nt G0 s G E a w)(ids:List Nat):∃G',G.le G'∧i6 B0 w0 nt G0 (s.rb ids) G' E a w:=by
 cases ids with
 |nil=>exact⟨G,fc.le_refl _,h⟩
 |cons i0 r0=>
  generalize Sa:i0::r0=ids;obtain⟨G',hle,h',hg⟩:=h.sn ids;refine⟨G',hle,?_⟩
  have hf:s.rb ids=PS.sn ids {s with tmp:=fun t=>(s.tmp t).rb s ids,bm:=fun i=>(s.bm i).map (ak6 s ids),mp:=fun i=>(s.mp i).map fun es=>es.map fun e=>(e.1,C.rb s ids e.2)}:=by
   subst Sa;show PS.sn _ _=PS.sn _ _
   congr 1
   congr 1
   funext i
   cases s.bm i with
   |none=>rfl
   |some b=>cases b<;>rfl
  generalize hs2:s.rb ids=s2 at hf⊢
  have aBx:∀t,s2.tmp t=(s.tmp t).rb s ids:=fun t=>by rw[hf,Zp]
  have lk:∀i,s2.ver i=s.ver i:=fun i=>by rw[hf,PS.Zo]
  have hmp:∀i es,s2.mp i=some es→∃es0,(s.sn ids).mp i=some es0∧s.mp i=some es0∧es=es0.map fun e=>(e.1,C.rb s ids e.2):=by
   intro i es hi;rw[hf,(Wl ids _ i).2]at hi;split at hi
   ·cases hi
   ·rename_i hni
    simp only[ak]at hi;obtain⟨es0,h0,rfl⟩:=hi
    exact⟨es0,by rw[(Wl ids s i).2,if_neg hni];exact h0,h0,rfl⟩
  have hblk:∀i b,s2.bm i=some b→i∉ids∧∃b0,s.bm i=some b0∧b=ak6 s ids b0:=by
   intro i b hb;rw[hf,(Wl ids _ i).1]at hb;split at hb
   ·cases hb
   ·rename_i hi
    simp only[ak]at hb;obtain⟨b0,h0,rfl⟩:=hb;exact⟨hi,b0,h0,rfl⟩
  have hm:Fs E E s s2:=by
   refine⟨fun i=>by rw[lk];exact ar _,fun i sz n' _ hb=>?_,fun i b _ hb hva=>?_,fun i _ hp=>?_⟩
   ·obtain⟨b,hb,hd⟩:=ato hb
    obtain⟨_,b0,h0,rfl⟩:=hblk i _ hb;rw[(abt s ids b0).1]at hd
    exact⟨n',(tp h0).trans hd,ar _,fun _=>⟨rfl,rfl⟩⟩
   ·obtain⟨_,b0,h0,rfl⟩:=hblk i _ hb
    rw[(abt s ids b0).2]at hva;exact⟨⟨b0,h0,hva⟩,rfl⟩
   ·obtain⟨es,he⟩:=jl.1 hp
    obtain⟨es0,_,h0,_⟩:=hmp i es he
    exact⟨by rw[h0];rfl,rfl⟩
  have cell:∀(c:C) (u:Value),ub G E s c u→ub G' E s2 (c.rb s ids) u:=by
   intro c u hc
   cases c with
   |d x=>exact fh.mono hle hc
   |ref id ver len=>
    simp only[C.rb];split
    ·rename_i hid
     split
     ·rename_i sz els he
      split
      ·rename_i hl
       obtain⟨e1,e2⟩:=v7 he;subst hl;exact(hg id hid).1 sz els ver u e2 e1 hc
      ·exact fm.Bv hle hm (c:= .ref id ver len) hc
     ·exact fm.Bv hle hm (c:= .ref id ver len) hc
    ·exact fm.Bv hle hm (c:= .ref id ver len) hc
   |ku id ver=>
    simp only[C.rb];split
    ·rename_i hid
     split
     ·rename_i ds he
      simp only[acy]at he;obtain⟨es,he,hds⟩:=he;obtain⟨e1,e2⟩:=D7 he;exact(hg id hid).2 es ds ver u e2 hds e1 hc
     ·exact fm.Bv hle hm (c:= .ku id ver) hc
    ·exact fm.Bv hle hm (c:= .ku id ver) hc
   |ptr id ver off=>exact fm.Bv hle hm (c:= .ptr id ver off) hc
  have at6:s2.ctx=s.ctx:=by rw[hf,(Fg ids _).2]
  refine⟨h'.size,h'.defers,h'.base,h'.below,h'.gok,h'.gle,h'.Gk,fun t=>?_,fun i b hb=>?_,fun i j bi bj hi hj hij=>?_,fun i es hi=>?_,fun i j bi bj hi hj hij=>?_,fun p=>by rw[at6];exact fm.move hle hm (h.ctx p)⟩
  ·rw[aBx]
   have hv:=h.tmp t;generalize s.tmp t=x at hv⊢
   cases x with
   |ref id ver len=>exact cell (.ref id ver len) _ hv
   |ku id ver=>exact cell (.ku id ver) _ hv
   |agg cs=>
    obtain⟨vs,e1,e2,e3⟩:=Cv.1 hv;rw[e1]
    refine ah0 ⟨by simpa using e2,fun i c u hc hu=>?_⟩
    simp only[bp,ak]at hc;obtain⟨c0,hc0,rfl⟩:=hc;exact cell c0 u (e3 i c0 u hc0 hu)
   |yi cs=>
    obtain⟨vs,e1,e2,e3⟩:=I6.1 hv;rw[e1]
    refine I6.2 ⟨vs,rfl,by simpa using e2,fun i c u hc hu=>?_⟩
    simp only[bp,ak]at hc;obtain⟨c0,hc0,rfl⟩:=hc;exact cell c0 u (e3 i c0 u hc0 hu)
   |d x=>exact fm.move hle hm hv
   |dv _ _ _=>exact fm.move hle hm hv
   |Fl _ _ _ _ _=>exact fm.move hle hm hv
   |mb _ _=>exact fm.move hle hm hv
   |Ig _ _ _ _=>exact fm.move hle hm hv
   |Fo _ _ _ _=>exact fm.move hle hm hv
   |win _ _ _ _ _=>exact fm.move hle hm hv
   |no=>trivial
  ·obtain⟨hni,b0,hb0,rfl⟩:=hblk i b hb
   have key:∀o,G'.cv (E.b i) o=none:=(h'.bm i b0 (by rw[(Wl ids s i).1,if_neg hni];exact hb0)).2.1
   obtain⟨k1,_,cells,et,k3,k4,k5⟩:=h.bm i _ hb0
   cases b0 with
   |arr sz els=>exact⟨k1,key,cells,et,k3,k4,k5.1,k5.2.1,fun i e j x u p q r=>(k5.2.2 i e j x u p q r).mono hle⟩
   |Ph n=>exact⟨k1,key,cells,et,k3,k4,k5⟩
   |loc cs=>
    refine⟨k1,key,cells,et,k3,k4,by simpa using k5.1,fun j c u hc hu=>?_⟩
    simp only[bp,ak]at hc;obtain⟨c0,hc0,rfl⟩:=hc;exact cell c0 u (k5.2 j c0 u hc0 hu)
   |ny sz els=>
    have hh:Holds G' E s2 cells (.ny sz (els.map fun e=>e.map (C.rb s ids))):=by
     refine⟨by simpa using k5.1,fun q e hq=>?_,fun q e p c u hq hp hu=>?_⟩
     ·simp only[bp,ak]at hq
      obtain⟨e0,he0,rfl⟩:=hq;simpa using k5.2.1 q e0 he0
     ·simp only[bp,ak]at hq
      obtain⟨e0,he0,rfl⟩:=hq;simp only[bp,ak]at hp;obtain⟨c0,hc0,rfl⟩:=hp;exact cell c0 u (k5.2.2 q e0 p c0 u he0 hc0 hu)
    rw[a5o]
    rcases Y4 sz (els.map fun e=>e.map (C.rb s ids))with ⟨ds,e1,e2⟩|e1
    ·rw[e1]
     rw[e2]at hh;exact⟨k1,key,cells,et,k3,k4,hh.toD⟩
    ·rw[e1]
     exact⟨k1,key,cells,et,k3,k4,hh⟩
  ·have un:∀i b,s2.bm i=some b→∃b0,s.bm i=some b0:=fun i b hb=>by
    obtain⟨_,b0,h0,_⟩:=hblk i b hb;exact⟨b0,h0⟩
   obtain⟨b0,k0⟩:=un i bi hi;obtain⟨b1,k1⟩:=un j bj hj;exact h.inj i j b0 b1 k0 k1 hij
  ·obtain⟨es0,q0,q1,rfl⟩:=hmp i es hi
   obtain⟨h1,h2,ents,clock,h3,h4,h5,h6⟩:=h'.mp i es0 q0;obtain⟨_,_,a5t,a8m,h3',_,h5',_⟩:=h.mp i es0 q1;rw[h3]at h3';simp only[ah,Obj.map.injEq]at h3';obtain⟨rfl,rfl⟩:=h3'
   refine⟨h1,h2,ents,clock,h3,by simpa using h4,fun k e x hx hy=>?_,h6⟩
   simp only[bp,ak]at hx;obtain⟨e0,he0,rfl⟩:=hx;exact⟨(h5 k e0 x he0 hy).1,cell _ _ (h5' k e0 x he0 hy).2⟩
  ·obtain⟨_,q0,_,_⟩:=hmp i bi hi
   obtain⟨_,q1,_,_⟩:=hmp j bj hj;exact h'.Oi i j _ _ q0 q1 hij
theorem ub.wf{c:C}{u:Value}(h:ub G E s c u):CWf s c:=by
 cases c with
 |d x=>trivial
 |ref id ver len=>exact h.1
 |ku id ver=>exact h.1
 |ptr id ver off=>exact h.1
theorem fm.wf{x:V}{v:Value}(hv:fm G E s x v):VWf s x:=by
 have cells:∀{cs:List C} {vs:Array Value},vs.size=cs.length→(∀(i:Nat) (c:C) (u:Value),cs[i]? =some c→vs[i]? =some u→ub G E s c u)→∀c∈cs,CWf s c:=by
  intro cs vs e2 e3 c hc;obtain⟨i,hi,rfl⟩:=fj.1 hc
  exact(e3 i cs[i] vs[i] (ao hi) (av (by omega))).wf
 cases x with
 |ref id ver len=>exact hv.1
 |ku id ver=>exact hv.1
 |dv _ _ _=>exact hv.1
 |Fl _ _ _ _ _=>exact hv.1
 |mb _ _=>exact hv.1
 |agg cs=>obtain⟨vs,e1,e2,e3⟩:=Cv.1 hv;exact cells e2 e3
 |yi cs=>obtain⟨vs,e1,e2,e3⟩:=I6.1 hv;exact cells e2 e3
 |Ig _ _ _ _=>exact hv.1
 |Fo _ _ _ _=>exact hv.2.1
 |win _ _ _ _ _=>exact hv.2.1
 |d x=>trivial
 |no=>trivial
theorem i6.wf(h:i6 B0 w0 nt G0 s G E a w):Wf s:=by
 refine⟨fun t=>(h.tmp t).wf,fun id cs hb c hc=>?_,fun id sz els hb e he c hc=>?_,fun id es hi e he=>?_⟩
 ·obtain⟨_,_,cells,et,_,_,k5,k6⟩:=h.bm id _ hb
  obtain⟨i,hi,rfl⟩:=fj.1 hc
  exact(k6 i cs[i] cells[i] (ao hi) (av (by omega))).wf
 ·obtain⟨_,_,cells,et,_,_,k5,k6,k7⟩:=h.bm id _ hb
  obtain⟨i,hi,rfl⟩:=fj.1 he;obtain⟨j,hj,rfl⟩:=fj.1 hc;have hl:=k6 i _ (ao hi)
  have:=Wx hi (by omega:j<sz)
  exact(k7 i els[i] j els[i][j] cells[i*sz+j] (ao hi) (ao hj) (av (by omega))).wf
 ·obtain⟨_,_,ents,_,_,k4,k5,_⟩:=h.mp id es hi
  obtain⟨i,hi,rfl⟩:=fj.1 he
  exact(k5 i es[i] ents[i] (ao hi) (av (by omega))).2.wf
theorem O7:fm G E s (.d (.yi [])) undef:=fh.yi rfl (by simp)
theorem ali(h:i6 B0 w0 nt G0 s G E a w){an:Ann}{ops:Array Oper}{o:Oper}{ri:RI}(hf:Fits P nt an ops o ri){s1:PS}(tc:Stp P ri s s1):∃G E a w,i6 B0 w0 nt G0 s1 G E a w:=by
 obtain⟨ids,e,ho,rfl⟩:=tc
 have Ya:wanted ri s=some false∨wanted ri s=some true:=by rcases ho with ⟨h,_⟩|⟨h,_⟩<;>simp[h]
 rcases Ya with hw|hw
 ·rcases ho with ⟨_,rfl,rfl⟩|⟨h,_⟩
  ·obtain⟨hd,hd2,_⟩:=hf.spec
   exact⟨G,E,_,w,h.a3f (x:= .d (.yi [])) (v:=undef) (by rw[hd];exact hd2) O7⟩
  ·rw[hw]at h;cases h
 ·have hr:=a5c hw ho
  have hwp:=Qj h hf (next:=fun a w=>J6 B0 nt w0 G0 (· =e.app ri.dst (s.sn ids)) a w) (Q:=fun _ _ _=>False) hr (fun _ _ h=>h)
  have fin:∀a w,J6 B0 nt w0 G0 (· =e.app ri.dst (s.sn ids)) a w→∃G E a w,i6 B0 w0 nt G0 (e.app ri.dst (s.sn ids)) G E a w:=by
   rintro a w ⟨s',G',E',rfl,hh⟩;exact⟨G',E',a,w,hh⟩
  unfold aH0 at hwp;generalize(execOp a.eval o).run P w=res at hwp
  cases res with
  |halt x w'=>cases x<;>exact hwp.elim
  |ok n w'=>
   cases n<;>simp only[Oper.upon]at hwp
   case value v=>exact fin _ _ hwp
   case skip=>exact fin _ _ hwp
   case defer d=>exact fin _ _ hwp
   case enter f args=>
    obtain⟨e',w'',fr,hR,_⟩:=hwp []
    cases e' with
    |returned v=>exact fin _ _ hR
    |panicked c=>exact hR.elim
    |outgrown=>obtain⟨_,_,hh⟩:=hR;exact hh.elim
   case row r args=>
    obtain⟨v,w'',hR,_⟩:=hwp default [];exact fin _ _ hR
end
section
variable{P:Program}{B0 nt:Nat}{w0 w w':World}{G0 G G':fc}{s s' s1 s2:PS}{E E':Env}{a:Act}
theorem Rb{d:Nat}:I8 s d↔(s.bm d=none∨∃n,s.bm d=some (.Ph n))∧s.mp d=none:=by
 constructor
 ·intro h
  obtain⟨h1,h2,h3,h4,_⟩:=h (s.ver d);simp only[PS.els,PS.cs,PS.ents,PS.elc,if_true]at h1 h2 h3 h4;refine⟨?_,h3⟩
  cases hb:s.bm d with
  |none=>exact .inl rfl
  |some b=>
   rw[hb]at h1 h2 h4
   cases b with
   |arr sz els=>cases h1
   |ny sz els=>cases h4
   |loc cs=>cases h2
   |Ph n=>exact .inr ⟨n,rfl⟩
 ·rintro⟨h1,h2⟩ ver
  refine⟨?_,?_,?_,?_,?_⟩
  ·unfold PS.els;split
   ·rcases h1 with h1|⟨n,h1⟩<;>rw[h1]
   ·rfl
  ·unfold PS.cs;split
   ·rcases h1 with h1|⟨n,h1⟩<;>rw[h1]
   ·rfl
  ·unfold PS.ents;split
   ·exact h2
   ·rfl
  ·unfold PS.elc;split
   ·rcases h1 with h1|⟨n,h1⟩<;>rw[h1]
   ·rfl
  ·unfold PS.Gl;split
   ·rcases h1 with h1|⟨n,h1⟩<;>rw[h1]
    rfl
   ·rfl
theorem Ol{i ver:Nat}{p:Nat×List (List D)}(h:s.els i ver=some p):¬I8 s i:=fun hd=>by rw[(hd ver).1]at h;cases h
theorem a7q{i ver:Nat}{p:List C}(h:s.cs i ver=some p):¬I8 s i:=fun hd=>by rw[(hd ver).2.1]at h;cases h
theorem ajo{i ver:Nat}{p:List (D×C)}(h:s.ents i ver=some p):¬I8 s i:=fun hd=>by rw[(hd ver).2.2.1]at h;cases h
theorem anu{i ver:Nat}{p:Nat×List (List C)}(h:s.elc i ver=some p):¬I8 s i:=fun hd=>by rw[(hd ver).2.2.2.1]at h;cases h
def RI.Jb(o:RI)(b i:Nat):Prop:=∃w,i=b+w∧w∈o.makes
def Target(s:PS)(o:RI):kn→Prop
 | .val _=>True
 | .new _ id b=>(id=s.base+o.dst.getD 0∧∃n,b= .Ph n)∨o.Jb s.base id
 | .set id _=>¬I8 s id
 | .grow _ id _=>¬I8 s id
 | .Yu _ id=>o.Jb s.base id
 | .W9 id _=>¬I8 s id
 | .init _ _ id _=>o.Jb s.base id
 | .cut _ id _=>¬I8 s id
 | .Gf id _ id2 _=>¬I8 s id∧¬I8 s id2
 | .mem _ _=>o.isE=true
theorem a27{n:Nat}{xs:List C}{v:V}{ids:List Nat}{e:kn}(h:w9 s n xs v=some (ids,e)):∃id b,e= .set id b∧¬I8 s id:=by
 have c:∀{id ver ln i off},Cu s n xs id ver ln i off=some (ids,e)→∃id b,e= .set id b∧¬I8 s id:=by
  intro id ver ln i off h;unfold Cu at h;split at h
  ·rename_i he
   split at h
   ·split at h
    ·cases h;exact⟨_,_,rfl,anu he⟩
    ·cases h
   ·cases h
  ·cases h
 cases v with
 |dv id ver off=>
  simp only[w9]at h;split at h
  ·rename_i cs hc
   split at h
   ·simp only[ah,ay]at h;obtain⟨_,rfl⟩:=h;exact⟨_,_,rfl,a7q hc⟩
   ·cases h
  ·cases h
 |Fl id ver ln i off=>
  simp only[w9]at h;split at h
  ·rename_i sz els he
   split at h
   ·split at h
    ·simp only[ah,ay]at h;obtain⟨_,rfl⟩:=h;exact⟨_,_,rfl,Ol he⟩
    ·cases h
   ·exact c h
  ·exact c h
 |_=>simp[w9]at h
theorem a8i{n:Nat}{x y:V}{ids:List Nat}{e:kn}(h:v8 s n x y=some (ids,e)):∃id b id2 b2,e= .Gf id b id2 b2∧¬I8 s id∧¬I8 s id2:=by
 have live:∀{i:Nat} {b:B},s.bm i=some b→(∀n,b≠ .Ph n)→¬I8 s i:=by
  intro i b hb hn hd;rcases(Rb.1 hd).1 with h|⟨n,h⟩
  ·rw[h]at hb;cases hb
  ·rw[h]at hb;injection hb with hb;exact hn n hb.symm
 unfold v8 at h;split at h
 ·split at h
  ·rename_i h1 h2
   split at h
   ·cases h;exact⟨_,_,_,_,rfl,live h1 (by simp),a7q h2⟩
   ·cases h
  ·rename_i h1 h2
   split at h
   ·cases h;exact⟨_,_,_,_,rfl,live h1 (by simp),a7q h2⟩
   ·cases h
  ·cases h
 ·cases h
theorem ae2{o:RI}{ids:List Nat}{e:kn}(ho:Lc P o s ids e):Target s o e:=by
 rcases ho with ⟨_,_,rfl⟩|⟨_,⟨_,_,_,_,_,rfl,_⟩|⟨_,_,_,_,_,_,_,_,rfl,_⟩|h|⟨_,_,_,_,h1,_,rfl,_⟩|⟨_,_,_,_,_,_,h1,_,_,rfl,_⟩|⟨_,_,_,_,_,rfl,_⟩⟩
 ·trivial
 ·trivial
 ·trivial
 rotate_left
 ·show o.isE=true
  unfold RI.isE;rw[h1]
 ·show o.isE=true
  unfold RI.isE;rw[h1]
 ·trivial
 ·have aAd:∀{sz b:Nat} {x y:V} {l:List Nat},O2 s (s.base+o.dst.getD 0) sz b x y=some (ids,e)→(∀i,i∈o.makes↔i∈[o.dst.getD 0])→Target s o e:=by
   intro sz b x y _ h mk;rcases(Ra h).2 with ⟨v,rfl⟩|⟨v,b,rfl⟩|⟨v,id,b,rfl,hd⟩
   ·trivial
   ·exact .inr ⟨_,rfl,(mk _).2 (by simp)⟩
   ·exact hd
  have mk:∀i,i∈o.makes↔i∈(match o.op with| .alloc _| .box .. | .Ho| .app .. | .Zi .. | .Xg .. =>[o.dst.getD 0]| .xi im .. =>if im then[]else[o.dst.getD 0]| .init g .. =>[g]|_=>[]):=fun i=>Iff.rfl
  cases hk:o.op.kind with
  |pure=>obtain⟨_,v,rfl⟩:=Rs (P:=P) (o:={o with guard:=none}) (.inl hk) (.inr ⟨rfl,.inr (.inr (.inl h))⟩);trivial
  |read=>obtain⟨_,v,rfl⟩:=Rs (P:=P) (o:={o with guard:=none}) (.inr hk) (.inr ⟨rfl,.inr (.inr (.inl h))⟩);trivial
  |alloc=>
   cases e with
   |val v=>trivial
   |init v t id cs=>
    obtain⟨n,x,hx⟩:=a1x h
    refine⟨t,?_,(mk _).2 (by rw[hx];simp)⟩
    rw[hx]at h;simp only[j6.ml]at h
    repeat' split at h
    all_goals(first|(cases h;rfl)|cases h)
   |_=>
    generalize hop:o.op=op at hk h mk;cases op<;>simp only[j6.kind,reduceCtorEq]at hk<;>simp only[j6.ml]at h
    case alloc z=>first|(cases h;done)|(cases h;exact .inr ⟨_,rfl,(mk _).2 (by simp)⟩)
    case box n x=>
     repeat' split at h
     all_goals first|(cases h;done)|(cases h;exact .inr ⟨_,rfl,(mk _).2 (by simp)⟩)
    case Ho=>first|(cases h;done)|(cases h;exact⟨_,rfl,(mk _).2 (by simp)⟩)
    case w8 n=>first|(cases h;done)|(cases h;exact .inl ⟨rfl,n,rfl⟩)
    case init g n x=>
      repeat' split at h
      all_goals(cases h)
    case xi im n sz z ps=>cases im<;>simp at hk
  |write=>
   generalize hop:o.op=op at hk h mk;cases op<;>simp only[j6.kind,reduceCtorEq]at hk<;>simp only[j6.ml]at h
   case store n a x=>
    split at h
    ·obtain⟨id,b,rfl,hd⟩:=a27 h;exact hd
    ·obtain⟨id,b,id2,b2,rfl,hd⟩:=a8i h;exact hd
   case xi im n sz z ps=>
    cases im with
    |true=>simp at hk
    |false=>
     repeat' split at h
     all_goals first|(cases h;done)|(cases h;exact .inr ⟨_,rfl,(mk _).2 (by simp)⟩)|simp_all
   case app sz b x y=>
    split at h
    ·split at h
     ·split at h
      ·repeat' split at h
       all_goals first|(cases h;done)|(obtain⟨rfl,rfl⟩:=qg h;trivial)|(cases h;exact .inr ⟨_,rfl,(mk _).2 (by simp)⟩)
      ·split at h
       ·rename_i he
        split at h
        ·cases h;exact Ol he
        ·cases h
       ·exact aAd (l:=[]) h mk
      ·split at h
       ·rename_i he
        split at h
        ·cases h;exact Ol he
        ·cases h
       ·cases h
      ·cases h
     ·cases h
    ·exact aAd (l:=[]) h mk
   case Xg n sz z ps=>
    repeat' split at h
    all_goals first|(cases h;done)|(cases h;exact .inr ⟨_,rfl,(mk _).2 (by simp)⟩)
   case Xc=>cases h
   case Zi sz b z x y=>
    repeat' split at h
    all_goals first|(cases h;done)|(cases h;exact .inr ⟨_,rfl,(mk _).2 (by simp)⟩)
   case trim x=>
    split at h
    ·split at h
     ·rename_i he
      split at h
      ·cases h;exact Ol he
      ·cases h
     ·cases h
    ·cases h
   case clr z x=>
    split at h
    ·split at h
     ·rename_i he
      split at h
      ·cases h;exact Ol he
      ·cases h
     ·cases h
    ·cases h
   case Le n x j=>
    split at h
    ·split at h
     ·rename_i he
      split at h
      ·cases h;exact Ol he
      ·cases h
     ·cases h
    ·split at h
     ·obtain⟨rfl,rfl⟩:=qg h;trivial
     ·cases h
    ·cases h
   case Wq kk x k v=>
    split at h
    ·split at h
     ·rename_i he
      simp only[ak]at h;obtain⟨_,_,h⟩:=h;cases h;exact ajo he
     ·cases h
    ·cases h
   case slice3 n x j k=>
    split at h
    ·split at h
     ·rcases(a2a h).2 with ⟨_,rfl⟩|⟨_,_,_,rfl,hd⟩
      ·trivial
      ·exact hd
     ·cases h
    ·cases h
   case ti f args=>cases h
   case Kn f args=>cases h
   case pz f args=>cases h
   case Lz f args=>cases h
theorem akl{o:RI}{d:Nat}(tc:Stp P o s s1)(hd:I8 s d)(hm:¬o.Jb s.base d)(hE:o.isE=false):I8 s1 d:=by
 obtain⟨ids,e,ho,rfl⟩:=tc;have ht:=ae2 ho;rw[Rb]at hd⊢;have hd0:=hd
 have hb:(s.sn ids).bm d=none∨∃n,(s.sn ids).bm d=some (.Ph n):=by
  rcases(ags ids s d).1 with h|h
  ·exact .inl h
  ·rw[h];exact hd.1
 have hmp:(s.sn ids).mp d=none:=by
  rcases(ags ids s d).2 with h|h
  ·exact h
  ·rw[h];exact hd.2
 have aue:∀id,¬I8 s id→id≠d:=fun id h e=>h (e▸Rb.2 hd0)
 by_cases Gc:∃id b id2 b2,e= .Gf id b id2 b2
 ·obtain⟨id,b,id2,b2,rfl⟩:=Gc
  obtain⟨h1,h2⟩:=ht;have e1:=aue _ h1;have e2:=aue _ h2
  have hbk:(kn.app o.dst (s.sn ids) (.Gf id b id2 b2)).bm d=(s.sn ids).bm d:=by
   show jf (jf (s.sn ids).bm id (some b)) id2 (some b2) d=_;rw[er _ _ _ _ (aGr e2),er _ _ _ _ (aGr e1)]
  refine⟨by rw[hbk];exact hb,hmp⟩
 have hM:e.isM=false:=by
  cases e with
  |mem m v=>have ht:o.isE=true:=ht;rw[hE]at ht;cases ht
  |Gf id b id2 b2=>exact absurd ⟨_,_,_,_,rfl⟩ Gc
  |_=>rfl
 rw[Rj _ _ _ hM]
 have ab0:∀{α:Type} (f:Nat→α) (x:Option (Nat×α)),(∀i b,x=some (i,b)→i≠d)→mod f x d=f d:=by
  intro α f x hx
  cases x with
  |none=>rfl
  |some p=>obtain⟨i,b⟩:=p;exact er _ _ _ _ (aGr (hx i b rfl))
 have as8:∀id,¬I8 s id→id≠d:=fun id h e=>h (e▸Rb.2 hd0)
 have nm:∀id,o.Jb s.base id→id≠d:=fun id h e=>hm (e▸h)
 show(mod (s.sn ids).bm e.bw d=none∨∃n,mod (s.sn ids).bm e.bw d=some (.Ph n))∧mod (s.sn ids).mp e.mw d=none
 cases e with
 |val v=>exact⟨hb,hmp⟩
 |new v id b=>
  refine⟨?_,hmp⟩;rcases ht with ⟨h1,n,rfl⟩|h1
  ·by_cases e:id=d
   ·subst e;exact .inr ⟨n,bh _ _ _⟩
   ·rw[ab0 _ _ (by intro i b hi;simp only[kn.bw,ah,ay]at hi;rw[←hi.1];exact e)];exact hb
  ·rw[ab0 _ _ (by intro i b hi;simp only[kn.bw,ah,ay]at hi;rw[←hi.1];exact nm _ h1)];exact hb
 |set id b=>exact⟨by rw[ab0 _ _ (by intro i b hi;simp only[kn.bw,ah,ay]at hi;rw[←hi.1];exact as8 _ ht)];exact hb,hmp⟩
 |grow v id b=>exact⟨by rw[ab0 _ _ (by intro i b hi;simp only[kn.bw,ah,ay]at hi;rw[←hi.1];exact as8 _ ht)];exact hb,hmp⟩
 |Yu v id=>exact⟨hb,by rw[ab0 _ _ (by intro i b hi;simp only[kn.mw,ah,ay]at hi;rw[←hi.1];exact nm _ ht)];exact hmp⟩
 |W9 id es=>exact⟨hb,by rw[ab0 _ _ (by intro i b hi;simp only[kn.mw,ah,ay]at hi;rw[←hi.1];exact as8 _ ht)];exact hmp⟩
 |cut v id b=>exact⟨by rw[ab0 _ _ (by intro i b hi;simp only[kn.bw,ah,ay]at hi;rw[←hi.1];exact as8 _ ht)];exact hb,hmp⟩
 |mem m v=>cases hM
 |Gf _ _ _ _=>cases hM
 |init v t id cs=>exact⟨by rw[ab0 _ _ (by intro i b hi;simp only[kn.bw,ah,ay]at hi;rw[←hi.1];exact nm _ ht)];exact hb,hmp⟩
end
section
variable{P:Program}{B0 nt:Nat}{w0 w w':World}{G0 G G':fc}{s s' s1 s2:PS}{E E':Env}{a:Act}
theorem Uy{o:Oper}{v:Value}{next:Act→World→Prop}{Q:Exit→Act→World→Prop}(h:(execOp a.eval o).run P w= .ok (.value v) w')(hn:next (a.put o.dst v) w'):o.wp P a w next Q:=by
 unfold aH0;rw[h];exact hn
theorem aru{o:Oper}{next:Act→World→Prop}{Q:Exit→Act→World→Prop}(h:(execOp a.eval o).run P w= .ok .skip w')(hn:next (a.put o.dst undef) w'):o.wp P a w next Q:=by
 unfold aH0;rw[h];exact hn
theorem al9{o:Oper}{next next':Act→World→Prop}{Q:Exit→Act→World→Prop}(hN:∀a w,next a w→next' a w)(h:o.wp P a w next Q):o.wp P a w next' Q:=by
 unfold aH0 at h⊢;generalize(execOp a.eval o).run P w=r at h⊢
 cases r with
 |halt x w'=>cases x<;>exact h
 |ok n w'=>
  cases n with
  |value v=>exact hN _ _ h
  |skip=>exact hN _ _ h
  |defer d=>exact hN _ _ h
  |enter f args=>
   refine Calls.mono h fun e w'' he=>?_
   cases e with
   |returned v=>exact hN _ _ he
   |panicked c=>exact he
   |outgrown=>exact he
  |row r args=>exact Rows.mono h fun v w'' hv=>hN _ _ hv
  |_=>exact h
theorem Us(a:Act)(d:Nat)(v:Value):(a.put (some d) v).tmps.size=a.tmps.size:=by simp[Act.put]
theorem put_defers(a:Act)(d:Nat)(v:Value):(a.put (some d) v).defers=a.defers:=rfl
theorem Zn(a:Act){d:Nat}(v:Value)(hd:d<a.tmps.size)(t:Nat):(a.put (some d) v).tmps.getD t undef=if t=d then v else a.tmps.getD t undef:=by
 simp only[Act.put];rw[jo,jo];by_cases e:t=d
 ·subst e
  rw[if_pos rfl,Qd,if_pos hd];rfl
 ·rw[if_neg e,T8 (fun h=>e h.symm)]
theorem R6(a:Act)(t:Nat):a.eval (.tmp t)=a.tmps.getD t undef:=rfl
theorem i6.ayd(h:i6 B0 w0 nt G0 s G E a w){a':Act}{tmp':Nat→V}(hs:a'.tmps.size=nt)(hd:a'.defers=[])(ht:∀t,fm G E s (tmp' t) (a'.tmps.getD t undef)):
  i6 B0 w0 nt G0 {s with tmp:=tmp'} G E a' w:=by
 have hv:∀{x:V} {v:Value},fm G E s x v→fm G E {s with tmp:=tmp'} x v:=fun{x v} h=>by cases x<;>exact h
 have hm:Fs E E s {s with tmp:=tmp'}:=⟨fun _=>ar _,fun _ _ n _ h=>⟨n,h,ar _,fun _=>⟨rfl,rfl⟩⟩,fun _ b _ h hv=>⟨⟨b,h,hv⟩,rfl⟩,fun _ _ h=>⟨h,rfl⟩⟩
 refine⟨hs,hd,h.base,h.below,h.gok,h.gle,h.Gk,fun t=>hv (ht t),fun i b hb=>?_,h.inj,fun i es hi=>?_,h.Oi,fun p=>hv (h.ctx p)⟩
 ·have k:=h.bm i b hb
  exact k.move (fc.le_refl _) hm rfl k.2.1 rfl rfl
 ·obtain⟨h1,h2,ents,clock,h3,h4,h5,h6⟩:=h.mp i es hi
  exact⟨h1,h2,ents,clock,h3,h4,fun i e x hx hy=>⟨(h5 i e x hx hy).1,fm.Bv (fc.le_refl _) hm (h5 i e x hx hy).2⟩,h6⟩
theorem ael{kk:KK}{k:D}:∀{ds:List (D×C)} {j:Nat} {e:D×C} (i:Nat),Gb kk k ds i=some (some (i+j))→ds[j]? =some e→Cs kk k e.1=some true∧∀c,Kh kk k c ds=some (ds.set j (k,c)):=by
 intro ds
 induction ds with
 |nil=>intro j e i _ he;simp at he
 |cons p ds ih=>
  intro j e i hi he;obtain⟨q,z⟩:=p;simp only[Gb]at hi;split at hi
  ·rename_i hq
   simp only[ah]at hi
   have:j=0:=by omega
   subst this;simp only[ff,ah]at he;subst he
   exact⟨hq,fun c=>by simp[Kh,hq]⟩
  ·rename_i hq
   cases j with
   |zero=>
    have:=ah4 hi;omega
   |succ j=>
    have Dx:Gb kk k ds (i+1)=some (some (i+1+j)):=by rw[hi];congr 2;omega
    obtain⟨h1,h2⟩:=ih (i+1) Dx (by simpa using he)
    exact⟨h1,fun c=>by simp[Kh,hq,h2 c]⟩
  ·cases hi
theorem a7n(h:i6 B0 w0 nt G0 s G E a w){t kt e:TypeId}{kk:KK}(hu:P.underlying t=some (.map kt e))(hkk:O8 P kt=some kk)(hz:(P.info? e).bind (·.zero)=some (.slice none 0 0))
  {id ver:Nat}{kd:D}{vx vk:Value}(hx:fm G E s (.ku id ver) vx)(hk:fh G kd vk){es:List (D×C)}(hes:s.ents id ver=some es){r:Option C}(hr:Fi kk kd es=some r):
  ∃(j:Nat) (ents:Array MapEntry) (clock:Nat) (x:MapEntry),vx= .map (some (E.m id))∧
   (aFm t vx vk).run P w= .ok (.tuple #[x.val,goInt x.born]) (zt w (E.m id) (.map ents clock))∧ents[j]? =some x∧Xp ents clock∧ub G E s (r.getD (.d .bd)) x.val∧
   (∃o0,w.heap[E.m id]? =some o0)∧
   ∃es1:List (D×C),es1.length=ents.size∧es1[j]? =some (kd,r.getD (.d .bd))∧fh G kd x.key∧
    (∀(i:Nat) (e:D×C) (y:MapEntry),i≠j→es1[i]? =some e→ents[i]? =some y→fh G e.1 y.key∧ub G E s e.2 y.val)∧∀c,Kh kk kd c es=some (es1.set j (kd,c)):=by
 obtain⟨lk,aof⟩:=D7 hes
 have hvx:=hx.2 lk (by rw[aof];rfl)
 subst hvx;obtain⟨_,_,ents,clock,k1,k2,k3,k4⟩:=h.mp id es aof;have Pl:=a0r hr;have hch:=Ww (w:=w) hkk hk Pl false
 have hzr:(zeroValue e).run P w= .ok (.slice none 0 0) w:=by
  cases hif:P.info? e with
  |none=>rw[hif]at hz;cases hz
  |some i=>
   rw[hif]at hz;simp only[a62]at hz;simp[zeroValue,typeInfo,hif,hz]
 have find:=fun idx (hi:Gb kk kd es 0=some idx)=>R4 (P:=P) (w:=w) hkk hk hi (es:=ents.toList) (by simpa using k2) (fun j e x he hx=>(k3 j e x he (by simpa using hx)).1)
 rcases a5i 0 hr with ⟨rfl,h2⟩|⟨j,e',h1,h2,rfl⟩
 ·refine⟨ents.size,ents.push {key:=vk,val:= .slice none 0 0,born:=clock},clock+1,{key:=vk,val:= .slice none 0 0,born:=clock},rfl,?_,by simp,k4.push _ _,fh.bd,⟨_,k1⟩,?_⟩
  ·unfold aFm
   simp only[ba,underlying,run_program,aw,hu,dc,E9 k1,hch,find _ h2,Option.map_none,hzr,Lf k1]
  ·have To:∀(c:C) {ds:List (D×C)} (i:Nat),Gb kk kd ds i=some none→Kh kk kd c ds=some (ds++[(kd,c)]):=by
    intro c ds
    induction ds with
    |nil=>intro i _;simp[Kh,Pl]
    |cons p ds ih=>
     intro i hi;obtain⟨q,z⟩:=p;simp only[Gb]at hi;simp only[Kh]
     cases hq:Cs kk kd q with
     |none=>rw[hq]at hi;cases hi
     |some b=>
      rw[hq]at hi
      cases b with
      |true=>simp at hi
      |false=>
       simp only at hi⊢;rw[ih _ hi];rfl
   refine⟨es++[(kd,.d .bd)],by simp[k2],by simp[k2],hk,fun i e y hij he hy=>?_,fun c=>?_⟩
   rotate_left
   ·rw[To c 0 h2]
    congr 1
    rw[a2x _ _ (by omega)]
    have:ents.size-es.length=0:=by omega
    rw[this];rfl
   have hi:i<es.length:=by
    have:=(aq.1 he).1;simp only[cb,bq,dh]at this;omega
   rw[jr hi]at he
   rw[Yq,if_neg (by omega)]at hy
   exact k3 i e y he hy
 ·have hj:j<ents.size:=by have:=(aq.1 h2).1;omega
  have hje:ents[j]? =some ents[j]:=av hj;obtain⟨h3,L1⟩:=ael 0 h1 h2;have hs:=Uo h3 hk (k3 j e' ents[j] h2 hje).1
  have tc:(ai1 (((ents[j]?).map (·.key)).getD vk) vk).run P w= .ok vk w:=by
   unfold ai1;simp only[hje,gz,j3,hs,if_true,dc]
  refine⟨j,ents.modify j fun e=>{e with key:=vk},clock,{ents[j]with key:=vk},rfl,?_,by rw[Bi,if_pos rfl,hje];rfl,k4.modify j fun _=>rfl,(k3 j e' ents[j] h2 hje).2,⟨_,k1⟩,?_⟩
  ·have hv:((ents.toList[j]?).map (·.val)).getD undef=ents[j].val:=by simp[hj]
   unfold aFm;simp only[ba,underlying,run_program,aw,hu,dc,E9 k1,hch,find _ h1,gz,eh,tc,Lf k1];simp[hj]
  ·refine⟨es.set j (kd,e'.2),by simp[k2],by rw[pv,if_pos rfl,if_pos (by omega)];rfl,hk,fun i e y hij he hy=>?_,fun c=>by rw[L1 c];simp⟩
   rw[pv,if_neg (aGr hij)]at he;rw[Bi,if_neg (aGr hij)]at hy;exact k3 i e y he hy
theorem aos{ents:Array MapEntry}{clock j:Nat}{x:MapEntry}(hb:Xp ents clock)(hx:ents[j]? =some x):ents.findIdx? (fun e=>(e.born:Int)==(x.born:Int))=some j:=by
 have hj:=(j4.1 hx).1;have hxe:ents[j]=x:=(j4.1 hx).2;rw[Array.findIdx?_eq_some_iff_getElem]
 refine⟨hj,by simp[hxe],fun k hk=>?_⟩
 have hk':k<ents.size:=by omega
 simp only[beq_iff_eq];intro he
 have:=hb.2 k j ents[k] x (av hk') hx (by omega)
 omega
theorem a1u{t r:Nat}{ents:Array MapEntry}{clock j:Nat}{x:MapEntry}(hw:w.heap[r]? =some (.map ents clock))(hb:Xp ents clock)(hx:ents[j]? =some x)(v:Value):
  (aE6 t (.map (some r)) (goInt x.born) v).run P w= .ok () (zt w r (.map (ents.modify j fun e=>{e with val:=v}) clock)):=by
 unfold aE6;have ha:(asInt (goInt x.born)).run P w= .ok (x.born:Int) w:=rfl;simp only[ba,E9 hw,aw,ha,aos hb hx,Lf hw]
structure GAt(P:Program)(nt:Nat)(o1 o2 o3 o4 o5:Oper)(kk:KK)(sz bytes m k y:Nat)(d1 d2 d3 d4:Nat)(t kt et e eu au:TypeId)(i:TypeInfo)(args:Array Operand)(Co:Array TypeId)(t5:TypeId):Prop where
 o1:o1.dst=some d1∧o1.op= .mapEntry t (.tmp m) (.tmp k)∧o1.guard=none
 o2:o2.dst=some d2∧o2.op= .extract (.tmp d1) 0∧o2.guard=none
 o3:o3.dst=some d3∧o3.op= .call ⟨.builtin .append,args,Co⟩∧o3.guard=none
 o4:o4.dst=some d4∧o4.op= .extract (.tmp d1) 1∧o4.guard=none
 o5:o5.dst=none∧o5.op= .entryStore t5 (.tmp m) (.tmp d4) (.tmp d3)∧o5.guard=none
 args:args.toList=[.tmp d2,.tmp y]
 a0:Co[0]? =some et
 a1:Co[1]? =some au
 ut:P.underlying t=some (.map kt et)
 uet:P.underlying et=some (.slice e)
 uau:P.underlying au=some (.slice eu)
 zet:(P.info? et).bind (·.zero)=some (.slice none 0 0)
 key:O8 P kt=some kk
 inf:P.info? e=some i
 hz:i.zero.map (·.cells.size)=some i.size
 hs:0<i.size
 hb:0<i.bytes
 esz:sz=i.size
 eby:bytes=i.bytes
 lt:d1<nt∧d2<nt∧d3<nt∧d4<nt
 ne:d1≠d2∧d1≠d3∧d3≠d4∧y≠d1∧y≠d2∧m≠d1∧m≠d2∧m≠d3∧m≠d4
theorem afw{o1 o2 o3 o4 o5:Oper}{ri:RI}(h:api P nt o1 o2 o3 o4 o5=some ri):∃kk sz bytes m k y d1 d2 d3 d4 t kt et e eu au i args Co t5,GAt P nt o1 o2 o3 o4 o5 kk sz bytes m k y d1 d2 d3 d4 t kt et e eu au i args Co t5∧
  ri={dst:=none,op:= .Xc kk sz bytes (.t m) (.t k) (.t y) [d1,d2,d3,d4],guard:=none,after:=[]}:=by
 unfold api at h;split at h
 ·rename_i d1 t m k d2 e2 d3 c d4 e4 t5 m' e5 e6 g1 g2 g3 g4 g5 g6 g7 g8 g9 g10
  obtain⟨callee,args,Co⟩:=c
  dsimp only at h
  split at h
  ·rename_i a0 y at_ au kt et h2 h3 h4 h5
   split at h
   ·rename_i hc
    obtain⟨rfl,rfl,rfl,rfl,rfl,rfl,rfl,n1,n2,n3,q1,q2,q3,q4,q5,l1,l2,l3,l4,n4,n5,n6,n7,n8,n9⟩:=hc;split at h
    ·rename_i e eu kk u1 u2 u3 u4
     split at h
     ·rename_i i hi
      split at h
      ·rename_i hb
       injection h with h
       subst h;exact⟨kk,i.size,i.bytes,_,k,y,_,_,_,_,t,kt,_,e,eu,au,i,args,Co,t5,⟨⟨g1,g2,q1⟩,⟨g3,g4,q2⟩,⟨g5,g6,q3⟩,⟨g7,g8,q4⟩,⟨g9,g10,q5⟩,h2,h3,h4,h5,u1,u2,u3,u4,hi,hb.1,hb.2.1,hb.2.2.1,rfl,rfl,⟨l1,l2,l3,l4⟩,⟨n1,n2,n3,n4,n5,n6,n7,n8,n9⟩⟩,rfl⟩
      ·cases h
     ·cases h
    ·cases h
   ·cases h
  ·cases h
 ·cases h
theorem atg(h:i6 B0 w0 nt G0 s G E a w){o1 o2 o3 o4 o5:Oper}{kk:KK}{sz bytes m k y d1 d2 d3 d4:Nat}{t kt et e eu au:TypeId}{i:TypeInfo}{args:Array Operand}{Co:Array TypeId}{t5:TypeId}
  (g:GAt P nt o1 o2 o3 o4 o5 kk sz bytes m k y d1 d2 d3 d4 t kt et e eu au i args Co t5){K:PS→Prop}{next:Act→World→Prop}{Q:Exit→Act→World→Prop}
  {id:Nat}(tc:ah8 s id kk sz bytes (s.tmp m) (s.tmp k) (s.tmp y) [d1,d2,d3,d4] s')(hK:K s')(hn:∀a w,J6 B0 nt w0 G0 K a w→next a w):
  o1.wp P a w (fun a w=>o2.wp P a w (fun a w=>o3.wp P a w (fun a w=>o4.wp P a w (fun a w=>o5.wp P a w next Q) Q) Q) Q) Q:=by
 obtain⟨abb,hfm,mi,ver,key,es,ys,osz,hm,hk,hes,hys,ao9,kg,Ac,_,Ya⟩:=tc;obtain⟨n1,n2,n3,n4,n5,n6,n7,n8,n9⟩:=g.ne;obtain⟨l1,l2,l3,l4⟩:=g.lt;have esz:=g.esz;have eby:=g.eby;subst esz eby;obtain⟨z,hz,hzz⟩:=ak.1 g.hz;have vm:=h.tmp m;have vk:=h.tmp k;have vy:=h.tmp y;rw[hm]at vm;rw[hk]at vk
 obtain⟨r,hr⟩:∃r,Fi kk key es=some r:=by rcases Ya with ⟨h1,_⟩|⟨_,_,_,_,h1,_⟩<;>exact⟨_,h1⟩
 obtain⟨j,ents,clock,x,hvm,aB6,hx,hbo,hxr,⟨o0,ho0⟩,es1,p2,p3,p4,p5,To⟩:=a7n h g.ut g.key g.zet vm vk hes hr;obtain⟨lk,aof⟩:=D7 hes;have C3:=h.size
 let a1:=a.put (some d1) (.tuple #[x.val,goInt x.born])
 let a2:=a1.put (some d2) x.val
 have s1:a1.tmps.size=nt:=by show(a.put _ _).tmps.size=_;rw[Us];exact C3
 have s2:a2.tmps.size=nt:=by show(a1.put _ _).tmps.size=_;rw[Us];exact s1
 have aop:∀t,a1.tmps.getD t undef=if t=d1 then .tuple #[x.val,goInt x.born]else a.tmps.getD t undef:=fun t=>Zn a _ (by omega) t
 have aoo:∀t,a2.tmps.getD t undef=if t=d2 then x.val else a1.tmps.getD t undef:=fun t=>Zn a1 _ (by omega) t
 have ext:∀(A:Act) (W:World) (q:Nat) (v:Value) (o:Oper),o.op= .extract (.tmp d1) q→A.tmps.getD d1 undef= .tuple #[x.val,goInt x.born]→(#[x.val,goInt x.born]:Array Value)[q]? =some v→(execOp A.eval o).run P W= .ok (.value v) W:=by
  intro A W q v o ho hA hq;unfold execOp;rw[ho]
  dsimp only
  rw[Om,R6,hA];unfold aFa;simp[hq]
 refine Uy (v:= .tuple #[x.val,goInt x.born]) (w':=zt w (E.m mi) (.map ents clock)) ?_ ?_
 ·unfold execOp
  rw[g.o1.2.1]
  dsimp only
  rw[Om,R6,R6,aB6];rfl
 rw[g.o1.1]
 refine Uy (v:=x.val) (ext _ _ 0 _ _ g.o2.2.1 (by show a1.tmps.getD d1 undef=_;rw[aop,if_pos rfl]) rfl) ?_
 rw[g.o2.1]
 have hz1:i6 B0 w0 nt G0 {s with mp:=jf s.mp mi (some es1)} G E a (zt w (E.m mi) (.map ents clock)):=by
  refine h.W9 aof (y9.zt ho0 _) p2.symm (fun q e' y hq hy=>?_) hbo
  by_cases hqj:q=j
  ·subst hqj
   rw[p3]at hq
   injection hq with hq
   subst hq;rw[hx]at hy
   injection hy with hy
   subst hy;exact⟨p4,hxr⟩
  ·exact p5 q e' y hqj hq hy
 have az4:Fs E E s {s with mp:=jf s.mp mi (some es1)}:=⟨fun _=>ar _,fun _ _ n _ h=>⟨n,h,ar _,fun _=>⟨rfl,rfl⟩⟩,fun _ b _ h hv=>⟨⟨b,h,hv⟩,rfl⟩,fun q _ hp=>⟨by
  by_cases e:q=mi
  ·subst e;rw[aof];rfl
  ·simp only[er _ _ _ _ e]at hp;exact hp,rfl⟩⟩
 have aAc:(args.map a2.eval)[0]? =some x.val:=by
  have h2:args[0]? =some (.tmp d2):=by rw[←aEm,g.args];rfl
  rw[Uc,h2];show some (a2.eval (.tmp d2))=_;rw[R6,aoo,if_pos rfl]
 have apr:(args.map a2.eval)[1]? =some (a.tmps.getD y undef):=by
  have h2:args[1]? =some (.tmp y):=by rw[←aEm,g.args];rfl
  rw[Uc,h2];show some (a2.eval (.tmp y))=_;rw[R6,aoo,if_neg n5,aop,if_neg n4]
 obtain⟨xb,cp,news,hvy,hnl,hnh,C4,hr1,hr2⟩:=a1v (P:=P) hz1 (y:=s.tmp y) hys ao9 (fm.move (fc.le_refl _) az4 vy);rw[hvy]at apr hr1 hr2
 have zx:=apt (s:={s with mp:=jf s.mp mi (some es1)}) Ac
 have fin:∀(v3:Value) (w2:World) (E2:Env) (aas:Nat→Option B) (aap:Nat→Nat) (c:C) (es':List (D×C)),(vq Co o3.type (args.map a2.eval)).run P (zt w (E.m mi) (.map ents clock))= .ok v3 w2→
   i6 B0 w0 nt G0 {s with mp:=jf s.mp mi (some es1),bm:=aas,ver:=aap} G E2 a w2→E2.m=E.m→w2.heap[E.m mi]? =some (.map ents clock)→
   ub G E2 {s with mp:=jf s.mp mi (some es1),bm:=aas,ver:=aap} c v3→Kh kk key c es=some es'→s'=PS.Xe {s with bm:=aas,ver:=aap,mp:=jf s.mp mi (some es')} [d1,d2,d3,d4]→
   o3.wp P a2 (zt w (E.m mi) (.map ents clock)) (fun a w=>o4.wp P a w (fun a w=>o5.wp P a w next Q) Q) Q:=by
  intro v3 w2 E2 aas aap c es' Hq hf hEm hmw hc hp' hs';refine Uy (v:=v3) (w':=w2) ?_ ?_
  ·unfold execOp
   rw[g.o3.2.1];have:=Om (P:=P) (w:=zt w (E.m mi) (.map ents clock)) (vq Co o3.type (args.map a2.eval));rw[Hq]at this;exact this
  rw[g.o3.1]
  let a3:=a2.put (some d3) v3
  have s3:a3.tmps.size=nt:=by show(a2.put _ _).tmps.size=_;rw[Us];exact s2
  have atf:∀t,a3.tmps.getD t undef=if t=d3 then v3 else a2.tmps.getD t undef:=fun t=>Zn a2 _ (by omega) t
  refine Uy (v:=goInt x.born) (ext a3 _ 1 _ _ g.o4.2.1 (by rw[atf,if_neg n2,aoo,if_neg n1,aop,if_pos rfl]) rfl) ?_
  rw[g.o4.1]
  let a4:=a3.put (some d4) (goInt x.born)
  have s4:a4.tmps.size=nt:=by show(a3.put _ _).tmps.size=_;rw[Us];exact s3
  have ate:∀t,a4.tmps.getD t undef=if t=d4 then goInt x.born else a3.tmps.getD t undef:=fun t=>Zn a3 _ (by omega) t
  have em:a4.tmps.getD m undef= .map (some (E.m mi)):=by rw[ate,if_neg n9,atf,if_neg n8,aoo,if_neg n7,aop,if_neg n6];exact hvm
  have e3:a4.tmps.getD d3 undef=v3:=by rw[ate,if_neg n3,atf,if_pos rfl]
  have e4:a4.tmps.getD d4 undef=goInt x.born:=by rw[ate,if_pos rfl]
  have hjl:j<es1.length:=(aq.1 p3).1;obtain⟨es2,at5⟩:∃es2,es2=es1.set j (key,c):=⟨_,rfl⟩;rw[To c,←at5]at hp'
  injection hp' with hp'
  subst hp'
  have q2:es2.length=ents.size:=by rw[at5];simpa using p2
  have q3:es2[j]? =some (key,c):=by rw[at5,pv,if_pos rfl,if_pos hjl]
  refine aru (w':=zt w2 (E.m mi) (.map (ents.modify j fun e=>{e with val:=v3}) clock)) ?_ ?_
  ·unfold execOp
   rw[g.o5.2.1]
   dsimp only
   rw[aaz];show((aE6 t5 (a4.eval (.tmp m)) (a4.eval (.tmp d4)) (a4.eval (.tmp d3))).run P w2).andThen _=_;rw[R6,R6,R6,em,e3,e4,a1u hmw hbo hx];rfl
  rw[g.o5.1];have az2:(jf s.mp mi (some es1)) mi=some es1:=bh _ _ _
  have hEq:E2.m mi=E.m mi:=by rw[hEm]
  have hold:∀(q:Nat) (e':D×C) (y:MapEntry),es1[q]? =some e'→ents[q]? =some y→fh G e'.1 y.key∧ub G E2 {s with mp:=jf s.mp mi (some es1),bm:=aas,ver:=aap} e'.2 y.val:=by
   intro q e' y hq hy;obtain⟨_,_,azy,ax1,k3,_,k5,_⟩:=hf.mp mi es1 az2;rw[hEq,hmw]at k3;simp only[ah,Obj.map.injEq]at k3;obtain⟨rfl,rfl⟩:=k3;exact k5 q e' y hq hy
  have same:∀q,q≠j→es2[q]? =es1[q]? :=by
   intro q hq;rw[at5,pv,if_neg (aGr hq)]
  refine hn _ _ ⟨s',G,E2,hK,?_⟩
  have L5:=hf.W9 (es:=es2) az2 (w':=zt w2 (E.m mi) (.map (ents.modify j fun e=>{e with val:=v3}) clock)) (ents:=ents.modify j fun e=>{e with val:=v3}) (clock:=clock) (by rw[hEq];exact y9.zt hmw _) (by simp[q2]) (fun q e' y hq hy=>by
   rw[Bi]at hy;by_cases hqj:q=j
   ·subst hqj
    rw[if_pos rfl,hx]at hy;simp only[gz,ah]at hy;subst hy;rw[q3]at hq
    injection hq with hq
    subst hq;exact⟨p4,hc⟩
   ·rw[if_neg (aGr hqj)]at hy
    rw[same q hqj]at hq
    exact hold q e' y hq hy) (hbo.modify j fun _=>rfl)
  have hup:jf (jf s.mp mi (some es1)) mi (some es2)=jf s.mp mi (some es2):=by
   funext q
   by_cases e:q=mi
   ·subst e;rw[bh,bh]
   ·rw[er _ _ _ _ e,er _ _ _ _ e,er _ _ _ _ e]
  have aum:i6 B0 w0 nt G0 {s with bm:=aas,ver:=aap,mp:=jf s.mp mi (some es2)} G E2 a (zt w2 (E.m mi) (.map (ents.modify j fun e=>{e with val:=v3}) clock)):=by
   have e:({s with mp:=jf (jf s.mp mi (some es1)) mi (some es2),bm:=aas,ver:=aap}:PS)={s with bm:=aas,ver:=aap,mp:=jf s.mp mi (some es2)}:=by rw[hup]
   rw[←e];exact L5
  rw[hs']
  refine aum.ayd (a':=a4) s4 h.defers (tmp':=fun t=>if t∈[d1,d2,d3,d4]then .no else s.tmp t) fun t=>?_
  by_cases ht:t∈[d1,d2,d3,d4]
  ·rw[if_pos ht];exact fm.aBp
  ·rw[if_neg ht]
   simp only[dn,jg,or_false,not_or]at ht;rw[ate,if_neg ht.2.2.2,atf,if_neg ht.2.2.1,aoo,if_neg ht.2.1,aop,if_neg ht.1];exact aum.tmp t
 have ha3:(args.map a2.eval)[0]? =some x.val:=aAc;have hmi:(zt w (E.m mi) (.map ents clock)).heap[E.m mi]? =some (.map ents clock):=(y9.zt ho0 (.map ents clock)).at_;rcases Ya with ⟨c1,c2,es',c3,c4⟩|⟨i',v0,n0,els,c1,c2,c3,c4,es',c5,c6⟩
 ·rw[hr]at c1
  injection c1 with c1
  subst c1
  have hxv:x.val= .slice none 0 0:=by
   have:fh G .bd x.val:=hxr;generalize x.val=q at this;cases this;rfl
  rw[hxv]at ha3
  obtain⟨v3,w2,E2,k1,k2,k3,k4,k5⟩:=Xn (ty:=o3.type) hz1 g.uet g.uau g.inf hz g.hb hzz (ys:=ys.map fun e=>e.map .d) ha3 apr g.a0 g.a1 (by simp) (by simpa using hnl) hnh.ofD hr2 (by simpa using kg) (by simpa using c2) id (nb:= .arr i.size ys) (by simp[B.Bg]) (fun _ q=>q.toD)
  simp only[ae]at k3;exact fin v3 w2 E2 _ _ (.ref id (s.ver id+1) ys.length) es' k1 k2 k4 (k5 _ _ _ hmi) k3 c3 c4
 ·rw[hr]at c1
  injection c1 with c1
  subst c1
  obtain⟨v3,w2,E2,k1,k2,k3,k4,k5⟩:=a2p (ty:=o3.type) hz1 g.uet g.uau g.inf hz g.hb hzz (ys:=ys.map fun e=>e.map .d) ha3 apr g.a0 g.a1 (by simp) (by simpa using hnl) hnh.ofD (fun u hu=>C4 u hu Ac) hr1 hr2
   (id:=i') (ver:=v0) (els:=aGz (fun e:List D=>aGz C.d e) els) (a1w (s:=s) c2) (by
    have:=fm.Bv (fc.le_refl _) az4 hxr;simp only[j3]at this;rw[←c3]at this;simp only[ae]
    exact this) (by simpa[c3]using c4) (nb:= .arr i.size (els++ys)) (by simp[B.Bg]) (fun _ q=>Holds.toD (by simpa using q)) rfl
  simp only[ae,c3]at k3;exact fin v3 w2 E2 _ _ (.ref i' v0 (n0+ys.length)) es' k1 k2 k4 (k5 _ _ _ hmi) k3 c5 c6
end
section
variable{P:Program}{B0 nt:Nat}{w0 w w':World}{G0 G G':fc}{s s' s1 s2:PS}{E E':Env}{a:Act}
theorem apf{im kp cv:Bool}{cm:Nat}{op:Op}{g n:Nat}{x:lb}(h:cOp P im kp cv cm op=some (.init g n x)):False:=by
 unfold cOp at h;split at h
 all_goals(first|(simp only[ak]at h;obtain⟨y,hy,hh⟩:=h;cases hh;done)|skip)
 all_goals(repeat' split at h)
 all_goals(first|unfold Xl at h|unfold Pu at h|skip)
 all_goals(repeat' split at h)
 all_goals(first|(cases h;done)|(simp[ak]at h;done))
theorem Fits.azk{an:Ann}{ops:Array Oper}{o:Oper}{ri:RI}(h:Fits P nt an ops o ri):Good ri:=by
 intro g n x hx;obtain⟨r0,hc,rfl|⟨z,_,rfl⟩|⟨m,g',y,_,hd,rfl⟩⟩:=h
 ·obtain⟨hop,_⟩:=U7 hc
  rw[hx]at hop;exact(apf hop).elim
 ·cases hx
 ·exact hd
theorem Yh{an:Ann}{ops:Array Oper}:∀{L:List Oper} {l:List RI},Rh P nt an ops L=some l→l.length=L.length∧∀(i:Nat) (o:Oper) (ri:RI),L[i]? =some o→l[i]? =some ri→a2l P nt an ops o=some ri:=by
 intro L
 induction L with
 |nil=>intro l h;simp only[Rh,ah]at h;subst h;exact⟨rfl,by simp⟩
 |cons o r ih=>
  intro l h;simp only[Rh]at h;split at h
  ·rename_i x l' h1 h2
   injection h with h
   subst h;obtain⟨k1,k2⟩:=ih h2
   refine⟨by simp[k1],fun i y ri hy hr=>?_⟩
   cases i with
   |zero=>simp at hy hr;subst hy hr;exact h1
   |succ i=>simp at hy hr;exact k2 i y ri hy hr
  ·cases h
theorem ak5{an:Ann}{ops:Array Oper}{o:Oper}{r0:RI}(h:a2l P nt an ops o=some r0)(l:List RI):Fits P nt an ops o (RI.aey l r0):=by
 refine⟨r0,h,?_⟩;unfold RI.aey;split
 ·rename_i z d h1 h2
  split
  ·exact .inr (.inl ⟨z,h1,rfl⟩)
  ·exact .inl rfl
 ·rename_i n g x h1 h2
  split
  ·exact .inr (.inr ⟨n,g,x,h1,h2,rfl⟩)
  ·exact .inl rfl
 ·exact .inl rfl
def Aligned(P:Program)(nt:Nat)(an:Ann)(ops:Array Oper)(l:List RI):Prop:=l.length=ops.size∧∀(i:Nat) (o:Oper) (ri:RI),ops[i]? =some o→l[i]? =some ri→Fits P nt an ops o ri
theorem a4h{an:Ann}{ops:Array Oper}{l:List RI}(h:Rh P nt an ops ops.toList=some l):Aligned P nt an ops l:=by
 obtain⟨h1,h2⟩:=Yh h
 exact⟨by simpa using h1,fun i o ri ho hr=>⟨ri,h2 i o ri (by simpa using ho) hr,.inl rfl⟩⟩
theorem a8z{an:Ann}{ops:Array Oper}{l:List RI}(h:Rh P nt an ops ops.toList=some l):Aligned P nt an ops (l.map (RI.aey l)):=by
 obtain⟨h1,h2⟩:=Yh h
 refine⟨by simpa using h1,fun i o ri ho hr=>?_⟩
 simp only[bp,ak]at hr;obtain⟨r0,hr,rfl⟩:=hr
 exact ak5 (h2 i o r0 (by simpa using ho) hr) l
theorem alh(h:i6 B0 w0 nt G0 s G E a w){an:Ann}{ops:Array Oper}{o:Oper}{ri:RI}(hf:Fits P nt an ops o ri){i:Nat}(hi:ops[i]? =some o){s1:PS}(tc:Stp P ri s s1){K:Act→World→Prop}{Q:Exit→Act→World→Prop}
  (hn:∀a w,J6 B0 nt w0 G0 (· =s1) a w→K a w):wpOp P ops Q i K a w:=by
 obtain⟨ids,e,ho,rfl⟩:=tc;unfold wpOp;rw[hi];simp only
 have Ya:wanted ri s=some false∨wanted ri s=some true:=by rcases ho with ⟨h,_⟩|⟨h,_⟩<;>simp[h]
 rcases Ya with hw|hw
 ·rw[Ap h hf hw]
  rcases ho with ⟨_,rfl,rfl⟩|⟨h',_⟩
  ·obtain⟨hd,hd2,_⟩:=hf.spec
   refine hn _ _ ⟨_,G,E,rfl,?_⟩;show i6 B0 w0 nt G0 (s.put ri.dst (.d (.yi []))) G E _ _;rw[hd];exact h.a3f hd2 O7
  ·rw[hw]at h';cases h'
 ·rw[Ap h hf hw]
  exact .inl (Qj h hf (a5c hw ho) hn)
theorem axj{an:Ann}{ops:Array Oper}{l:List RI}(hal:Aligned P nt an ops l){Q:Exit→Act→World→Prop}{send:PS}(hQ:∀a w,J6 B0 nt w0 G0 (· =send) a w→Q .normal a w):
  ∀(is:List Nat),(∀i∈is,i<ops.size)→∀{s:PS} {G:fc} {E:Env} {a:Act} {w:World},i6 B0 w0 nt G0 s G E a w→a61 P (is.map fun i=>l.getD i default) s send→wpOps P ops Q is a w:=by
 intro is
 induction is with
 |nil=>intro _ s G E a w h hc;exact hQ _ _ ⟨s,G,E,hc,h⟩
 |cons i r ih=>
  intro iy s G E a w h hc;obtain⟨s1,tc,hc⟩:=hc;rw[wpOps_cons]
  have hi:=iy i (by simp)
  have hil:i<l.length:=by rw[hal.1];exact hi
  have hg:l.getD i default=l[i]:=by simp[bn,hil]
  have tc:Stp P (l.getD i default) s s1:=tc;rw[hg]at tc;have hf:=hal.2 i ops[i] l[i] (av hi) (ao hil);refine alh h hf (av hi) tc ?_;rintro a' w' ⟨s',G',E',rfl,h'⟩
  exact ih (fun j hj=>iy j (by simp[hj])) h' hc
theorem adu{an:Ann}{ops:Array Oper}{l:List RI}(hal:Aligned P nt an ops l){Q:Exit→Act→World→Prop}{K:PS→Prop}(hQ:∀a w,J6 B0 nt w0 G0 K a w→Q .normal a w):
  ∀(is:List Nat),(∀i∈is,i<ops.size)→∀{s:PS} {G:fc} {E:Env} {a:Act} {w:World},i6 B0 w0 nt G0 s G E a w→jn P (is.map fun i=>l.getD i default) s K→wpOps P ops Q is a w:=by
 intro is
 induction is with
 |nil=>intro _ s G E a w h hc;exact hQ _ _ ⟨s,G,E,hc,h⟩
 |cons i r ih=>
  intro iy s G E a w h hc;rw[wpOps_cons]
  have hi:=iy i (by simp)
  have hil:i<l.length:=by rw[hal.1];exact hi
  have hg:l.getD i default=l[i]:=by simp[bn,hil]
  rw[cu,hg,zc]at hc;have hf:=hal.2 i ops[i] l[i] (av hi) (ao hil);unfold wpOp;rw[av hi];simp only
  have rest:∀a w,J6 B0 nt w0 G0 (fun s'=>jn P (r.map fun i=>l.getD i default) s' K) a w→wpOps P ops Q r a w:=by
   rintro a' w' ⟨s',G',E',hK,h'⟩
   exact ih (fun j hj=>iy j (by simp[hj])) h' hK
  split at hc
  ·rename_i hw
   rw[Ap h hf hw];exact .inl (Qj h hf hc rest)
  ·rename_i hw
   rw[Ap h hf hw];obtain⟨hd,hd2,_⟩:=hf.spec;refine rest _ _ ⟨_,G,E,hc,?_⟩;rw[hd];exact h.a3f hd2 O7
  ·exact hc.elim
theorem Nw(l:List RI):(cq l.length).map (fun i=>l.getD i default)=l:=by
 apply a99;intro i;simp only[bp];by_cases h:i<l.length
 ·simp[Jx h,bn,h]
 ·rw[a2z (by simpa using h),a2z (by simpa using h)];rfl
theorem amo{o:RI}{r:List RI}{K:PS→Prop}(hg:o.guard=none):jn P (o::r) s K=Ev P o s fun s'=>jn P r s' K:=by
 rw[zc];unfold wanted;rw[hg]
theorem aid{an:Ann}{ops:Array Oper}{Q:Exit→Act→World→Prop}{K:PS→Prop}(hQ:∀a w,J6 B0 nt w0 G0 K a w→Q .normal a w):
  ∀(n:Nat) (L:List Oper) (q:Nat) {l:List RI},L.length≤n→ops.toList.drop q=L→a4f P nt an ops 0 L=some l→∀{s:PS} {G:fc} {E:Env} {a:Act} {w:World},i6 B0 w0 nt G0 s G E a w→jn P l s K→wpOps P ops Q (ag6 q L.length) a w:=by
 intro n
 induction n with
 |zero=>
  intro L q l hn hL hc s G E a w h hr
  have:L=[]:=jb (by omega)
  subst this;simp only[a4f,ah]at hc;subst hc;exact hQ _ _ ⟨s,G,E,hr,h⟩
 |succ n ih=>
  intro L q l hn hL hc s G E a w h hr
  cases L with
  |nil=>
   simp only[a4f,ah]at hc;subst hc;exact hQ _ _ ⟨s,G,E,hr,h⟩
  |cons o r=>
   have at_:∀(i:Nat) (x:Oper),(o::r)[i]? =some x→ops[q+i]? =some x:=by
    intro i x hx;rw[←hL,lv]at hx;simpa using hx
   have next:∀i,ops.toList.drop (q+i)=(o::r).drop i:=by
    intro i;rw[←hL,ahw]
   simp only[a4f]at hc;split at hc
   ·rename_i ri hg
    unfold aph at hg;split at hg
    ·rename_i o1 o2 o3 o4 o5 r' heq
     obtain⟨rfl,rfl⟩:=List.cons.inj heq;simp only[ak]at hc;obtain⟨l',hc,rfl⟩:=hc;have hc:a4f P nt an ops 0 r'=some l':=hc;obtain⟨kk,sz,bytes,m,k,y,d1,d2,d3,d4,t,kt,et,e,eu,au,i,args,Co,t5,g,rfl⟩:=afw hg;rw[amo rfl]at hr;obtain⟨id,s',tc,hK⟩:=hr
     have rest:∀a w,J6 B0 nt w0 G0 (fun s'=>jn P l' s' K) a w→wpOps P ops Q (ag6 (q+5) r'.length) a w:=by
      rintro a' w' ⟨s2,G2,E2,hK2,h2⟩
      refine ih r' (q+5) (by simp at hn;omega) (by have:=next 5;simpa using this) hc h2 hK2
     have gw:=atg h g tc hK rest (Q:=Q)
     have one:∀(j:Nat) (x:Oper) (js:List Nat) (A:Act) (W:World),ops[j]? =some x→x.guard=none→x.wp P A W (fun a w=>wpOps P ops Q js a w) Q→wpOps P ops Q (j::js) A W:=by
      intro j x js A W hx hgd hw;rw[wpOps_cons];unfold wpOp;rw[hx];simp only
      have:aF1 x (yielded ops A.tmps)=true:=by unfold aF1;rw[hgd]
      rw[this];exact .inl hw
     have mono:∀(x:Oper) (A:Act) (W:World) (N N':Act→World→Prop),(∀a w,N a w→N' a w)→x.wp P A W N Q→x.wp P A W N' Q:=by
      intro x A W N N' hN hx;exact al9 hN hx
     have hlen:(o::o2::o3::o4::o5::r').length=r'.length+5:=by simp
     rw[hlen]
     have hrg:ag6 q (r'.length+5)=q::(q+1)::(q+2)::(q+3)::(q+4)::ag6 (q+5) r'.length:=by
      simp[aDz]
     rw[hrg]
     refine one q o _ a w (at_ 0 _ rfl) g.o1.2.2 (mono _ _ _ _ _ (fun a1 w1 h1=>?_) gw)
     refine one (q+1) o2 _ a1 w1 (at_ 1 _ rfl) g.o2.2.2 (mono _ _ _ _ _ (fun a2 w2 h2=>?_) h1)
     refine one (q+2) o3 _ a2 w2 (at_ 2 _ rfl) g.o3.2.2 (mono _ _ _ _ _ (fun a3 w3 h3=>?_) h2)
     refine one (q+3) o4 _ a3 w3 (at_ 3 _ rfl) g.o4.2.2 (mono _ _ _ _ _ (fun a4 w4 h4=>?_) h3)
     exact one (q+4) o5 _ a4 w4 (at_ 4 _ rfl) g.o5.2.2 h4
    ·cases hg
   ·split at hc
    ·rename_i ri l' ho hl
     injection hc with hc
     subst hc;have hf:Fits P nt an ops o ri:=⟨ri,ho,.inl rfl⟩
     have hrg:ag6 q (o::r).length=q::ag6 (q+1) r.length:=by simp[aDz]
     rw[hrg,wpOps_cons];have hi:=at_ 0 o rfl;unfold wpOp;rw[show ops[q]? =some o from hi];simp only
     have rest:∀a w,J6 B0 nt w0 G0 (fun s'=>jn P l' s' K) a w→wpOps P ops Q (ag6 (q+1) r.length) a w:=by
      rintro a' w' ⟨s',G',E',hK,h'⟩
      exact ih r (q+1) (by simp at hn;omega) (by have:=next 1;simpa using this) hl h' hK
     rw[zc]at hr;split at hr
     ·rename_i hw
      rw[Ap h hf hw];exact .inl (Qj h hf hr rest)
     ·rename_i hw
      rw[Ap h hf hw];obtain⟨hd,hd2,_⟩:=hf.spec;refine rest _ _ ⟨_,G,E,hr,?_⟩;rw[hd];exact h.a3f hd2 O7
     ·exact hr.elim
    ·cases hc
theorem a7f{an:Ann}{ops:Array Oper}{l:List RI}(hal:a4f P nt an ops 0 ops.toList=some l){Q:Exit→Act→World→Prop}{K:PS→Prop}(h:i6 B0 w0 nt G0 s G E a w)(hr:jn P l s K)(hQ:∀a w,J6 B0 nt w0 G0 K a w→Q .normal a w){id:Nat}:
  (aG8 id ops false).wp P Q a w:=by
 refine wp_region ?_
 have:=aid hQ ops.toList.length ops.toList 0 (ar _) (by simp) hal h hr
 rw[rh,←aEs]at this;exact this
theorem aud{an:Ann}{ops:Array Oper}{l:List RI}(hal:Aligned P nt an ops l){Q:Exit→Act→World→Prop}{K:PS→Prop}(h:i6 B0 w0 nt G0 s G E a w)(hr:jn P l s K)(hQ:∀a w,J6 B0 nt w0 G0 K a w→Q .normal a w){id:Nat}:
  (aG8 id ops false).wp P Q a w:=by
 refine wp_region (adu hal hQ _ (fun i hi=>du.1 hi) h ?_)
 rw[←hal.1,Nw];exact hr
def Inv(s:PS)(l:List RI):Prop:=∀o∈l,∀d∈o.nw,I8 s (s.base+d)
def Far(x y:RI):Prop:=(∀d∈x.makes,d∉y.nw)∧(x.isE=true→y.nw=[])
theorem alj{o:RI}(tc:Stp P o s s1):s1.base=s.base:=by
 obtain⟨ids,e,_,rfl⟩:=tc;rw[P3,(Fg ids s).1]
theorem ab4{o:RI}{l:List RI}(tc:Stp P o s s1)(hi:Inv s l)(hf:∀x∈l,Far o x):Inv s1 l:=fun x hx d hd=>by
 rw[alj tc]
 cases hE:o.isE with
 |true=>rw[(hf x hx).2 hE]at hd;cases hd
 |false=>exact akl tc (hi x hx d hd) (fun⟨w,hw,hm⟩=>(hf x hx).1 w hm ((show d=w by omega)▸hd)) hE
theorem ax7{an:Ann}{ops:Array Oper}{y:RI}{post:List RI}{send:PS}(gy:Good y):∀(pre:List RI) {s:PS} {G:fc} {E:Env} {a:Act} {w:World},i6 B0 w0 nt G0 s G E a w→(∀x∈pre,∃o,Fits P nt an ops o x)→(∀x∈pre,aho x y)→
  Inv s (pre++y::post)→(pre++y::post).Pairwise Far→a61 P (pre++y::post) s send→∃s1,Stp P y s s1∧a61 P (pre++post) s1 send:=by
 intro pre
 induction pre with
 |nil=>intro s G E a w _ _ _ _ _ hc;exact hc
 |cons x pre ih=>
  intro s G E a w h Pl hap hinv hpw hc;obtain⟨sx,hx,hc⟩:=hc
  obtain⟨o,hfx⟩:=Pl x (by simp)
  obtain⟨G1,E1,a1,w1,h1⟩:=ali h hfx hx;rw[vp,M8]at hpw
  have aza:Inv sx (pre++y::post):=ab4 hx (fun z hz=>hinv z (by simp only[vp,dn];exact .inr hz)) hpw.1
  obtain⟨s2,hy,hc2⟩:=ih h1 (fun z hz=>Pl z (by simp[hz])) (fun z hz=>hap z (by simp[hz])) aza hpw.2 hc
  obtain⟨s1',k1,k2⟩:=swap (hap x (by simp)) hfx.azk gy h.wf (hinv x (by simp)) (hinv y (by simp)) hx hy
  exact⟨s1',k1,s2,k2,hc2⟩
theorem abl(A:Array Bool)(i j:Nat)(d:Bool):(A.setIfInBounds i true).getD j d=if j=i∧i<A.size then true else A.getD j d:=by
 rw[jo,jo,av4];by_cases h:i=j
 ·subst h
  by_cases h2:i<A.size
  ·simp[h2]
  ·simp[h2]
 ·simp[h,aGr h]
theorem abn{A:Array Bool}{j:Nat}(h:j<A.size)(d d':Bool):A.getD j d=A.getD j d':=by simp[Array.getD,h]
end
end Go.PI
