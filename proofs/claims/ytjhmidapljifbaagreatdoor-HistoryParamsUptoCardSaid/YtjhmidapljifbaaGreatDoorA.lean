/- A part of the proof for HistoryParams: PA to PS10. Printed from longer texts. -/
import Derived.Calls
import Derived.Orders
import Derived.Below
import Derived.Laws.Cells
import Derived.Laws.CopyRow
import Derived.Laws.Tables
import Derived.Laws.StructEq
import Derived.ChangeKeysEq
import Derived.Laws.AppendOwn
set_option linter.all false
set_option maxHeartbeats 64000000
open And renaming intro→aLb
open Array renaming eq_empty_of_size_eq_zero→Xa,getD_eq_getD_getElem?→j8,getElem?_append→Gw,getElem?_eq_getElem→bd,getElem?_eq_some_iff→ig,getElem?_extract→a1p,getElem?_map→X9,getElem?_range→avb,getElem?_setIfInBounds_ne→W3,getElem?_setIfInBounds_self→T5,length_toList→qa,mapM_eq_mapM_toList→aal,range→aKv,replicate→N3,size_append→Sc
open BitVec renaming ofInt→aF8
open Bool renaming and_true→Gy,false_eq_true→fk,true_and→uh
open Eq renaming refl→fw,trans→er
open Go.Builtin renaming append_→y9,firstCells→l9,len_→aKa,nextslicecap→aJ7,zeroCells→kq
open Go.Instr renaming build→aKe,extract→aJh,index→aKn,indexAt→aIc,loadAt→aK9,storeAt→aF2,sureAddr→aCc
open Go.IntKind renaming i64→ab,signed→aJq,wrap→P1
open Go.Op renaming bytesLess→alw,eqFields→aKp,equal→aIy,equalIn→aKy,maxDepth→aKm
open Go.Program renaming cellsOf→aEy
open Go.Region renaming binds→aIw,ready→Hm
open Go.Result renaming andThen_ok→bh
open Go.RowKit.Below renaming refl→aL2
open Go.Sem renaming run_bind→cb,run_map→aKo,run_pure→eh
open Go.Value renaming pointer→aK4
open Go.World renaming cell?→aKc,cell?_of_block→aIu
open List renaming all_eq_true→cz,append_assoc→oq,cons_append→xz,drop_drop→am3,drop_eq_getElem_cons→jq,eq_nil_of_length_eq_zero→ix,flatten_cons→aut,flatten_nil→aI8,foldl_cons→qe,getElem?_append→N5,getElem?_cons_succ→gl,getElem?_cons_zero→dm,getElem?_drop→oo,getElem?_eq_getElem→ax,getElem?_eq_none→a6z,getElem?_eq_some_iff→aw,getElem?_map→cw,getElem?_of_mem→aJ3,getElem?_range→M5,getElem?_set→Da,getElem?_take→jo,getElem?_toArray→zh,getElem_mem→cy,length→a3h,length_append→db,length_cons→ca,length_drop→uv,length_map→ag,length_nil→ed,length_set→av4,length_take→dw,length_take_le'→av3,map_congr_left→Cy,map_cons→gf,map_drop→aus,map_take→Gx,mem_append_left→aae,mem_append_right→V3,mem_cons→dq,mem_map→iw,mem_of_getElem?→jt,mem_range→ep,mem_singleton→X7,not_mem_nil→kh,range→dn,range'→ake,range'_succ→aI6,range_eq_range'→aJ2,replicate→j5,replicate_succ→aJb,size_toArray→W0
open Nat renaming add_assoc→qj,add_mul→ji,add_zero→Bw,div_lt_iff_lt_mul→aIo,eq_zero_or_pos→a74,le_of_eq→aJl,le_of_lt→aKi,le_refl→ay,le_trans→ie,min_eq_left→akd,mod_eq_of_lt→aab,mod_lt→a73,mul_comm→aK5,mul_le_mul_right→fa,not_lt→aL0,one_mul→Bd,zero_add→fj,zero_mul→aly
open Option renaming bind_some→Of,getD_some→j6,isSome_iff_exists→jx,map→aKx,map_eq_some_iff→ao,map_some→ir
open Option.some renaming injEq→aj
open Prod.mk renaming injEq→br
namespace Go.PI
open Go Go.RowKit
theorem al{c:Prop}{h:Decidable c}(hnc:¬c){α:Sort _}{t e:α}:ite c t e=e:=if_neg hnc
theorem bm{c:Prop}{h:Decidable c}(hc:c){α:Sort _}{t e:α}:ite c t e=t:=if_pos hc
theorem dj{α:Sort _}{h:Decidable True}(t e:α):ite True t e=t:=if_pos trivial
theorem ee{α:Sort _}{h:Decidable False}(t e:α):ite False t e=e:=if_neg id
theorem gq{α:Type _}[BEq α][ReflBEq α](a:α):(a==a)=true:=BEq.rfl
inductive D where
 |int (k:IntKind) (n:Int)
 |bool (b:Bool)
 |str (s:ByteArray)
 |cq
 |ft (sz:Nat) (l:List (List D))
 |Np
 |agg (cs:List D)
 |Aa (vs:List D)
 |Wc
 |te (cells:List D) (off:Nat)
 |I0
 |map (es:List (D×D))
 |nu (f:Nat) (iy:List D)
 |uw
 |any
 deriving Inhabited
structure fy where
 cv:Nat→Nat→Option Value
 mv:Nat→Option (List (Value×Value))
inductive gj(G:fy):D→Value→Prop
 |int {k n}:gj G (.int k n) (.int k n)
 |bool {b}:gj G (.bool b) (.bool b)
 |str {s}:gj G (.str s) (.string s)
 |cq:gj G .cq (.slice none 0 0)
 |ft {sz:Nat} {l:List (List D)} {b o c:Nat} (hc:l.length≤c) (hs:∀(i:Nat) (e:List D),l[i]? =some e→e.length=sz)
   (h1:∀i j,i<l.length→j<sz→(G.cv b (o+i*sz+j)).isSome)
   (h2:∀(i:Nat) (e:List D) (j:Nat) (x:D) (v:Value),l[i]? =some e→e[j]? =some x→G.cv b (o+i*sz+j)=some v→gj G x v):
   gj G (.ft sz l) (.slice (some ⟨b,o,none⟩) l.length c)
 |V6 {sz:Nat}:gj G (.ft sz []) (.slice none 0 0)
 |Xg {sz:Nat} {a:Addr} {c:Nat}:gj G (.ft sz []) (.slice (some a) 0 c)
 |Np {a:Addr} {c:Nat}:gj G .Np (.slice (some a) 0 c)
 |agg {cs:List D} {vs:Array Value} (hl:vs.size=cs.length) (h:∀(i:Nat) (x:D) (v:Value),cs[i]? =some x→vs[i]? =some v→gj G x v):gj G (.agg cs) (.agg vs)
 |Aa {cs:List D} {vs:Array Value} (hl:vs.size=cs.length) (h:∀(i:Nat) (x:D) (v:Value),cs[i]? =some x→vs[i]? =some v→gj G x v):gj G (.Aa cs) (.tuple vs)
 |Wc:gj G .Wc (.pointer none)
 |te {cells:List D} {b o off:Nat} (h1:∀j,j<cells.length→(G.cv b (o+j)).isSome)
   (h2:∀(j:Nat) (x:D) (v:Value),cells[j]? =some x→G.cv b (o+j)=some v→gj G x v):gj G (.te cells off) (.pointer (some ⟨b,o+off,none⟩))
 |I0:gj G .I0 (.map none)
 |map {es:List (D×D)} {r:Nat} {fs:List (Value×Value)} (h0:G.mv r=some fs) (hl:fs.length=es.length)
   (h1:∀(i:Nat) (e:D×D) (f:Value×Value),es[i]? =some e→fs[i]? =some f→gj G e.1 f.1)
   (h2:∀(i:Nat) (e:D×D) (f:Value×Value),es[i]? =some e→fs[i]? =some f→gj G e.2 f.2):gj G (.map es) (.map (some r))
 |nu {f:Nat} {iy:List D} {vs:Array Value} (hl:vs.size=iy.length) (h:∀(i:Nat) (x:D) (v:Value),iy[i]? =some x→vs[i]? =some v→gj G x v):gj G (.nu f iy) (.func (.func f) #[] vs)
 |uw:gj G .uw .nilFunc
 |any {v}:gj G .any v
structure fy.le(G G':fy):Prop where
 cv:∀b o v,G.cv b o=some v→G'.cv b o=some v
 mv:∀b es,G.mv b=some es→G'.mv b=some es
theorem fy.kl(G:fy):G.le G:=⟨fun _ _ _ h=>h,fun _ _ h=>h⟩
theorem fy.a03{A B C:fy}(h:A.le B)(k:B.le C):A.le C:=⟨fun b o v x=>k.cv b o v (h.cv b o v x),fun b es x=>k.mv b es (h.mv b es x)⟩
theorem gj.mono{G G':fy}(hG:G.le G'){x:D}{v:Value}(h:gj G x v):gj G' x v:=by
 induction h with
 |int=>exact .int
 |bool=>exact .bool
 |str=>exact .str
 |cq=>exact .cq
 | @ft sz l b o c hc hs h1 h2 ih=>
  refine .ft hc hs (fun i j hi hj=>?_) (fun i e j x v he hx hv=>?_)
  ·obtain⟨v,hv⟩:=jx.1 (h1 i j hi hj);rw[hG.cv _ _ _ hv];rfl
  have hil:i<l.length:=(aw.1 he).1
  have hjl:j<sz:=by have:=hs i e he;have:=(aw.1 hx).1;omega
  obtain⟨u,hu⟩:=jx.1 (h1 i j hil hjl);have:=hG.cv _ _ _ hu;rw[this]at hv
  injection hv with hv
  exact ih i e j x v he hx (hv▸hu)
 |V6=>exact .V6
 |Xg=>exact .Xg
 |Np=>exact .Np
 |agg hl _ ih=>exact .agg hl ih
 |Aa hl _ ih=>exact .Aa hl ih
 |Wc=>exact .Wc
 | @te cells b o off h1 h2 ih=>
  refine .te (fun j hj=>?_) (fun j x v hx hv=>?_)
  ·obtain⟨v,hv⟩:=jx.1 (h1 j hj);rw[hG.cv _ _ _ hv];rfl
  obtain⟨u,hu⟩:=jx.1 (h1 j (aw.1 hx).1);have:=hG.cv _ _ _ hu;rw[this]at hv
  injection hv with hv
  exact ih j x v hx (hv▸hu)
 |I0=>exact .I0
 |map h0 hl _ _ ih1 ih2=>exact .map (hG.mv _ _ h0) hl ih1 ih2
 |nu hl _ ih=>exact .nu hl ih
 |uw=>exact .uw
 |any=>exact .any
def D.scalar:D→Bool
 | .int .. | .bool _| .str _| .cq| .Wc| .I0| .uw| .any=>true
 |_=>false
def D.flat:D→Bool
 | .agg cs=>cs.all D.scalar
 | .Aa vs=>vs.all fun| .agg cs=>cs.all D.scalar|x=>x.scalar
 |x=>x.scalar
theorem gj.scalar{G G':fy}{x:D}{v:Value}(hx:x.scalar=true)(h:gj G x v):gj G' x v:=by
 cases h<;>first|(simp[D.scalar]at hx;done)|constructor
theorem gj.aEt{G G':fy}{cs:List D}{v:Value}(hx:cs.all D.scalar=true)(h:gj G (.agg cs) v):gj G' (.agg cs) v:=by
 cases h with
 |agg hl h=>exact .agg hl fun i x v hi hv=>(h i x v hi hv).scalar (cz.1 hx x (jt hi))
theorem gj.flat{G G':fy}{x:D}{v:Value}(hx:x.flat=true)(h:gj G x v):gj G' x v:=by
 cases x with
 |agg cs=>exact h.aEt (by simpa[D.flat]using hx)
 |Aa vs=>
  cases h with
  |Aa hl h=>
   refine .Aa hl fun i x v hi hv=>?_;have hm:=h i x v hi hv;have hx':=cz.1 (by simpa only[D.flat]using hx) x (jt hi)
   cases x with
   |agg cs=>exact hm.aEt (by simpa using hx')
   |_=>exact hm.scalar (by simpa using hx')
 |_=>exact h.scalar (by simpa[D.flat]using hx)
structure GOk(G:fy)(w:World):Prop where
 cv:∀b o v,G.cv b o=some v→w.cell? ⟨b,o,none⟩=some v
 mv:∀b es,G.mv b=some es→∃ents clock,w.heap[b]? =some (.map ents clock)∧ents.toList.map (fun e=>(e.key,e.val))=es
theorem GOk.lt{G:fy}{w:World}(h:GOk G w){b o:Nat}{v:Value}(hc:G.cv b o=some v):b<w.heap.size:=
 World.block_lt_of_cell? _ _ (h.cv b o v hc)
theorem GOk.ltm{G:fy}{w:World}(h:GOk G w){b:Nat}{es}(hc:G.mv b=some es):b<w.heap.size:=by
 obtain⟨_,_,hh,_⟩:=h.mv b es hc;exact(ig.1 hh).1
theorem GOk.below{G:fy}{w w':World}(h:GOk G w)(hb:Below w.heap.size w w'):GOk G w' where
 cv b o v hc:=(hb.cell (p:=⟨b,o,none⟩) (h.lt hc)).trans (h.cv b o v hc)
 mv b es hc:=by
  obtain⟨ents,clock,hh,he⟩:=h.mv b es hc;exact⟨ents,clock,(hb.block b (h.ltm hc)).trans hh,he⟩
def fy.same(G G':fy)(n:Nat):Prop:=(∀b o,b<n→G'.cv b o=G.cv b o)∧∀b,b<n→G'.mv b=G.mv b
structure Bel(Q:Prop)(B:Nat)(w w':World):Prop extends Below B w w' where
 drawn:Q→w.drawn≤w'.drawn
theorem Bel.refl{Q:Prop}(B:Nat)(w:World):Bel Q B w w:=⟨aL2 _ _,fun _=>ay _⟩
theorem Bel.trans{Q:Prop}{B:Nat}{a b c:World}(h:Bel Q B a b)(k:Bel Q B b c):Bel Q B a c:=⟨h.toBelow.trans k.toBelow,fun q=>ie (h.drawn q) (k.drawn q)⟩
theorem Bel.mono{Q:Prop}{B B':Nat}{w w':World}(h:Bel Q B w w')(hB:B'≤B):Bel Q B' w w':=⟨h.toBelow.mono hB,h.drawn⟩
theorem Bel.M7{Q Q':Prop}{B:Nat}{w w':World}(h:Bel Q B w w')(hQ:Q'→Q):Bel Q' B w w':=⟨h.toBelow,fun q=>h.drawn (hQ q)⟩
theorem Bel.drew{Q:Prop}{B:Nat}{a w:World}(h:Bel Q B a w):Bel Q B a w.drew:=⟨h.toBelow.drew,fun q=>Nat.le_succ_of_le (h.drawn q)⟩
theorem Bel.alloc{Q:Prop}{B:Nat}{a w:World}(h:Bel Q B a w)(hB:B≤w.heap.size)(o:Obj):Bel Q B a (w.alloc o):=⟨h.toBelow.alloc hB o,h.drawn⟩
def yj(P:Program)(f:Nat):Bool:=
 match P.funcs[f]? with
 |some fn=>fn.name != "runtime.NumGoroutine"&&fn.body.isSome
 |none=>false
def iq(P:Program)(f:Nat)(args:List D)(r:D):Prop:=
 yj P f=true∧∀(G:fy) (w:World) (vs:Array Value),GOk G w→vs.size=args.length→(∀(i:Nat) (x:D) (v:Value),args[i]? =some x→vs[i]? =some v→gj G x v)→
  Calls P f vs w fun e w'=>∃v G',e= .returned v∧G.le G'∧G.same G' w.heap.size∧GOk G' w'∧Bel True w.heap.size w w'∧gj G' r v
def a6s(P:Program)(f:Nat)(args:List D)(R:D→Prop):Prop:=
 yj P f=true∧∀(G:fy) (w:World) (vs:Array Value),GOk G w→vs.size=args.length→(∀(i:Nat) (x:D) (v:Value),args[i]? =some x→vs[i]? =some v→gj G x v)→
  Calls P f vs w fun e w'=>∃v G' r,e= .returned v∧R r∧G.le G'∧G.same G' w.heap.size∧GOk G' w'∧Bel True w.heap.size w w'∧gj G' r v
theorem iq.toR{P:Program}{f:Nat}{args:List D}{r:D}(h:iq P f args r):a6s P f args (· =r):=
 ⟨h.1,fun G w vs h1 h2 h3=>(h.2 G w vs h1 h2 h3).mono fun _ _ ⟨v,G',k1,k2⟩=>⟨v,G',r,k1,rfl,k2⟩⟩
inductive C where
 |d (x:D)
 |ref (id av len:Nat)
 |kj (id av:Nat)
 |ptr (id av off:Nat)
 deriving Inhabited
inductive V where
 |d (x:D)
 |ref (id av len:Nat)
 |kj (id av:Nat)
 |ic (id av off:Nat)
 |Hf (id av ln i off:Nat)
 |nu (f:Nat) (ids:List (Nat×Nat))
 |agg (cs:List C)
 |Aa (cs:List C)
 |Ka (id av len n:Nat)
 |Hg (id av n a:Nat)
 |win (id av n o l:Nat)
 |no
 deriving Inhabited
def C.toV:C→V
 | .d x=> .d x
 | .ref i v l=> .ref i v l
 | .kj i v=> .kj i v
 | .ptr i v o=> .ic i v o
inductive B where
 |arr (sz:Nat) (dd:List (List D))
 |qq (sz:Nat) (dd:List (List C))
 |loc (cs:List C)
 |Ro (n:Nat)
 deriving Inhabited
def B.isVar:B→Bool
 | .arr .. =>false
 | .qq .. =>false
 |_=>true
def B.Cz:B→Option (Nat×Nat)
 | .arr sz dd=>some (sz,dd.length)
 | .qq sz dd=>some (sz,dd.length)
 |_=>none
structure PS where
 tmp:Nat→V
 da:Nat→Option B
 av:Nat→Nat
 mp:Nat→Option (List (D×C))
 base:Nat:=0
 ctx:Nat→V×Value:=fun _=>(.no,.tuple #[])
def PS.Cz(s:PS)(id:Nat):Option (Nat×Nat):=(s.da id).bind B.Cz
def lb{α:Type}(f:Nat→α)(i:Nat)(v:α):Nat→α:=fun j=>if j=i then v else f j
theorem ck{α:Type}(f:Nat→α)(i:Nat)(v:α):lb f i v i=v:=by simp[lb]
theorem gu{α:Type}(f:Nat→α)(i j:Nat)(v:α)(h:j≠i):lb f i v j=f j:=by simp[lb,h]
theorem ak{α:Type}(f:Nat→α)(i j:Nat)(v:α):lb f i v j=if j=i then v else f j:=rfl
structure Env where
 b:Nat→Nat
 n:Nat→Nat
 m:Nat→Nat
def ij(G:fy)(E:Env)(s:PS):V→Value→Prop
 | .d x,v=>gj G x v
 | .ref id av len,v=>av≤s.av id∧(s.av id=av→∀sz n,s.Cz id=some (sz,n)→len≤n∧(n=len→
   ∃cap,E.n id=cap*sz∧len≤cap∧v= .slice (some ⟨E.b id,0,none⟩) len cap))
 | .kj id av,v=>av≤s.av id∧(s.av id=av→(s.mp id).isSome→v= .map (some (E.m id)))
 | .ic id av off,v=>av≤s.av id∧(s.av id=av→(∃b,s.da id=some b∧b.isVar=true)→v= .pointer (some ⟨E.b id,off,none⟩))
 | .Hf id av ln i off,v=>av≤s.av id∧(s.av id=av→∀sz n,s.Cz id=some (sz,n)→ln≤n∧(n=ln→v= .pointer (some ⟨E.b id,i*sz+off,none⟩)))
 | .nu f ids,v=>(∀p∈ids,p.2≤s.av p.1)∧((∀p∈ids,s.av p.1=p.2∧∃b,s.da p.1=some b∧b.isVar=true)→
   v= .func (.func f) #[] (ids.map fun p=>aK4 (some ⟨E.b p.1,0,none⟩)).toArray)
 | .agg cs,v=>∃vs:Array Value,v= .agg vs∧vs.size=cs.length∧∀(i:Nat) (c:C) (u:Value),cs[i]? =some c→vs[i]? =some u→
   match c with
   | .d x=>gj G x u
   | .ref id av len=>av≤s.av id∧(s.av id=av→∀sz n,s.Cz id=some (sz,n)→len≤n∧(n=len→
     ∃cap,E.n id=cap*sz∧len≤cap∧u= .slice (some ⟨E.b id,0,none⟩) len cap))
   | .kj id av=>av≤s.av id∧(s.av id=av→(s.mp id).isSome→u= .map (some (E.m id)))
   | .ptr id av off=>av≤s.av id∧(s.av id=av→(∃b,s.da id=some b∧b.isVar=true)→u= .pointer (some ⟨E.b id,off,none⟩))
 | .Aa cs,v=>∃vs:Array Value,v= .tuple vs∧vs.size=cs.length∧∀(i:Nat) (c:C) (u:Value),cs[i]? =some c→vs[i]? =some u→
   match c with
   | .d x=>gj G x u
   | .ref id av len=>av≤s.av id∧(s.av id=av→∀sz n,s.Cz id=some (sz,n)→len≤n∧(n=len→
     ∃cap,E.n id=cap*sz∧len≤cap∧u= .slice (some ⟨E.b id,0,none⟩) len cap))
   | .kj id av=>av≤s.av id∧(s.av id=av→(s.mp id).isSome→u= .map (some (E.m id)))
   | .ptr id av off=>av≤s.av id∧(s.av id=av→(∃b,s.da id=some b∧b.isVar=true)→u= .pointer (some ⟨E.b id,off,none⟩))
 | .Ka id av len _,v=>av≤s.av id∧(s.av id=av→(∃b,s.da id=some b∧b.isVar=true)→v= .slice (some ⟨E.b id,0,none⟩) len len)
 | .Hg id av n a,v=>a≤n∧av≤s.av id∧(s.av id=av→∀sz m,s.Cz id=some (sz,m)→n≤m∧(m=n→(∃cap,E.n id=cap*sz∧n≤cap)∧v= .slice (some ⟨E.b id,0,none⟩) a a))
 | .win id av n o l,v=>(o+l≤n∧0<n)∧av≤s.av id∧(s.av id=av→∀sz m,s.Cz id=some (sz,m)→n≤m∧(m=n→
   ∃C cap off,E.n id=C*sz∧n≤o+cap∧o+cap≤C∧l≤cap∧(cap=0∨off=o*sz)∧v= .slice (some ⟨E.b id,off,none⟩) l cap))
 | .no,_=>True
def xv(G:fy)(E:Env)(s:PS)(c:C)(u:Value):Prop:=ij G E s c.toV u
theorem Eu{G:fy}{E:Env}{s:PS}{cs:List C}{v:Value}:
  ij G E s (.agg cs) v↔∃vs:Array Value,v= .agg vs∧vs.size=cs.length∧∀(i:Nat) (c:C) (u:Value),cs[i]? =some c→vs[i]? =some u→xv G E s c u:=by
 constructor
 ·rintro⟨vs,h1,h2,h3⟩;refine⟨vs,h1,h2,fun i c u hc hu=>?_⟩;have:=h3 i c u hc hu;cases c<;>exact this
 rintro⟨vs,h1,h2,h3⟩;refine⟨vs,h1,h2,fun i c u hc hu=>?_⟩;have:=h3 i c u hc hu;cases c<;>exact this
theorem K0{G:fy}{E:Env}{s:PS}{cs:List C}{v:Value}:
  ij G E s (.Aa cs) v↔∃vs:Array Value,v= .tuple vs∧vs.size=cs.length∧∀(i:Nat) (c:C) (u:Value),cs[i]? =some c→vs[i]? =some u→xv G E s c u:=by
 constructor
 ·rintro⟨vs,h1,h2,h3⟩;refine⟨vs,h1,h2,fun i c u hc hu=>?_⟩;have:=h3 i c u hc hu;cases c<;>exact this
 rintro⟨vs,h1,h2,h3⟩;refine⟨vs,h1,h2,fun i c u hc hu=>?_⟩;have:=h3 i c u hc hu;cases c<;>exact this
def Sj(G:fy)(E:Env)(s:PS)(B0:Nat)(w:World)(id:Nat)(b:B):Prop:=
 B0≤E.b id∧(∀o,G.cv (E.b id) o=none)∧∃cells et,w.heap[E.b id]? =some (.cells cells et (0,0))∧E.n id≤cells.size∧
  match b with
  | .arr sz dd=>dd.length*sz≤cells.size∧(∀(i:Nat) (e:List D),dd[i]? =some e→e.length=sz)∧
    ∀(i:Nat) (e:List D) (j:Nat) (x:D) (u:Value),dd[i]? =some e→e[j]? =some x→cells[i*sz+j]? =some u→gj G x u
  | .qq sz dd=>dd.length*sz≤cells.size∧(∀(i:Nat) (e:List C),dd[i]? =some e→e.length=sz)∧
    ∀(i:Nat) (e:List C) (j:Nat) (x:C) (u:Value),dd[i]? =some e→e[j]? =some x→cells[i*sz+j]? =some u→xv G E s x u
  | .loc cs=>cs.length=cells.size∧∀(j:Nat) (c:C) (u:Value),cs[j]? =some c→cells[j]? =some u→xv G E s c u
  | .Ro n=>n=cells.size
def a0i(ents:Array MapEntry)(clock:Nat):Prop:=
 (∀(i:Nat) (x:MapEntry),ents[i]? =some x→x.born<clock)∧∀(i j:Nat) (x y:MapEntry),ents[i]? =some x→ents[j]? =some y→x.born=y.born→i=j
def Plain(c:Nat→V×Value):Prop:=∀i v,c i=(.no,v)→v= .tuple #[]
def N4(x:V×Value)(B:Nat)(w:World):Prop:=
 ∀(b:Nat) (cs:Array Value),x=(.no,.agg #[.pointer (some ⟨b,0,none⟩),.agg cs])→b<B∧∃T fz,w.heap[b]? =some (.cells cs T fz)
theorem N4.below{x:V×Value}{B:Nat}{w w':World}(h:N4 x B w)(e:B=w.heap.size){Q:Prop}(hb:Bel Q B w w'):N4 x w'.heap.size w':=by
 intro b cs hx;obtain⟨h1,T,fz,h2⟩:=h b cs hx;have h3:=hb.size;exact⟨by omega,T,fz,(hb.block b h1).trans h2⟩
theorem N4.nil{B:Nat}{w:World}:N4 (.no,.tuple #[]) B w:=fun b cs h=>by cases h
structure j9(B0:Nat)(w0:World)(nt:Nat)(G0:fy)(s:PS)(G:fy)(E:Env)(a:Act)(w:World):Prop where
 size:a.tmps.size=nt
 defers:a.defers=[]
 base:B0=w0.heap.size
 below:Bel (Plain s.ctx) B0 w0 w
 gok:GOk G w
 gle:G0.le G
 Ip:G0.same G B0
 tmp:∀t,ij G E s (s.tmp t) (a.tmps.getD t undef)
 da:∀id b,s.da id=some b→Sj G E s B0 w id b
 inj:∀i j bi bj,s.da i=some bi→s.da j=some bj→i≠j→E.b i≠E.b j
 mp:∀id es,s.mp id=some es→B0≤E.m id∧G.mv (E.m id)=none∧∃ents clock,w.heap[E.m id]? =some (.map ents clock)∧
  ents.size=es.length∧(∀(i:Nat) (e:D×C) (x:MapEntry),es[i]? =some e→ents[i]? =some x→gj G e.1 x.key∧xv G E s e.2 x.val)∧a0i ents clock
 Qq:∀i j bi bj,s.mp i=some bi→s.mp j=some bj→i≠j→E.m i≠E.m j
 ctx:∀i,ij G E s (s.ctx i).1 (s.ctx i).2
 tb:∀i,N4 (s.ctx i) B0 w0
inductive me where
 |t (n:Nat)
 |c (x:D)
 deriving Inhabited
inductive TK where
 |str|ft|map|ptr|fn
 deriving DecidableEq,Inhabited
inductive LK where
 |int|bool|str
 deriving DecidableEq,Inhabited
inductive KK where
 |one (k:LK)
 |row (ks:List LK)
 deriving Inhabited
inductive jv where
 |j7 (x:me)
 |pick (c a b:me)
 |alloc (zero:List D)
 |box (n:Nat) (x:me)
 |load (n:Nat) (agg:Bool) (x:me)
 |store (n:Nat) (a x:me)
 |Y4 (x:me)
 |Fg (off:Nat) (x:me)
 |ux (len n:Nat) (x i:me)
 |sq (n:Nat) (x i:me)
 |Zr (x i:me)
 |a2q (off n:Nat) (agg:Bool) (x:me)
 |len (k:TK) (x:me)
 |bin (op:BinOp) (x y:me)
 |eqs (ks:List LK) (neg:Bool) (x y:me)
 |Jl (k:TK) (neg:Bool) (x:me)
 |beq (neg:Bool) (x y:me)
 |un (op:UnOp) (x:me)
 |conv (k:IntKind) (x:me)
 |a19 (x:me)
 |build (zero:List D) (parts:List (Nat×Nat×me))
 |yk (im:Bool) (n sz:Nat) (zero:List D) (parts:List (Nat×Nat×me))
 |app (sz bytes:Nat) (x y:me)
 |a09 (n sz:Nat) (zero:List D) (parts:List (Nat×Nat×me))
 |a04 (kk:KK) (sz bytes:Nat) (x k y:me) (ts:List Nat)
 |a2t (sz bytes:Nat) (zero:List D) (x y:me)
 |acn (x:me)
 |acw (len n:Nat) (x:me)
 |Hg (n:Nat) (x j k:me)
 |No (n:Nat) (x j:me)
 |Qb (n:Nat) (x:me) (lo hi mx:Option me)
 |trim (x:me)
 |clr (z:List D) (x:me)
 |bad
 |slice (n:Nat) (x:me) (lo hi:Option me)
 |H9
 |lookup (kk:KK) (zero:D) (x i:me) (ok:Bool)
 |Wd (kk:KK) (x k v:me)
 |Lr (f:Nat) (iy:List me)
 |ext (x:me) (i:Nat)
 |Ee (mx:Bool) (x y:me)
 |call (f:Nat) (args:List me)
 |wv (f:me) (args:List me)
 |ze (n:Nat)
 |init (g n:Nat) (x:me)
 |slice3 (n:Nat) (x j k:me)
 |a4z (len n:Nat) (agg:Bool) (x i:me)
 |yr (f:Nat) (args:List me)
 |Vw (f:Nat) (args:List me)
 |N0 (f:me) (args:List me)
 |qb (f:Nat) (args:List me)
 |O9 (f:me) (args:List me)
 deriving Inhabited
structure RI where
 dst:Option Nat
 op:jv
 guard:Option (Nat×Bool)
 after:List Nat
 deriving Inhabited
inductive di where
 |skip
 |region (ops:List RI) (draw:Bool) (uu:List Nat)
 |seq (a b:di)
 |cond (c:me) (a b:di)
 |block (id:Nat) (c:di)
 |loop (c:di)
 |freeze
 |a5o (ops:List RI)
 |both (a b:di)
 |exit (id:Nat)
 |ret
 deriving Inhabited
def me.ev(s:PS):me→V
 | .t n=>s.tmp n
 | .c x=> .d x
structure Mem where
 da:Nat→Option B
 av:Nat→Nat
 mp:Nat→Option (List (D×C))
def PS.mem(s:PS):Mem:=⟨s.da,s.av,s.mp⟩
def PS.j0(s:PS)(m:Mem):PS:={s with da:=m.da,av:=m.av,mp:=m.mp}
inductive lk where
 |val (v:V)
 |new (v:V) (id:Nat) (b:B)
 |set (id:Nat) (b:B)
 |grow (v:V) (id:Nat) (b:B)
 |a1u (v:V) (id:Nat)
 |Za (id:Nat) (es:List (D×C))
 |init (v:V) (t id:Nat) (cs:List C)
 |Ij (id:Nat) (b:B) (id2:Nat) (b2:B)
 |cut (v:V) (id:Nat) (b:B)
 |mem (m:Mem) (v:V)
abbrev a6t:=List Nat×lk
def lk.rz(v:V):a6t:=([],.val v)
def Om:List C→Option (List D)
 |[]=>some []
 | .d x::r=>match Om r with|some l=>some (x::l)|none=>none
 |_::_=>none
def mkv(agg:Bool)(cs:List C):V:=
 match agg,Om cs,cs with
 |true,some ds,_=> .d (.agg ds)
 |true,none,cs=> .agg cs
 |false,_,[c]=>c.toV
 |false,_,_=> .no
def mkd(agg:Bool)(ds:List D):V:=
 match agg,ds with
 |true,ds=> .d (.agg ds)
 |false,[x]=> .d x
 |false,_=> .no
def D.one:D→Bool
 | .agg _| .Aa _| .any=>false
 |_=>true
def patch{α:Type}(l:List α)(off:Nat)(xs:List α):List α:=l.take off++xs++l.drop (off+xs.length)
def PS.dd(s:PS)(id av:Nat):Option (Nat×List (List D)):=
 if s.av id=av then match s.da id with
  |some (.arr sz dd)=>some (sz,dd)
  |_=>none
 else none
def PS.cs(s:PS)(id av:Nat):Option (List C):=
 if s.av id=av then match s.da id with
  |some (.loc cs)=>some cs
  |_=>none
 else none
def PS.ents(s:PS)(id av:Nat):Option (List (D×C)):=
 if s.av id=av then s.mp id else none
def PS.Iw(s:PS)(id av:Nat):Option (Nat×Nat):=
 if s.av id=av then match s.da id with
  |some b=>b.Cz
  |none=>none
 else none
def PS.elc(s:PS)(id av:Nat):Option (Nat×List (List C)):=
 if s.av id=av then match s.da id with
  |some (.arr sz dd)=>some (sz,dd.map (·.map .d))
  |some (.qq sz dd)=>some (sz,dd)
  |_=>none
 else none
def a1g:List (List C)→Option (List (List D))
 |[]=>some []
 |e::r=>match Om e,a1g r with
  |some x,some l=>some (x::l)
  |_,_=>none
def Y2:B→B
 | .qq sz dd=>match a1g dd with
  |some ds=> .arr sz ds
  |none=> .qq sz dd
 |b=>b
def V.live(s:PS):V→Bool
 | .d _=>true
 | .ref id av len=>match s.Iw id av with
  |some (_,n)=>n==len
  |none=>false
 | .kj id av=>(s.ents id av).isSome
 | .ic id av _=>(s.cs id av).isSome
 | .Hf id av ln _ _=>match s.Iw id av with
  |some (_,n)=>n==ln
  |none=>false
 | .nu _ ids=>ids.all fun p=>(s.cs p.1 p.2).isSome
 | .agg _=>true
 | .Aa _=>true
 | .Ka id av _ _=>(s.cs id av).isSome
 | .Hg id av m _=>match s.Iw id av with
  |some (_,n)=>n==m
  |none=>false
 | .win id av m _ _=>match s.Iw id av with
  |some (_,n)=>n==m
  |none=>false
 | .no=>false
def C.one(s:PS):C→Bool
 | .d x=>x.one
 | .ref i v l=>(V.ref i v l).live s
 | .kj i v=>(V.kj i v).live s
 | .ptr i v o=>(V.ic i v o).live s
def V.cells(s:PS):V→Option (List C)
 | .d (.agg ds)=>some (ds.map .d)
 | .d (.Aa _)=>none
 | .d .any=>none
 | .d x=>some [.d x]
 | .ref i v l=>match s.Iw i v with
  |some (_,n)=>if n=l then some [.ref i v l]else none
  |none=>none
 | .kj i v=>match s.ents i v with
  |some _=>some [.kj i v]
  |none=>none
 | .ic i v o=>match s.cs i v with
  |some _=>some [.ptr i v o]
  |none=>none
 | .agg cs=>some cs
 |_=>none
def Br(s:PS)(n:Nat)(agg:Bool):V→Option V
 | .ic id av off=>match s.cs id av with
  |some cs=>if off+n≤cs.length then some (mkv agg ((cs.drop off).take n))else none
  |none=>none
 | .Hf id av ln i off=>match s.dd id av with
  |some (_,dd)=>match dd[i]? with
   |some e=>if dd.length=ln∧off+n≤e.length then some (mkd agg ((e.drop off).take n))else none
   |none=>none
  |none=>match s.elc id av with
   |some (_,dd)=>match dd[i]? with
    |some e=>if dd.length=ln∧off+n≤e.length then some (mkv agg ((e.drop off).take n))else none
    |none=>none
   |none=>none
 | .d (.te cells off)=>if off+n≤cells.length then some (mkd agg ((cells.drop off).take n))else none
 |_=>none
def G7(s:PS)(n:Nat)(xs:List C)(id av ln i off:Nat):Option a6t:=
 match s.elc id av with
 |some (sz,dd)=>match dd[i]? with
  |some e=>if xs.all (C.one s)=true∧dd.length=ln∧xs.length=n∧off+n≤e.length then some ([],.set id (.qq sz (dd.set i (patch e off xs))))else none
  |none=>none
 |none=>none
def ye(s:PS)(n:Nat)(xs:List C):V→Option a6t
 | .ic id av off=>match s.cs id av with
  |some cs=>if xs.all (C.one s)=true∧xs.length=n∧off+n≤cs.length then some ([],.set id (.loc (patch cs off xs)))else none
  |none=>none
 | .Hf id av ln i off=>match s.dd id av with
  |some (sz,dd)=>match dd[i]?,Om xs with
   |some e,some ds=>if xs.all (C.one s)=true∧dd.length=ln∧ds.length=n∧off+n≤e.length then some ([],.set id (.arr sz (dd.set i (patch e off ds))))else none
   |_,_=>G7 s n xs id av ln i off
  |none=>G7 s n xs id av ln i off
 |_=>none
def xn(s:PS)(n:Nat):V→V→Option a6t
 | .Hg id av m j,.ic id2 aA0 off=>match s.da id,s.cs id2 aA0 with
  |some (.arr sz dd),some cs=>if n=1∧s.av id=av∧dd.length=m∧off+1≤cs.length then some ([],.Ij id (.arr sz (dd.take j)) id2 (.loc (patch cs off [.ref id (av+1) j])))else none
  |some (.qq sz dd),some cs=>if n=1∧s.av id=av∧dd.length=m∧off+1≤cs.length then some ([],.Ij id (.qq sz (dd.take j)) id2 (.loc (patch cs off [.ref id (av+1) j])))else none
  |_,_=>none
 |_,_=>none
def R3(s:PS)(off:Nat):V→Option V
 | .ic id av o=>match s.cs id av with
  |some _=>some (.ic id av (o+off))
  |none=>none
 | .Hf id av ln i o=>match s.Iw id av with
  |some (_,n)=>if n=ln then some (.Hf id av ln i (o+off))else none
  |none=>none
 | .d (.te cells o)=>some (.d (.te cells (o+off)))
 |_=>none
def Jv(s:PS)(n:Nat)(i:Int):V→Option V
 | .ref id av len=>match s.Iw id av with
  |some (sz,m)=>if sz=n∧m=len∧0≤i∧i<len then some (.Hf id av len i.toNat 0)else none
  |none=>none
 | .d (.ft sz l)=>if 0≤i∧sz=n then match l[i.toNat]? with
   |some e=>some (.d (.te e 0))
   |none=>none
  else none
 | .Ka id av len sz=>if(s.cs id av).isSome=true∧sz=n∧0≤i∧i<len then some (.ic id av (i.toNat*n))else none
 |_=>none
def O6(s:PS):TK→V→Option Int
 | .ft,.d (.ft _ l)=>some l.length
 | .ft,.d .cq=>some 0
 | .ft,.d .Np=>some 0
 | .str,.d (.str b)=>some b.size
 | .map,.d .I0=>some 0
 | .map,.d (.map es)=>some es.length
 | .ft,.ref id av len=>match s.Iw id av with
  |some (_,n)=>if n=len then some len else none
  |none=>none
 | .map,.kj id av=>match s.ents id av with
  |some es=>some es.length
  |none=>none
 | .ft,.win id av m _ l=>match s.Iw id av with
  |some (_,n)=>if n=m then some l else none
  |none=>none
 | .ft,.Ka id av len _=>if(s.cs id av).isSome=true then some len else none
 |_,_=>none
def aki(op:BinOp)(a b:ByteArray):Option D:=
 match op with
 | .eql=>some (.bool (a.toList==b.toList))
 | .neq=>some (.bool !(a.toList==b.toList))
 | .lss=>some (.bool (alw a.toList b.toList))
 | .leq=>some (.bool (alw a.toList b.toList||a.toList==b.toList))
 | .gtr=>some (.bool !(alw a.toList b.toList||a.toList==b.toList))
 | .geq=>some (.bool !(alw a.toList b.toList))
 | .add=>if a.size+b.size≤2^40 then some (.str (a++b))else none
 |_=>none
def a0z(op:BinOp)(k:IntKind)(a b:Int):Option D:=
 match op with
 | .add=>some (.int k (k.wrap (a+b)))
 | .sub=>some (.int k (k.wrap (a-b)))
 | .mul=>some (.int k (k.wrap (a*b)))
 | .quo=>if b=0 then none else some (.int k (k.wrap (a.tdiv b)))
 | .rem=>if b=0 then none else some (.int k (a.tmod b))
 | .and=>some (.int k (k.wrap (aF8 k.bits a&&&aF8 k.bits b).toNat))
 | .or=>some (.int k (k.wrap (aF8 k.bits a|||aF8 k.bits b).toNat))
 | .xor=>some (.int k (k.wrap (aF8 k.bits a^^^aF8 k.bits b).toNat))
 | .andNot=>some (.int k (k.wrap (aF8 k.bits a&&& ~~~aF8 k.bits b).toNat))
 | .eql=>some (.bool (a==b))
 | .neq=>some (.bool (a !=b))
 | .lss=>some (.bool (a<b))
 | .leq=>some (.bool (a≤b))
 | .gtr=>some (.bool (a>b))
 | .geq=>some (.bool (a≥b))
 | .shl=>if b<0 then none else some (.int k (k.wrap (a*2^(min b.toNat k.bits))))
 | .shr=>if b<0 then none else some (.int k (a.fdiv (2^(min b.toNat k.bits))))
def a8k(op:BinOp):D→D→Option D
 | .int k a,.int k' b=>if op= .shl∨op= .shr∨k=k' then a0z op k a b else none
 | .str a,.str b=>aki op a b
 |_,_=>none
def O2:LK→D→D→Option Bool
 | .int,.int k a,.int k' b=>if k=k' then some (a==b)else none
 | .str,.str a,.str b=>some (a==b)
 | .bool,.bool a,.bool b=>some (a==b)
 |_,_,_=>none
def As:List LK→List D→List D→Option Bool
 |[],[],[]=>some true
 |k::ks,a::x,b::y=>match O2 k a b,As ks x y with
  |some p,some q=>some (p&&q)
  |_,_=>none
 |_,_,_=>none
def Ep:KK→D→D→Option Bool
 | .one k,a,b=>O2 k a b
 | .row ks,.agg x,.agg y=>As ks x y
 |_,_,_=>none
def isNil(s:PS):TK→V→Option Bool
 | .ft,.d .cq=>some true
 | .ft,.d .Np=>some false
 | .ft,.d (.ft _ (_::_))=>some false
 | .ft,.ref i v l=>if(V.ref i v l).live s then some false else none
 | .ptr,.d .Wc=>some true
 | .ptr,.d (.te ..)=>some false
 | .ptr,.ic i v o=>if(V.ic i v o).live s then some false else none
 | .ptr,.Hf i v l j o=>if(V.Hf i v l j o).live s then some false else none
 | .map,.d .I0=>some true
 | .map,.d (.map _)=>some false
 | .map,.kj i v=>if(V.kj i v).live s then some false else none
 | .fn,.d .uw=>some true
 | .fn,.d (.nu ..)=>some false
 | .fn,.nu f ids=>if(V.nu f ids).live s then some false else none
 |_,_=>none
def Ys:List (D×C)→Option (List (D×D))
 |[]=>some []
 |(k,.d x)::r=>match Ys r with
  |some l=>some ((k,x)::l)
  |none=>none
 |_::_=>none
def Pv(s:PS):C→Option (D×List Nat)
 | .d x=>some (x,[])
 | .ref id av len=>match s.dd id av with
  |some (sz,dd)=>if dd.length=len then some (.ft sz dd,[id])else none
  |none=>none
 | .kj id av=>match s.ents id av with
  |some es=>(Ys es).map fun ds=>(.map ds,[id])
  |none=>none
 | .ptr .. =>none
def Ot(s:PS):List C→Option (List D×List Nat)
 |[]=>some ([],[])
 |c::r=>match Pv s c,Ot s r with
  |some (x,i),some (l,j)=>some (x::l,i++j)
  |_,_=>none
def Ly:List C→List (Nat×Nat×List C)→Option (List C)
 |cells,[]=>some cells
 |cells,(off,n,xs)::r=>if xs.length=n∧off+n≤cells.length then Ly (patch cells off xs) r else none
def Vu:List D→List (Nat×Nat×List D)→Option (List D)
 |cells,[]=>some cells
 |cells,(off,n,xs)::r=>if xs.length=n∧off+n≤cells.length then Vu (patch cells off xs) r else none
def Jk(s:PS):List (Nat×Nat×me)→Option (List (Nat×Nat×List C))
 |[]=>some []
 |(o,n,x)::r=>match(x.ev s).cells s,Jk s r with
  |some cs,some l=>some ((o,n,cs)::l)
  |_,_=>none
def Nz(s:PS):List (Nat×Nat×me)→Option (List (Nat×Nat×List D)×List Nat)
 |[]=>some ([],[])
 |(o,n,x)::r=>match(x.ev s).cells s,Nz s r with
  |some cs,some (l,j)=>match Ot s cs with
   |some (ds,i)=>some ((o,n,ds)::l,i++j)
   |none=>none
  |_,_=>none
def chunks{α:Type}(sz:Nat):Nat→List α→List (List α)
 |0,_=>[]
 |n+1,l=>l.take sz::chunks sz n (l.drop sz)
def qm(s:PS):V→Option (List (List D)×Option Nat)
 | .d .cq=>some ([],none)
 | .d .Np=>some ([],none)
 | .d (.ft sz l)=>some (l,some sz)
 | .ref id av len=>match s.dd id av with
  |some (sz,dd)=>if dd.length=len then some (dd,some sz)else none
  |none=>none
 | .win id av n o l=>match s.dd id av with
  |some (sz,dd)=>if dd.length=n∧o+l≤n then some ((dd.drop o).take l,some sz)else none
  |none=>none
 |_=>none
def Ov:KK→D→Bool
 | .one _,_=>true
 | .row ks,.agg xs=>xs.length==ks.length
 |_,_=>false
def Hc{α:Type}(kk:KK)(k:D):List (D×α)→Option (Option α)
 |[]=>if Ov kk k=true then some none else none
 |(a,b)::r=>match Ep kk k a with
  |some true=>some (some b)
  |some false=>Hc kk k r
  |none=>none
def Mt{α:Type}(kk:KK)(k:D)(v:α):List (D×α)→Option (List (D×α))
 |[]=>if Ov kk k=true then some [(k,v)]else none
 |(a,b)::r=>match Ep kk k a with
  |some true=>some ((k,v)::r)
  |some false=>(Mt kk k v r).map ((a,b):: ·)
  |none=>none
def V7(s:PS):Option me→Option (Option Nat)
 |none=>some none
 |some x=>match x.ev s with
  | .d (.int _ k)=>if 0≤k then some (some k.toNat)else none
  |_=>none
def Qp(s:PS)(n:Nat):Option me→Option Nat
 |none=>some n
 |some x=>match x.ev s with
  | .d (.int _ k)=>if 0≤k then some k.toNat else none
  |_=>none
def Se(s:PS)(n a:Nat):V→Option a6t
 | .d (.ft sz l)=>if sz=n∧a≤l.length then some (lk.rz (.d (if a=0∧l≠[]then .Np else .ft sz (l.take a))))else none
 | .d .Np=>if a=0 then some (lk.rz (.d .Np))else none
 | .d .cq=>if a=0 then some (lk.rz (.d .cq))else none
 | .ref id av n0=>match s.dd id av with
  |some (sz,dd)=>if sz=n∧dd.length=n0∧a≤n0 then some ([],.cut (.ref id (s.av id+1) a) id (.arr sz (dd.take a)))else none
  |none=>none
 |_=>none
def Cj(s:PS):V→Option (List (D×C))
 | .d .I0=>some []
 | .d (.map es)=>some (es.map fun e=>(e.1,.d e.2))
 | .kj id av=>s.ents id av
 |_=>none
def mkt(cs:List C):V:=
 match Om cs with
 |some ds=> .d (.Aa ds)
 |none=> .Aa cs
def V.ent(s:PS):V→Option C
 | .d x=>some (.d x)
 | .ref i v l=>if(V.ref i v l).live s then some (.ref i v l)else none
 | .kj i v=>if(V.kj i v).live s then some (.kj i v)else none
 | .ic i v o=>if(V.ic i v o).live s then some (.ptr i v o)else none
 |_=>none
def a63(s:PS)(id av m l:Nat)(lo hi mx:Option me):Option V:=
 match V7 s lo,Qp s l hi,Qp s m mx with
 |some i,some j,some k=>if i.getD 0≤j∧j≤m∧k=m∧(hi=none→mx=none)then some (.win id av m (i.getD 0) (j-i.getD 0))else none
 |_,_,_=>none
def Yr(s:PS):V→Option (List (List C)×Option Nat)
 | .d .cq=>some ([],none)
 | .d .Np=>some ([],none)
 | .d (.ft sz l)=>some (l.map (·.map .d),some sz)
 | .ref id av len=>match s.elc id av with
  |some (sz,dd)=>if dd.length=len then some (dd,some sz)else none
  |none=>none
 |_=>none
def Q5(s:PS)(d sz bytes:Nat)(x y:V):Option a6t:=
 match Yr s y with
 |some (ys,osz)=>if osz.getD sz=sz∧(ys.all fun e=>e.all (C.one s))=true then match x with
   | .d .cq=>if ys.length=0 then some (lk.rz (.d .cq))else if ys.length*bytes≤2^47 then some ([],.new (.ref d (s.av d+1) ys.length) d (.qq sz ys))else none
   | .ref id av n0=>match s.elc id av with
    |some (sz',dd)=>if sz'=sz∧dd.length=n0∧(n0+ys.length)*bytes≤2^47 then some ([],.grow (.ref id av (n0+ys.length)) id (.qq sz (dd++ys)))else none
    |none=>none
   |_=>none
  else none
 |none=>none
def jv.og(d:Nat)(s:PS):jv→Option a6t
 | .j7 x=>some (lk.rz (x.ev s))
 | .pick c a b=>match c.ev s with
  | .d (.bool true)=>some (lk.rz (a.ev s))
  | .d (.bool false)=>some (lk.rz (b.ev s))
  |_=>none
 | .alloc zero=>some ([],.new (.ic d (s.av d+1) 0) d (.loc (zero.map .d)))
 | .box n x=>match(x.ev s).cells s with
  |some cs=>if cs.length=n then some ([],.new (.ic d (s.av d+1) 0) d (.loc cs))else none
  |none=>none
 | .load n agg x=>(Br s n agg (x.ev s)).map lk.rz
 | .store n a x=>match(x.ev s).cells s with
  |some cs=>ye s n cs (a.ev s)
  |none=>xn s n (x.ev s) (a.ev s)
 | .Y4 x=>match isNil s .ptr (x.ev s),isNil s .fn (x.ev s)with
  |some false,_=>some (lk.rz (x.ev s))
  |_,some false=>some (lk.rz (x.ev s))
  |_,_=>none
 | .Fg off x=>(R3 s off (x.ev s)).map lk.rz
 | .ux ln n x i=>match i.ev s with
  | .d (.int _ k)=>if 0≤k∧k<ln then(R3 s (k.toNat*n) (x.ev s)).map lk.rz else none
  |_=>none
 | .sq n x i=>match i.ev s with
  | .d (.int _ k)=>(Jv s n k (x.ev s)).map lk.rz
  |_=>none
 | .Zr x i=>match x.ev s,i.ev s with
  | .d (.str b),.d (.int _ k)=>match(if 0≤k then b[k.toNat]? else none)with
   |some u=>some (lk.rz (.d (.int .u8 u.toNat)))
   |none=>none
  |_,_=>none
 | .a2q off n agg x=>match x.ev s with
  | .d (.agg ds)=>if off+n≤ds.length then some (lk.rz (mkd agg ((ds.drop off).take n)))else none
  | .agg cs=>if off+n≤cs.length then some (lk.rz (mkv agg ((cs.drop off).take n)))else none
  |_=>none
 | .len k x=>(O6 s k (x.ev s)).map fun n=>lk.rz (.d (.int ab n))
 | .bin op x y=>match x.ev s,y.ev s with
  | .d a,.d b=>(a8k op a b).map fun r=>lk.rz (.d r)
  |_,_=>none
 | .eqs ks neg x y=>match x.ev s,y.ev s with
  | .d (.agg a),.d (.agg b)=>(As ks a b).map fun r=>lk.rz (.d (.bool (if neg then !r else r)))
  |_,_=>none
 | .beq neg x y=>match x.ev s,y.ev s with
  | .d (.bool a),.d (.bool b)=>some (lk.rz (.d (.bool (if neg then !(a==b)else a==b))))
  |_,_=>none
 | .Jl k neg x=>(isNil s k (x.ev s)).map fun r=>lk.rz (.d (.bool (if neg then !r else r)))
 | .un op x=>match op,x.ev s with
  | .not,.d (.bool b)=>some (lk.rz (.d (.bool !b)))
  | .neg,.d (.int k n)=>some (lk.rz (.d (.int k (k.wrap (0-n)))))
  |_,_=>none
 | .conv k x=>match x.ev s with
  | .d (.int _ n)=>some (lk.rz (.d (.int k (k.wrap n))))
  |_=>none
 | .a19 x=>match x.ev s with
  | .d (.str b)=>some (lk.rz (.d (.str b)))
  |_=>none
 | .build zero parts=>match Jk s parts with
  |some ps=>match Ly (zero.map .d) ps with
   |some cs=>some (lk.rz (mkv true cs))
   |none=>none
  |none=>none
 | .yk im n sz zero parts=>match Nz s parts with
  |some (ps,ids)=>match Vu ((j5 n zero).flatten) ps with
   |some ds=>match im,ids with
    |true,[]=>some (lk.rz (.d (.ft sz (chunks sz n ds))))
    |true,_=>none
    |false,ids=>some (ids,.new (.ref d (s.av d+1) n) d (.arr sz (chunks sz n ds)))
   |none=>none
  |none=>none
 | .app sz bytes x y=>match qm s (y.ev s)with
  |some (ys,osz)=>if osz.getD sz=sz then match x.ev s with
    | .d .cq=>if ys.length=0 then some (lk.rz (.d .cq))else if ys.length*bytes≤2^47 then some ([],.new (.ref d (s.av d+1) ys.length) d (.arr sz ys))else none
    | .ref id av n0=>match s.dd id av with
     |some (sz',dd)=>if(ys.all fun e=>e.all D.one)=true∧sz'=sz∧dd.length=n0∧(n0+ys.length)*bytes≤2^47 then some ([],.grow (.ref id av (n0+ys.length)) id (.arr sz (dd++ys)))else none
     |none=>Q5 s d sz bytes (.ref id av n0) (y.ev s)
    | .win id av n o k=>match s.dd id av with
     |some (sz',dd)=>if(ys.all fun e=>e.all D.one)=true∧sz'=sz∧dd.length=n∧o=0∧k+ys.length≤n then some ([],.grow (.win id av n 0 (k+ys.length)) id (.arr sz (dd.take k++ys++dd.drop (k+ys.length))))else none
     |none=>none
    |_=>none
   else none
  |none=>Q5 s d sz bytes (x.ev s) (y.ev s)
 | .a09 n sz zero parts=>match Jk s parts with
  |some ps=>match Ly (((j5 n zero).flatten).map .d) ps with
   |some cs=>if cs.all (C.one s)=true then some ([],.new (.ref d (s.av d+1) n) d (.qq sz (chunks sz n cs)))else none
   |none=>none
  |none=>none
 | .No n x j=>match x.ev s,j.ev s with
  | .ref id av m,.d (.int _ k)=>match s.dd id av with
   |some (sz,dd)=>if sz=n∧dd.length=m∧0≤k∧k≤m then some ([],.cut (.ref id (s.av id+1) k.toNat) id (.arr sz (dd.take k.toNat)))else none
   |none=>none
  | .d .cq,.d (.int _ k)=>if k=0 then some (lk.rz (.d .cq))else none
  |_,_=>none
 | .a04 .. =>none
 | .bad=>none
 | .Qb n x lo hi mx=>match x.ev s with
  | .ref id av m=>if 0<m∧s.Iw id av=some (n,m)then(a63 s id av m m lo hi mx).map lk.rz else none
  | .win id av m o l=>if o=0∧s.Iw id av=some (n,m)then(a63 s id av m l lo hi mx).map lk.rz else none
  |_=>none
 | .trim x=>match x.ev s with
  | .win id av n o l=>match s.dd id av with
   |some (sz,dd)=>if dd.length=n∧o=0 then some ([],.cut (.ref id (s.av id+1) l) id (.arr sz (dd.take l)))else none
   |none=>none
  |_=>none
 | .clr z x=>match x.ev s with
  | .win id av n o l=>match s.dd id av with
   |some (sz,dd)=>if dd.length=n∧z.length=sz∧z.all D.one=true then some ([],.set id (.arr sz (dd.take o++j5 l z++dd.drop (o+l))))else none
   |none=>none
  |_=>none
 | .a2t sz bytes zero x y=>match x.ev s,y.ev s with
  | .d .cq,.d (.int _ k)=>if 0<k∧k*bytes≤2^47 then some ([],.new (.ref d (s.av d+1) k.toNat) d (.arr sz (j5 k.toNat zero)))else none
  |_,_=>none
 | .acn x=>match x.ev s with
  | .d .cq=>some (lk.rz (.d (.int ab 0)))
  |_=>none
 | .acw ln n x=>match x.ev s with
  | .ic id av 0=>match s.cs id av with
   |some cs=>if cs.length=ln*n then some (lk.rz (.Ka id av ln n))else none
   |none=>none
  |_=>none
 | .Hg n x j k=>match x.ev s,j.ev s,k.ev s with
  | .ref id av m,.d (.int _ a),.d (.int _ b)=>if a=b∧0≤a∧a≤m∧s.Iw id av=some (n,m)then some (lk.rz (.Hg id av m a.toNat))else none
  |_,_,_=>none
 | .slice n x lo hi=>match x.ev s,V7 s lo with
  | .d (.ft sz l),some i=>match Qp s l.length hi with
   |some j=>if sz=n∧i.getD 0≤j∧j≤l.length then some (lk.rz (.d (.ft sz ((l.take j).drop (i.getD 0)))))else none
   |none=>none
  | .d .cq,some i=>match Qp s 0 hi with
   |some j=>if i.getD 0=0∧j=0 then some (lk.rz (.d .cq))else none
   |none=>none
  |_,_=>none
 | .H9=>some ([],.a1u (.kj d (s.av d+1)) d)
 | .lookup kk zero x i ok=>match Cj s (x.ev s),i.ev s with
  |some es,.d k=>match Hc kk k es with
   |some r=>some (lk.rz (if ok then mkt [r.getD (.d zero),.d (.bool r.isSome)]else(r.getD (.d zero)).toV))
   |none=>none
  |_,_=>none
 | .Wd kk x k v=>match x.ev s,k.ev s,(v.ev s).ent s with
  | .kj id av,.d k,some v=>match s.ents id av with
   |some es=>(Mt kk k v es).map fun es'=>([],.Za id es')
   |none=>none
  |_,_,_=>none
 | .Lr f iy=>match iy with
  |[.t a]=>match s.tmp a with
   | .ic id av 0=>some (lk.rz (.nu f [(id,av)]))
   | .d x=>some (lk.rz (.d (.nu f [x])))
   |_=>none
  |[.t a,.t b]=>match s.tmp a,s.tmp b with
   | .ic id av 0,.ic id' a7d 0=>some (lk.rz (.nu f [(id,av),(id',a7d)]))
   | .d x,.d y=>some (lk.rz (.d (.nu f [x,y])))
   |_,_=>none
  |[]=>some (lk.rz (.d (.nu f [])))
  |_=>none
 | .ext x i=>match x.ev s with
  | .d (.Aa vs)=>(vs[i]?).map fun x=>lk.rz (.d x)
  | .Aa cs=>(cs[i]?).map fun c=>lk.rz c.toV
  |_=>none
 | .Ee mx x y=>match x.ev s,y.ev s with
  | .d (.int k a),.d (.int _ b)=>some (lk.rz (.d (.int k (if mx then(if b>a then b else a)else(if b<a then b else a)))))
  |_,_=>none
 | .call .. =>none
 | .wv .. =>none
 | .ze n=>some ([],.new (.ic d (s.av d+1) 0) d (.Ro n))
 | .init g n x=>match s.tmp g,s.da (s.base+g),(x.ev s).cells s with
  | .ic id av 0,some (.Ro m),some cs=>if id=s.base+g∧s.av (s.base+g)=av∧m=n∧cs.length=n∧cs.all (C.one s)=true then some ([],.init (.ic (s.base+g) (s.av (s.base+g)+1) 0) g (s.base+g) cs)else none
  |_,_,_=>none
 | .slice3 n x j k=>match j.ev s,k.ev s with
  | .d (.int _ a),.d (.int _ b)=>if a=b∧0≤a then Se s n a.toNat (x.ev s)else none
  |_,_=>none
 | .a4z ln n agg x i=>match x.ev s,i.ev s with
  | .d (.agg ds),.d (.int _ k)=>if 0≤k∧k<ln∧k.toNat*n+n≤ds.length then some (lk.rz (mkd agg ((ds.drop (k.toNat*n)).take n)))else none
  |_,_=>none
 | .yr .. =>none
 | .Vw .. =>none
 | .N0 .. =>none
 | .qb .. =>none
 | .O9 .. =>none
def PS.put(s:PS)(d:Option Nat)(v:V):PS:={s with tmp:=match d with|some d=>lb s.tmp d v|none=>s.tmp}
def PS.ta:List Nat→PS→PS
 |[],s=>s
 |i::r,s=>PS.ta r {s with da:=lb s.da i none,mp:=lb s.mp i none}
def C.uu(s:PS)(ids:List Nat):C→C
 | .d x=> .d x
 | .ref id av len=>if id∈ids then match s.dd id av with
   |some (sz,dd)=>if dd.length=len then .d (.ft sz dd)else .ref id av len
   |none=> .ref id av len
  else .ref id av len
 | .kj id av=>if id∈ids then match(s.ents id av).bind Ys with
   |some es=> .d (.map es)
   |none=> .kj id av
  else .kj id av
 | .ptr id av off=> .ptr id av off
def V.uu(s:PS)(ids:List Nat):V→V
 | .ref id av len=>(C.uu s ids (.ref id av len)).toV
 | .kj id av=>(C.uu s ids (.kj id av)).toV
 | .agg cs=>mkv true (cs.map (C.uu s ids))
 | .Aa cs=> .Aa (cs.map (C.uu s ids))
 |v=>v
def PS.uu(s:PS)(ids:List Nat):PS:=
 match ids with
 |[]=>s
 |ids=>PS.ta ids {s with
   tmp:=fun t=>(s.tmp t).uu s ids
   da:=fun i=>match s.da i with
    |some (.loc cs)=>some (.loc (cs.map (C.uu s ids)))
    |some (.qq sz dd)=>some (Y2 (.qq sz (dd.map fun e=>e.map (C.uu s ids))))
    |b=>b
   mp:=fun i=>(s.mp i).map fun es=>es.map fun e=>(e.1,C.uu s ids e.2)}
def lk.app(d:Option Nat)(s:PS):lk→PS
 | .val v=>s.put d v
 | .new v id b=>PS.put {s with da:=lb s.da id (some b),av:=lb s.av id (s.av id+1)} d v
 | .set id b=>PS.put {s with da:=lb s.da id (some b)} d .no
 | .Ij id b id2 b2=>PS.put {s with da:=lb (lb s.da id (some b)) id2 (some b2),av:=lb s.av id (s.av id+1)} d .no
 | .grow v id b=>PS.put {s with da:=lb s.da id (some b)} d v
 | .a1u v id=>PS.put {s with mp:=lb s.mp id (some []),av:=lb s.av id (s.av id+1)} d v
 | .Za id es=>PS.put {s with mp:=lb s.mp id (some es)} d .no
 | .init v t id cs=>{s with tmp:=lb s.tmp t v,da:=lb s.da id (some (.loc cs)),av:=lb s.av id (s.av id+1)}
 | .cut v id b=>PS.put {s with da:=lb s.da id (some b),av:=lb s.av id (s.av id+1)} d v
 | .mem m v=>(s.j0 m).put d v
def N9{α:Type}:List (Option α)→Option (List α)
 |[]=>some []
 |x::r=>match x,N9 r with
  |some x,some l=>some (x::l)
  |_,_=>none
def deep(s:PS):Nat→C→Option D
 |_,.d x=>some x
 |0,_=>none
 |n+1,.ref id av len=>match s.elc id av with
  |some (sz,dd)=>if dd.length=len then(N9 (dd.map fun e=>N9 (e.map (deep s n)))).map (.ft sz)else none
  |none=>none
 |n+1,.kj id av=>match s.ents id av with
  |some es=>(N9 (es.map fun e=>(deep s n e.2).map fun x=>(e.1,x))).map .map
  |none=>none
 |_,.ptr .. =>none
def rb(s:PS):C→Option D
 | .d x=>some x
 | .ref id av len=>match s.dd id av with
  |some (sz,dd)=>if dd.length=len then some (.ft sz dd)else none
  |none=>deep s 6 (.ref id av len)
 | .kj id av=>deep s 6 (.kj id av)
 | .ptr .. =>none
def nj(s:PS):List C→Option (List D)
 |[]=>some []
 |c::r=>match rb s c,nj s r with
  |some x,some l=>some (x::l)
  |_,_=>none
def snap(s:PS):V→Option D
 | .d x=>some x
 | .ref id av len=>match s.dd id av with
  |some (sz,dd)=>if dd.length=len then some (.ft sz dd)else none
  |none=>deep s 6 (.ref id av len)
 | .kj id av=>deep s 6 (.kj id av)
 | .ic id av off=>match s.cs id av with
  |some cs=>(nj s cs).map fun ds=> .te ds off
  |none=>none
 | .nu f [(id,av)]=>match s.cs id av with
  |some cs=>(nj s cs).map fun ds=> .nu f [.te ds 0]
  |none=>none
 | .nu f [(id,av),(id',a7d)]=>match s.cs id av,s.cs id' a7d with
  |some cs,some cs'=>match nj s cs,nj s cs' with
   |some ds,some ds'=>some (.nu f [.te ds 0,.te ds' 0])
   |_,_=>none
  |_,_=>none
 | .agg cs=>(nj s cs).map .agg
 | .Ka id av len n=>match s.cs id av with
  |some cs=>match nj s cs with
   |some ds=>if ds.length=len*n∧0<n then some (.ft n (chunks n len ds))else none
   |none=>none
  |none=>none
 |_=>none
def J0(s:PS):List V→Option (List D)
 |[]=>some []
 |v::r=>match snap s v,J0 s r with
  |some x,some l=>some (x::l)
  |_,_=>none
def V.isD:V→Bool
 | .d _=>true
 |_=>false
def Oc(P:Program)(c:Nat→V×Value)(f:Nat)(args:List D)(r:D):Prop:=
 yj P f=true∧∀(G:fy) (w:World) (vs:Array Value),(∀(i:Nat) (d:D) (v:Value),c i=(V.d d,v)→gj G d v)→(∀i,N4 (c i) w.heap.size w)→GOk G w→vs.size=args.length→(∀(i:Nat) (x:D) (v:Value),args[i]? =some x→vs[i]? =some v→gj G x v)→
  Calls P f vs w fun e w'=>∃v G',e= .returned v∧G.le G'∧G.same G' w.heap.size∧GOk G' w'∧Bel (Plain c) w.heap.size w w'∧gj G' r v
theorem iq.toC{P:Program}{c:Nat→V×Value}{f:Nat}{args:List D}{r:D}(h:iq P f args r):Oc P c f args r:=⟨h.1,fun G w vs _ _ hG hl hr=>(h.2 G w vs hG hl hr).mono fun _ _ ⟨v,G',h1,h2,h3,h4,h5,h6⟩=>⟨v,G',h1,h2,h3,h4,h5.M7 fun _=>trivial,h6⟩⟩
def F9(P:Program)(f:Nat)(args:List V)(iy:List D)(own:Bool)(d:Option Nat)(s:PS)(K:PS→Prop):Prop:=
 ∃ds r,J0 s args=some ds∧Oc P s.ctx f (ds++iy) r∧(r.flat=true∨(own=false∧args.all V.isD=true))∧K (s.put d (.d r))
structure zf(s s':PS)(i av:Nat):Prop where
 dd:s'.dd i av=s.dd i av
 cs:s'.cs i av=s.cs i av
 ents:s'.ents i av=s.ents i av
 elc:s'.elc i av=s.elc i av
 Iw:s'.Iw i av=s.Iw i av
 dp:∀n c,(∃l,c= .ref i av l)∨c= .kj i av→deep s' n c=deep s n c
def Hj(s s':PS):C→Prop
 | .d _=>True
 | .ref i av _=>zf s s' i av
 | .kj i av=>zf s s' i av
 | .ptr i av _=>zf s s' i av
def Rb(s s':PS)(i av:Nat):Prop:=zf s s' i av∧∀cs,s.cs i av=some cs→∀c∈cs,Hj s s' c
def Iv(s s':PS):V→Prop
 | .d _=>True
 | .ref i av _=>zf s s' i av
 | .kj i av=>zf s s' i av
 | .ic i av _=>Rb s s' i av
 | .Hf i av _ _ _=>zf s s' i av
 | .nu _ ids=>∀p∈ids,Rb s s' p.1 p.2
 | .agg cs=>∀c∈cs,Hj s s' c
 | .Aa cs=>∀c∈cs,Hj s s' c
 | .Ka i av _ _=>Rb s s' i av
 | .Hg i av _ _=>zf s s' i av
 | .win i av _ _ _=>zf s s' i av
 | .no=>True
def qz(P:Program)(f:Nat)(m:Mem)(args:List V)(m':Mem)(r:V):Prop:=
 yj P f=true∧∀(s:PS) (B0:Nat) (w0:World) (nt:Nat) (G0 G:fy) (E:Env) (a:Act) (w:World) (vs:Array Value),s.mem=m→j9 B0 w0 nt G0 s G E a w→vs.size=args.length→
  (∀(i:Nat) (x:V) (v:Value),args[i]? =some x→vs[i]? =some v→ij G E s x v)→
  Calls P f vs w fun e w'=>∃v G' E',e= .returned v∧j9 B0 w0 nt G0 (s.j0 m') G' E' a w'∧ij G' E' (s.j0 m') r v
def apj(P:Program)(f:Nat)(s:PS)(args:List V)(r:D):Prop:=
 ∀s2:PS,(∀x∈args,Iv s s2 x)→qz P f s2.mem args s2.mem (.d r)
def D0(P:Program)(f:Nat)(s:PS)(args:List V)(R:Mem→V→Prop):Prop:=
 yj P f=true∧∀(B0:Nat) (w0:World) (nt:Nat) (G0 G:fy) (E:Env) (a:Act) (w:World) (vs:Array Value),j9 B0 w0 nt G0 s G E a w→vs.size=args.length→
  (∀(i:Nat) (x:V) (v:Value),args[i]? =some x→vs[i]? =some v→ij G E s x v)→
  Calls P f vs w fun e w'=>∃v G' E' m' r,e= .returned v∧R m' r∧j9 B0 w0 nt G0 (s.j0 m') G' E' a w'∧ij G' E' (s.j0 m') r v
def PS.a06(s:PS)(ts:List Nat):PS:={s with tmp:=fun t=>if t∈ts then .no else s.tmp t}
def ale(s:PS)(id:Nat)(kk:KK)(sz bytes:Nat)(x k y:V)(ts:List Nat)(s':PS):Prop:=
 s.da id=none∧s.mp id=none∧∃m av key es ys osz,x= .kj m av∧k= .d key∧s.ents m av=some es∧qm s y=some (ys,osz)∧osz.getD sz=sz∧ys≠[]∧(ys.all fun e=>e.all D.one)=true∧es.length<2^30∧
  ((Hc kk key es=some none∧ys.length*bytes≤2^47∧∃es',Mt kk key (.ref id (s.av id+1) ys.length) es=some es'∧
    s'=PS.a06 {s with da:=lb s.da id (some (.arr sz ys)),av:=lb s.av id (s.av id+1),mp:=lb s.mp m (some es')} ts)∨
   (∃i v0 n0 dd,Hc kk key es=some (some (.ref i v0 n0))∧s.dd i v0=some (sz,dd)∧dd.length=n0∧(n0+ys.length)*bytes≤2^47∧∃es',Mt kk key (.ref i v0 (n0+ys.length)) es=some es'∧
    s'=PS.a06 {s with da:=lb s.da i (some (.arr sz (dd++ys))),mp:=lb s.mp m (some es')} ts))
def Gk(P:Program)(o:RI)(s:PS)(K:PS→Prop):Prop:=
 match o.op with
 | .a04 kk sz bytes x k y ts=>∃id s',ale s id kk sz bytes (x.ev s) (k.ev s) (y.ev s) ts s'∧K (s'.put o.dst .no)
 | .qb f args=>∃R,D0 P f s (args.map (·.ev s)) R∧∀m' r,R m' r→K ((s.j0 m').put o.dst r)
 | .O9 f args=>match f.ev s with
  | .d (.nu g iy)=>∃R,D0 P g s (args.map (·.ev s)++iy.map .d) R∧∀m' r,R m' r→K ((s.j0 m').put o.dst r)
  |_=>False
 | .yr f args=>∃m' r,qz P f s.mem (args.map (·.ev s)) m' r∧K ((s.j0 m').put o.dst r)
 | .Vw f args=>∃r,apj P f s (args.map (·.ev s)) r∧K (s.put o.dst (.d r))
 | .N0 f args=>match f.ev s with
  | .d (.nu g iy)=>∃m' r,qz P g s.mem (args.map (·.ev s)++iy.map .d) m' r∧K ((s.j0 m').put o.dst r)
  |_=>False
 | .call f args=>F9 P f (args.map (·.ev s)) [] false o.dst s K
 | .wv f args=>match snap s (f.ev s)with
  |some (.nu g iy)=>F9 P g (args.map (·.ev s)) iy (!(f.ev s).isD) o.dst s K
  |_=>False
 |op=>match op.og (s.base+o.dst.getD 0) s with
  |some (ids,e)=>K (e.app o.dst (s.ta ids))
  |none=>False
def wanted(o:RI)(s:PS):Option Bool:=
 match o.guard with
 |none=>some true
 |some (t,b)=>match s.tmp t with
  | .d (.bool c)=>some (c==b)
  | .d (.Aa [])=>some false
  |_=>none
def l5(P:Program):List RI→PS→(PS→Prop)→Prop
 |[],s,K=>K s
 |o::r,s,K=>match wanted o s with
  |some true=>Gk P o s fun s'=>l5 P r s' K
  |some false=>l5 P r (s.put o.dst (.d (.Aa []))) K
  |none=>False
def RI.pt(o:RI):List Nat:=
 match o.op with
 | .alloc _| .box .. | .H9| .ze _=>o.dst.toList
 | .init g .. =>[g]
 |_=>[]
def pt(ops:List RI):List Nat:=ops.flatMap RI.pt
def sh(b:Nat)(l:List Nat):List Nat:=l.map (b+ ·)
def ko(P:Program):di→(Exit→PS→Prop)→PS→Prop
 | .skip,Q,s=>Q .normal s
 | .region ops draw fz,Q,s=>l5 P ops (if draw=true then(s.uu (sh s.base fz)).ta (sh s.base (pt ops))else s.uu (sh s.base fz)) (Q .normal)
 | .seq a b,Q,s=>ko P a (fun e s'=>match e with| .normal=>ko P b Q s'|e=>Q e s') s
 | .cond c a b,Q,s=>match c.ev s with
  | .d (.bool x)=>if x then ko P a Q s else ko P b Q s
  |_=>False
 | .block id c,Q,s=>ko P c (fun e s'=>match e with| .exit i=>if i=id then Q .normal s' else Q (.exit i) s'|e=>Q e s') s
 | .loop c,Q,s=>∃(I:PS→Prop) (m:PS→Nat),I s∧∀s',I s'→ko P c (fun e s''=>match e with| .normal=>I s''∧m s''<m s'|e=>Q e s'') s'
 | .freeze,Q,s=>∃ids,Q .normal (s.uu ids)
 | .a5o l,Q,s=>∃I:(Nat→Bool)→PS→Prop,I (fun _=>false) s∧∀A s',I A s'→
   ((∀i,i<l.length→A i=true)→Q .normal s')∧∀i o,l[i]? =some o→A i=false→(∀j∈o.after,A j=true)→l5 P [o] s' (I (lb A i true))
 | .both a b,Q,s=>ko P a Q s∧ko P b Q s
 | .exit id,Q,s=>Q (.exit id) s
 | .ret,Q,s=>Q .ret s
def Xv(s:PS):V→Option D
 | .d x=>some x
 | .ref id av len=>(Pv s (.ref id av len)).map (·.1)
 | .kj id av=>(Pv s (.kj id av)).map (·.1)
 | .agg cs=>(Ot s cs).map fun p=> .agg p.1
 |_=>none
inductive Il where
 |tmp (t:Nat)
 |cell (t n:Nat) (agg:Bool)
 deriving Inhabited
def ahs(s:PS):Il→Option D
 | .tmp t=>Xv s (s.tmp t)
 | .cell t n agg=>match Br s n agg (s.tmp t)with
  |some v=>Xv s v
  |none=>none
def a0q(s:PS):List Il→Option (List D)
 |[]=>some []
 |r::l=>match ahs s r,a0q s l with
  |some x,some xs=>some (x::xs)
  |_,_=>none
def Xt(s:PS)(l:List Il):Option D:=
 match l with
 |[r]=>ahs s r
 |l=>(a0q s l).map .Aa
def V.toC:V→Option C
 | .d x=>some (.d x)
 | .ref i v l=>some (.ref i v l)
 | .kj i v=>some (.kj i v)
 | .ic i v o=>some (.ptr i v o)
 |_=>none
def Ac(s:PS):Il→Option V
 | .tmp t=>some (s.tmp t)
 | .cell t n agg=>Br s n agg (s.tmp t)
def J2(s:PS):List Il→Option (List C)
 |[]=>some []
 |r::l=>match(Ac s r).bind V.toC,J2 s l with
  |some x,some xs=>some (x::xs)
  |_,_=>none
def sv(s:PS)(l:List Il):Option V:=
 match l with
 |[r]=>Ac s r
 |l=>(J2 s l).map .Aa
def a3d:Value→Option D
 | .int k n=>some (.int k n)
 | .bool b=>some (.bool b)
 | .string s=>some (.str s)
 | .slice none 0 0=>some .cq
 | .pointer none=>some .Wc
 | .map none=>some .I0
 | .nilFunc=>some .uw
 | .func (.func f) a b=>if a.size=0∧b.size=0 then some (.nu f [])else none
 |_=>none
def ag6:List Value→Option (List D)
 |[]=>some []
 |v::r=>match a3d v,ag6 r with
  |some x,some l=>some (x::l)
  |_,_=>none
def X1:Value→Option D
 | .agg cs=>(ag6 cs.toList).map .agg
 |v=>a3d v
def ur:Operand→Option me
 | .tmp t=>some (.t t)
 | .const v=>(X1 v).map .c
 | .func f=>some (.c (.nu f []))
 | .global _=>none
def It:List Operand→Option (List me)
 |[]=>some []
 |x::r=>match ur x,It r with
  |some a,some l=>some (a::l)
  |_,_=>none
section
variable(P:Program)
def kn(t:TypeId):Option Nat:=(P.info? t).map (·.size)
def Ap(t:TypeId):Option Bool:=
 match P.underlying t with
 |some (.struct _)|some (.array _ _)=>some true
 |some _=>some false
 |none=>none
def Fj(t:TypeId):Option (List D):=
 match(P.info? t).bind (·.zero)with
 |some v=>ag6 v.cells.toList
 |none=>none
def Fz(g:TypeId→Option (List LK)):List Field→Nat→Option (List LK)
 |[],_=>some []
 |f::r,off=>if f.name≠ "_"∧f.offset=off then match g f.type with
   |some l=>if kn P f.type=some l.length∧0<l.length then match Fz g r (off+l.length)with
     |some m=>some (l++m)
     |none=>none
    else none
   |none=>none
  else none
def Be:Nat→TypeId→Option (List LK)
 |0,_=>none
 |n+1,t=>match P.underlying t with
  |some .bool=>if kn P t=some 1 then some [.bool]else none
  |some (.int _)=>if kn P t=some 1 then some [.int]else none
  |some .string=>if kn P t=some 1 then some [.str]else none
  |some (.array len e)=>match Be n e with
   |some l=>if kn P e=some l.length∧0<l.length∧kn P t=some (len*l.length)then some (j5 len l).flatten else none
   |none=>none
  |some (.struct fs)=>if P.stoodInHeld t=false then match Fz P (Be n) fs.toList 0 with
    |some l=>if kn P t=some l.length then some l else none
    |none=>none
   else none
  |_=>none
def Qd(t:TypeId):Option KK:=
 match Be P 8 t,Ap P t with
 |some [k],some false=>some (.one k)
 |some ks,some true=>some (.row ks)
 |_,_=>none
def abv(k:TK):Operand→Bool
 | .const (.pointer none)=>k= .ptr
 | .const (.slice none 0 0)=>k= .ft
 | .const (.map none)=>k= .map
 | .const .nilFunc=>k= .fn
 |_=>false
def a0f(op:BinOp)(x y:Operand)(k:TK)(a b:me):Option jv:=
 if op= .eql∨op= .neq then
  if abv k y then some (.Jl k (op= .neq) a)else if abv k x then some (.Jl k (op= .neq) b)else none
 else none
def a05(fs:Array Field):List (Nat×Operand)→Option (List (Nat×Nat×me))
 |[]=>some []
 |(i,x)::r=>match fs[i]?,ur x,a05 fs r with
  |some f,some a,some l=>match kn P f.type with
   |some n=>some ((f.offset,n,a)::l)
   |none=>none
  |_,_,_=>none
def Q4(n:Nat):List (Nat×Operand)→Option (List (Nat×Nat×me))
 |[]=>some []
 |(i,x)::r=>match ur x,Q4 n r with
  |some a,some l=>some ((i*n,n,a)::l)
  |_,_=>none
structure Ann where
 imm:List Nat:=[]
 uu:List (Nat×List Nat):=[]
 ce:List Nat:=[]
 cf:List Nat:=[]
 cr:List Nat:=[]
 kp:List Nat:=[]
 cv:List Nat:=[]
 dyn:List Nat:=[]
 od:List Nat:=[]
 ga:List Nat:=[]
def a6l:Option Operand→Option (Option me)
 |none=>some none
 |some v=>(ur v).map some
def S6(kp cv:Bool)(t:TypeId)(x:Operand)(lo hi mx:Option Operand):Option jv:=
 match P.underlying t with
 |some (.slice e)=>if kp=true then(match kn P e,ur x,a6l lo,a6l hi,a6l mx with
  |some n,some x,some lo,some hi,some mx=>some (.Qb n x lo hi mx)
  |_,_,_,_,_=>none)else match kn P e,ur x,mx with
  |some n,some x,none=>match cv,lo,hi with
   |true,none,some j=>(ur j).map fun j=> .No n x j
   |_,lo,hi=>match a6l lo,a6l hi with
    |some lo,some hi=>some (.slice n x lo hi)
    |_,_=>none
  |some n,some x,some k=>match lo,hi,ur k with
   |none,some j,some k=>(ur j).map fun j=>if cv=true then .Hg n x j k else .slice3 n x j k
   |_,_,_=>none
  |_,_,_=>none
 |some (.array ln e)=>match kn P e,ur x,lo,hi,mx with
  |some n,some x,none,none,none=>some (.acw ln n x)
  |_,_,_,_,_=>none
 |_=>none
def cOp(im kp cv:Bool)(cm:Nat)(o:Op):Option jv:=
 match o with
 | .makeInterface .. =>some .bad
 | .panic _=>some .bad
 | .move x| .assign x=>(ur x).map (if kp=true then .trim else .j7)
 | .pick c a b=>match ur c,ur a,ur b with
  |some c,some a,some b=>some (.pick c a b)
  |_,_,_=>none
 | .alloc e=>(Fj P e).map .alloc
 | .box e x=>match kn P e,ur x with
  |some n,some x=>some (.box n x)
  |_,_=>none
 | .load t a=>match kn P t,Ap P t,ur a with
  |some n,some g,some a=>if g=true∨n=1 then some (.load n g a)else none
  |_,_,_=>none
 | .store t a x=>match kn P t,ur a,ur x with
  |some n,some a,some x=>some (.store n a x)
  |_,_,_=>none
 | .nilCheck x=>(ur x).map .Y4
 | .fieldAddr s x f=>match P.underlying s,ur x with
  |some (.struct fs),some x=>match fs[f]? with
   |some f=>match kn P f.type with
    |some n=>if n=0 then none else some (.Fg f.offset x)
    |none=>none
   |none=>none
  |_,_=>none
 | .indexAddr t x i=>match P.underlying t,ur x,ur i with
  |some (.array len e),some x,some i=>(kn P e).map fun n=> .ux len n x i
  |some (.slice e),some x,some i=>(kn P e).map fun n=> .sq n x i
  |_,_,_=>none
 | .index t x i=>match P.underlying t,ur x,ur i with
  |some .string,some x,some i=>some (.Zr x i)
  |some (.array len e),some x,some i=>match kn P e,Ap P e with
   |some n,some g=>if g=true∨n=1 then some (.a4z len n g x i)else none
   |_,_=>none
  |_,_,_=>none
 | .field t x f=>match P.underlying t,ur x with
  |some (.struct fs),some x=>match fs[f]? with
   |some f=>match kn P f.type,Ap P f.type with
    |some n,some g=>if g=true∨n=1 then some (.a2q f.offset n g x)else none
    |_,_=>none
   |none=>none
  |_,_=>none
 | .binOp op t x y yt=>match ur x,ur y with
  |some a,some b=>
   match P.underlying t with
   |some (.int _)|some .string=>some (.bin op a b)
   |some .bool=>if op= .eql∨op= .neq then some (.beq (op= .neq) a b)else none
   |some (.pointer _)=>a0f op x y .ptr a b
   |some (.slice _)=>a0f op x y .ft a b
   |some (.map ..)=>a0f op x y .map a b
   |some (.func ..)=>a0f op x y .fn a b
   |some (.struct _)|some (.array ..)=>match Be P 8 t with
    |some ks=>if(op= .eql∨op= .neq)∧P.eqGuardType P.depth t=false then some (.eqs ks (op= .neq) a b)else none
    |none=>none
   |_=>none
  |_,_=>none
 | .unOp op _ x=>(ur x).map (.un op)
 | .convert s d x=>match P.underlying s,P.underlying d,ur x with
  |some (.int _),some (.int k),some x=>some (.conv k x)
  |some .string,some .string,some x=>some (.a19 x)
  |_,_,_=>none
 | .build t ps=>match P.underlying t,Fj P t with
  |some (.struct fs),some z=>if fs.toList.all (fun f=>(kn P f.type).isSome)=true then(a05 P fs ps.toList).map (.build z)else none
  |some (.array _ e),some z=>match kn P e with
   |some n=>(Q4 n ps.toList).map (.build z)
   |none=>none
  |_,_=>none
 | .buildSlice t n ps=>match P.underlying t with
  |some (.slice e)=>match kn P e,Fj P e with
   |some sz,some z=>if n*sz≤2^20∧z.length=sz∧0<sz then(Q4 sz ps.toList).map (if kp=true then .a09 n sz z else .yk im n sz z)else none
   |_,_=>none
  |_=>none
 | .slice t x lo hi mx=>S6 P kp cv t x lo hi mx
 | .makeMap t none=>match P.underlying t with
  |some (.map ..)=>some .H9
  |_=>none
 | .lookup t x i ok=>match P.underlying t with
  |some (.map kt e)=>match(P.info? e).bind (·.zero),ur x,ur i,Qd P kt with
   |some z,some x,some i,some kk=>(X1 z).map fun z=> .lookup kk z x i ok
   |_,_,_,_=>none
  |_=>none
 | .mapUpdate t m k v=>match P.underlying t,ur m,ur k,ur v with
  |some (.map kt _),some m,some k,some v=>(Qd P kt).map fun kk=> .Wd kk m k v
  |_,_,_,_=>none
 | .makeFunc (.func f) first iy=>if first.size=0 then(It iy.toList).map (.Lr f)else none
 | .extract x i=>(ur x).map (.ext · i)
 | .call {callee:= .builtin .len,args,argTypes}=>match argTypes[0]?,args[0]? with
  |some t,some x=>match P.underlying t,ur x with
   |some (.array n _),_=>some (.j7 (.c (.int ab n)))
   |some .string,some x=>some (.len .str x)
   |some (.slice _),some x=>some (.len .ft x)
   |some (.map ..),some x=>some (.len .map x)
   |_,_=>none
  |_,_=>none
 | .call {callee:= .builtin .cap,args,argTypes}=>match argTypes[0]?,args[0]? with
  |some t,some x=>match P.underlying t,ur x with
   |some (.slice _),some x=>some (.acn x)
   |_,_=>none
  |_,_=>none
 | .call {callee:= .builtin .clear,args,argTypes}=>match argTypes[0]?,args[0]? with
  |some t,some x=>match P.underlying t,ur x with
   |some (.slice e),some x=>match P.info? e,Fj P e with
    |some i,some z=>if i.zero.map (·.cells.size)=some i.size∧z.length=i.size then some (.clr z x)else none
    |_,_=>none
   |_,_=>none
  |_,_=>none
 | .call {callee:= .builtin .append,args,argTypes}=>match argTypes[0]?,argTypes[1]?,args[0]?,args[1]? with
  |some t,some u,some x,some y=>match P.underlying t,P.underlying u,ur x,ur y with
   |some (.slice e),some (.int _),some x,some y=>match P.info? e,Fj P e with
    |some i,some z=>if i.zero.map (·.cells.size)=some i.size∧z.length=i.size∧0<i.size∧0<i.bytes∧i.size≤2^10∧i.bytes≤2^14 then some (.a2t i.size i.bytes z x y)else none
    |_,_=>none
   |some (.slice e),some (.slice _),some x,some y=>match P.info? e with
    |some i=>if i.zero.map (·.cells.size)=some i.size∧0<i.size∧0<i.bytes∧i.size≤2^10∧i.bytes≤2^14 then some (.app i.size i.bytes x y)else none
    |none=>none
   |_,_,_,_=>none
  |_,_,_,_=>none
 | .call {callee:= .builtin .min,args,.. }=>match args.toList with
  |[x,y]=>match ur x,ur y with
   |some x,some y=>some (.Ee false x y)
   |_,_=>none
  |_=>none
 | .call {callee:= .builtin .max,args,.. }=>match args.toList with
  |[x,y]=>match ur x,ur y with
   |some x,some y=>some (.Ee true x y)
   |_,_=>none
  |_=>none
 | .call {callee:= .value (.func f),args,.. }=>match It args.toList with
  |some l=>if cm=0 then some (.call f l)else if cm=1 then some (.Vw f l)else if cm=2 then some (.yr f l)else some (.qb f l)
  |none=>none
 | .call {callee:= .value f,args,.. }=>match ur f,It args.toList with
  |some f,some l=>if cm=0 then some (.wv f l)else if cm=2 then some (.N0 f l)else some (.O9 f l)
  |_,_=>none
 |_=>none
def a6k(nt:Nat)(an:Ann)(ops:Array Oper)(o:Oper):Option RI:=
 match cOp P (an.imm.contains (o.dst.getD 0)) (an.kp.contains (o.dst.getD 0)) (an.cv.contains (o.dst.getD 0)) (if an.ce.contains (o.dst.getD 0)then 2 else if an.cf.contains (o.dst.getD 0)then 1 else if an.cr.contains (o.dst.getD 0)then 3 else 0) o.op with
 |none=>none
 |some r=>
  match o.guard with
  |none=>if o.dst.all (· <nt)then some {dst:=o.dst,op:=r,guard:=none,after:=(o.after.toList.filter (aIw .any)).map (·.on)}else none
  |some (j,b)=>match(ops[j]?).bind (·.dst)with
   |some t=>if o.dst.all (· <nt)then some {dst:=o.dst,op:=r,guard:=some (t,b),after:=(o.after.toList.filter (aIw .any)).map (·.on)}else none
   |none=>none
def au4(nt:Nat)(o1 o2 o3 o4 o5:Oper):Option RI:=
 match o1.dst,o1.op,o2.dst,o2.op,o3.dst,o3.op,o4.dst,o4.op,o5.dst,o5.op with
 |some d1,.mapEntry t (.tmp m) (.tmp k),some d2,.extract (.tmp e2) 0,some d3,.call c,some d4,.extract (.tmp e4) 1,none,.entryStore _ (.tmp m') (.tmp e5) (.tmp e6)=>
  match c.callee,c.args.toList,c.argTypes[0]?,c.argTypes[1]?,P.underlying t with
  | .builtin .append,[.tmp a0,.tmp y],some at_,some au,some (.map kt et)=>
   if e2=d1∧e4=d1∧e5=d4∧e6=d3∧m'=m∧a0=d2∧at_=et∧d1≠d2∧d1≠d3∧d3≠d4∧o1.guard=none∧o2.guard=none∧o3.guard=none∧o4.guard=none∧o5.guard=none∧
     d1<nt∧d2<nt∧d3<nt∧d4<nt∧y≠d1∧y≠d2∧m≠d1∧m≠d2∧m≠d3∧m≠d4 then
    match P.underlying at_,P.underlying au,(P.info? et).bind (·.zero),Qd P kt with
    |some (.slice e),some (.slice _),some (.slice none 0 0),some kk=>match P.info? e with
     |some i=>if i.zero.map (·.cells.size)=some i.size∧0<i.size∧0<i.bytes∧i.size≤2^10∧i.bytes≤2^14 then some {dst:=none,op:= .a04 kk i.size i.bytes (.t m) (.t k) (.t y) [d1,d2,d3,d4],guard:=none,after:=[]}else none
     |none=>none
    |_,_,_,_=>none
   else none
  |_,_,_,_,_=>none
 |_,_,_,_,_,_,_,_,_,_=>none
def S7(nt:Nat)(an:Ann)(ops:Array Oper):List Oper→Option (List RI)
 |[]=>some []
 |o::r=>match a6k P nt an ops o,S7 nt an ops r with
  |some a,some l=>some (a::l)
  |_,_=>none
inductive Kind where
 |pure|read|alloc|write
 deriving DecidableEq
def jv.kind:jv→Kind
 | .j7 _| .pick .. | .conv .. | .a19 _| .un .. | .bin .. | .beq .. | .eqs .. | .a2q .. | .ext .. | .Ee .. | .Zr .. | .a4z .. => .pure
 | .alloc _| .box .. | .H9| .ze _| .init .. => .alloc
 | .yk im .. =>if im then .read else .write
 | .app .. | .a2t .. | .a09 .. | .a04 .. | .store .. | .Wd .. | .slice3 .. | .No .. | .trim _| .clr .. | .yr .. | .N0 .. | .qb .. | .O9 .. => .write
 |_=> .read
def Kind.ok:Kind→Kind→Bool
 | .pure,_|_,.pure=>true
 | .write,_|_,.write=>false
 |_,_=>true
def me.ts:me→List Nat
 | .t n=>[n]
 | .c _=>[]
def jv.qn:jv→List me
 | .j7 x=>[x]
 | .pick c a b=>[c,a,b]
 | .alloc _=>[]
 | .box _ x=>[x]
 | .load _ _ x=>[x]
 | .store _ a x=>[a,x]
 | .Y4 x=>[x]
 | .Fg _ x=>[x]
 | .ux _ _ x i=>[x,i]
 | .sq _ x i=>[x,i]
 | .Zr x i=>[x,i]
 | .a2q _ _ _ x=>[x]
 | .len _ x=>[x]
 | .bin _ x y=>[x,y]
 | .eqs _ _ x y=>[x,y]
 | .Jl _ _ x=>[x]
 | .beq _ x y=>[x,y]
 | .un _ x=>[x]
 | .conv _ x=>[x]
 | .a19 x=>[x]
 | .build _ ps=>ps.map (·.2.2)
 | .yk _ _ _ _ ps=>ps.map (·.2.2)
 | .app _ _ x y=>[x,y]
 | .a09 _ _ _ ps=>ps.map (·.2.2)
 | .a04 _ _ _ x k y _=>[x,k,y]
 | .a2t _ _ _ x y=>[x,y]
 | .acn x=>[x]
 | .acw _ _ x=>[x]
 | .Hg _ x j k=>[x,j,k]
 | .No _ x j=>[x,j]
 | .Qb _ x lo hi mx=>x::(lo.toList++hi.toList++mx.toList)
 | .trim x=>[x]
 | .clr _ x=>[x]
 | .bad=>[]
 | .slice _ x lo hi=>x::(lo.toList++hi.toList)
 | .H9=>[]
 | .lookup _ _ x i _=>[x,i]
 | .Wd _ x k v=>[x,k,v]
 | .Lr _ iy=>iy
 | .ext x _=>[x]
 | .Ee _ x y=>[x,y]
 | .call _ args=>args
 | .wv f args=>f::args
 | .ze _=>[]
 | .init g _ x=>[.t g,x]
 | .slice3 _ x j k=>[x,j,k]
 | .a4z _ _ _ x i=>[x,i]
 | .yr _ args=>args
 | .Vw _ args=>args
 | .N0 f args=>f::args
 | .qb _ args=>args
 | .O9 f args=>f::args
def RI.looks(o:RI):List Nat:=(o.op.qn.flatMap me.ts)++(match o.guard with|some (t,_)=>[t]|none=>[])
def RI.writes(o:RI):Option Nat:=
 match o.op with
 | .init g .. =>if o.dst=none then some g else none
 |_=>o.dst
def RI.makes(o:RI):List Nat:=
 match o.op with
 | .alloc _| .box .. | .H9| .app .. | .a2t .. | .a09 .. =>[o.dst.getD 0]
 | .yk im .. =>if im then[]else[o.dst.getD 0]
 | .init g .. =>[g]
 |_=>[]
def RI.isE(o:RI):Bool:=
 match o.op with
 | .yr .. | .N0 .. =>true
 |_=>false
def RI.isR(o:RI):Bool:=
 match o.op with
 | .qb .. | .O9 .. | .a04 .. =>true
 |_=>false
def RI.far(x y:RI):Bool:=(x.makes.all fun d=> !y.pt.contains d)&&(!x.isE||y.pt.isEmpty)
def RI.soft(x y:RI):Bool:=
 match x.op,y.op with
 | .Hg ..,.store n _ _=>n !=1
 |_,_=>false
def RI.acj(x y:RI):Bool:=
 (x.op.kind.ok y.op.kind||(x.soft y||y.soft x))&&x.far y&&y.far x&&(x.pt.all fun d=>d !=y.dst.getD 0)&&(y.pt.all fun d=>d !=x.dst.getD 0)&&
 (match x.writes with|some d=> !y.looks.contains d&&y.writes !=some d|none=>x.op.kind != .alloc)&&
 (match y.writes with|some d=> !x.looks.contains d|none=>y.op.kind != .alloc)
def aCk(l:List RI)(d n:Nat):Bool:=
 (l.countP fun o=>o.looks.contains d)==1&&l.any fun o=>match o.op with
  | .store m (.t g) x=>g==d&&m==n&& !x.ts.contains d&&o.guard.isNone&&o.dst.isNone
  |_=>false
def RI.aj3(l:List RI)(o:RI):RI:=
 match o.op,o.dst with
 | .alloc z,some d=>if o.guard.isNone&&aCk l d z.length then{o with op:= .ze z.length}else o
 | .store n (.t g) x,none=>if o.guard.isNone&&aCk l g n&&(l.any fun o'=>o'.dst==some g&&o'.guard.isNone&&match o'.op with| .alloc z=>z.length==n|_=>false)then{o with op:= .init g n x}else o
 |_,_=>o
def ahead(ops:List RI):Nat→Nat→List Nat
 |0,_=>[]
 |n+1,i=>match ops[i]? with
  |some o=>o.after++o.after.flatMap (ahead ops n)
  |none=>[]
def arh(ops:List RI)(k i:Nat):Bool:=
 match ops[k]?,ops[i]? with
 |some x,some y=>x.acj y||(ahead ops ops.length i).contains k
 |_,_=>false
def X0(ops:List RI):Bool:=
 (ops.all fun o=> !o.isR)&&(dn ops.length).all fun i=>(match ops[i]? with|some o=>o.after.all (· <i)|none=>false)&&(dn i).all fun k=>arh ops k i&&((ops.getD k default).far (ops.getD i default))
def au3(nt:Nat):List Oper→Option RI
 |o1::o2::o3::o4::o5::_=>au4 P nt o1 o2 o3 o4 o5
 |_=>none
def a8j(nt:Nat)(an:Ann)(ops:Array Oper):Nat→List Oper→Option (List RI)
 |_,[]=>some []
 |k+1,_::r=>a8j nt an ops k r
 |0,o::r=>match au3 P nt (o::r)with
  |some a=>(a8j nt an ops 4 r).map (a:: ·)
  |none=>match a6k P nt an ops o,a8j nt an ops 0 r with
   |some a,some l=>some (a::l)
   |_,_=>none
def acp(nt:Nat)(an:Ann)(id:Nat)(ops:Array Oper)(draw:Bool):Option di:=
 if draw=false then match a8j P nt an ops 0 ops.toList with
  |some l=>some (.region l false ((an.uu.lookup id).getD []))
  |none=>none
 else match S7 P nt an ops ops.toList with
  |some l=>if X0 (l.map (RI.aj3 l))=true then some (.region (l.map (RI.aj3 l)) true ((an.uu.lookup id).getD []))else none
  |none=>none
def au7:List di→di
 |[]=> .skip
 |[x]=>x
 |x::r=> .both x (au7 r)
def agl(ops:Array Oper)(l:List RI):Nat→Array Bool→Option di
 |0,A=>if Hm .any ops A=[]then some .skip else none
 |n+1,A=>if Hm .any ops A=[]then some .skip else
  (N9 ((Hm .any ops A).map fun i=>(agl ops l n (A.setIfInBounds i true)).map fun t=> .seq (.region [l.getD i default] false []) t)).map au7
def aBt(nt:Nat)(an:Ann)(ops:Array Oper):Option di:=
 match S7 P nt an ops ops.toList with
 |some l=>agl ops l ops.size (N3 ops.size false)
 |none=>none
def au5(nt:Nat)(an:Ann)(ops:Array Oper):Option di:=
 match S7 P nt an ops ops.toList with
 |some l=>if((dn l.length).all fun i=>(l.getD i default).after.all (· <i))=true then some (.a5o l)else none
 |none=>none
def comp(nt:Nat)(an:Ann):Code→Option di
 | .skip=>some .skip
 | .label _=>some .skip
 | .region id ops draw=>(if draw=true∧an.ga.contains id=true then au5 P nt an ops else if draw=true∧an.od.contains id=true then aBt P nt an ops else acp P nt an id ops draw).map fun r=>if an.dyn.contains id=true then .seq .freeze r else r
 | .seq a b=>match comp nt an a,comp nt an b with
  |some a,some b=>some (.seq a b)
  |_,_=>none
 | .cond c a b=>match ur c,comp nt an a,comp nt an b with
  |some c,some a,some b=>some (.cond c a b)
  |_,_,_=>none
 | .block id c=>(comp nt an c).map (.block id)
 | .loop c=>(comp nt an c).map .loop
 | .exit id=>some (.exit id)
 | .scope c=>comp nt an c
 | .ret=>some .ret
 |_=>none
end
end Go.PI
namespace Go.PI
section
variable{P:Program}{Q:Exit→PS→Prop}{s:PS}
theorem ae7:ko P .skip Q s=Q .normal s:=er rfl (fw _)
theorem a2w{a b:di}:ko P (.seq a b) Q s=ko P a (fun e s'=>match e with| .normal=>ko P b Q s'|e=>Q e s') s:=er rfl (fw _)
theorem Zb{id:Nat}{c:di}:ko P (.block id c) Q s=ko P c (fun e s'=>match e with| .exit i=>if i=id then Q .normal s' else Q (.exit i) s'|e=>Q e s') s:=er rfl (fw _)
theorem aqz{l:List RI}:ko P (.a5o l) Q s=∃I:(Nat→Bool)→PS→Prop,I (fun _=>false) s∧∀A s',I A s'→
   ((∀i,i<l.length→A i=true)→Q .normal s')∧∀i o,l[i]? =some o→A i=false→(∀j∈o.after,A j=true)→l5 P [o] s' (I (lb A i true)):=er rfl (fw _)
theorem ar0{id:Nat}:ko P (.exit id) Q s=Q (.exit id) s:=er rfl (fw _)
theorem ab3:ko P .ret Q s=Q .ret s:=er rfl (fw _)
theorem aqy{c:di}(I:PS→Prop)(m:PS→Nat)(h0:I s)
  (h:∀s',I s'→ko P c (fun e s''=>match e with| .normal=>I s''∧m s''<m s'|e=>Q e s'') s'):ko P (.loop c) Q s:=
 ⟨I,m,h0,h⟩
theorem Te{K:PS→Prop}:l5 P [] s K=K s:=er rfl (fw _)
theorem B5{o:RI}{r:List RI}{K:PS→Prop}:l5 P (o::r) s K=match wanted o s with
  |some true=>Gk P o s fun s'=>l5 P r s' K
  |some false=>l5 P r (s.put o.dst (.d (.Aa []))) K
  |none=>False:=er rfl (fw _)
end
theorem cu(n:Int)(h0: -9223372036854775808≤n)(h1:n≤9223372036854775807):P1 ab n=n:=by
 unfold P1
 have e:(2:Int)^ab.bits=18446744073709551616:=by decide
 have e':(2:Int)^(ab.bits-1)=9223372036854775808:=by decide
 simp only[e,e',aJq,uh,decide_eq_true_eq];split<;>omega
end Go.PI
namespace Go.PI
open Go Go.RowKit
structure Hk(E E':Env)(s s':PS):Prop where
 av:∀id,s.av id≤s'.av id
 arr:∀id sz n',s'.av id=s.av id→s'.Cz id=some (sz,n')→
  ∃n,s.Cz id=some (sz,n)∧n≤n'∧(n=n'→E'.b id=E.b id∧E'.n id=E.n id)
 loc:∀id b',s'.av id=s.av id→s'.da id=some b'→b'.isVar=true→(∃b,s.da id=some b∧b.isVar=true)∧E'.b id=E.b id
 mp:∀id,s'.av id=s.av id→(s'.mp id).isSome→(s.mp id).isSome∧E'.m id=E.m id
theorem ij.Dj{G G':fy}{E E':Env}{s s':PS}(hG:G.le G')(h:Hk E E' s s'){c:C}{v:Value}(hv:xv G E s c v):xv G' E' s' c v:=by
 cases c with
 |d x=>exact gj.mono hG hv
 |ref id av len=>
  obtain⟨h1,h2⟩:=hv;refine⟨ie h1 (h.av id),fun he sz n' hb=>?_⟩
  have hv':s'.av id=s.av id:=by have:=h.av id;omega
  obtain⟨n,hb0,hl,hE⟩:=h.arr id sz n' hv' hb;obtain⟨k1,k2⟩:=h2 (by omega) sz n hb0;refine⟨by omega,fun hl'=>?_⟩
  have hll:n=n':=by omega
  obtain⟨e1,e2⟩:=hE hll;rw[e1,e2];exact k2 (by omega)
 |kj id av=>
  obtain⟨h1,h2⟩:=hv;refine⟨ie h1 (h.av id),fun he hm=>?_⟩
  have hv':s'.av id=s.av id:=by have:=h.av id;omega
  obtain⟨k1,k2⟩:=h.mp id hv' hm;rw[k2];exact h2 (by omega) k1
 |ptr id av off=>
  obtain⟨h1,h2⟩:=hv;refine⟨ie h1 (h.av id),fun he ⟨b',hb,hva⟩=>?_⟩
  have hv':s'.av id=s.av id:=by have:=h.av id;omega
  obtain⟨k1,k2⟩:=h.loc id b' hv' hb hva;rw[k2];exact h2 (by omega) k1
theorem ij.move{G G':fy}{E E':Env}{s s':PS}(hG:G.le G')(h:Hk E E' s s'){x:V}{v:Value}(hv:ij G E s x v):ij G' E' s' x v:=by
 cases x with
 |d x=>exact gj.mono hG hv
 |ref id av len=>exact ij.Dj (c:= .ref id av len) hG h hv
 |kj id av=>exact ij.Dj (c:= .kj id av) hG h hv
 |ic id av off=>
  obtain⟨h1,h2⟩:=hv;refine⟨ie h1 (h.av id),fun he ⟨b',hb,hva⟩=>?_⟩
  have hv':s'.av id=s.av id:=by have:=h.av id;omega
  obtain⟨k1,k2⟩:=h.loc id b' hv' hb hva;rw[k2];exact h2 (by omega) k1
 |Hf id av ln i off=>
  obtain⟨h1,h2⟩:=hv;refine⟨ie h1 (h.av id),fun he sz n' hb=>?_⟩
  have hv':s'.av id=s.av id:=by have:=h.av id;omega
  obtain⟨n,hb0,hl,hE⟩:=h.arr id sz n' hv' hb;obtain⟨k1,k2⟩:=h2 (by omega) sz n hb0;refine⟨by omega,fun hl'=>?_⟩
  have hll:n=n':=by omega
  obtain⟨e1,e2⟩:=hE hll;rw[e1];exact k2 (by omega)
 |nu f ids=>
  obtain⟨h1,h2⟩:=hv;refine⟨fun p hp=>ie (h1 p hp) (h.av p.1),fun hall=>?_⟩
  have key:∀p∈ids,s.av p.1=p.2∧(∃b,s.da p.1=some b∧b.isVar=true)∧E'.b p.1=E.b p.1:=by
   intro p hp;obtain⟨e,b',hb,hva⟩:=hall p hp;have:=h1 p hp;have:=h.av p.1
   have hv':s'.av p.1=s.av p.1:=by omega
   obtain⟨k1,k2⟩:=h.loc p.1 b' hv' hb hva;exact⟨by omega,k1,k2⟩
  have e:(ids.map fun p=>aK4 (some ⟨E'.b p.1,0,none⟩))=ids.map fun p=>aK4 (some ⟨E.b p.1,0,none⟩):=
   Cy fun p hp=>by rw[(key p hp).2.2]
  rw[e];exact h2 fun p hp=>⟨(key p hp).1,(key p hp).2.1⟩
 |agg cs=>
  rw[Eu]at hv⊢;obtain⟨vs,e,hl,hc⟩:=hv;exact⟨vs,e,hl,fun i c u hi hu=>ij.Dj hG h (hc i c u hi hu)⟩
 |Aa cs=>
  rw[K0]at hv⊢;obtain⟨vs,e,hl,hc⟩:=hv;exact⟨vs,e,hl,fun i c u hi hu=>ij.Dj hG h (hc i c u hi hu)⟩
 |Ka id av ln n=>
  obtain⟨h1,h2⟩:=hv;refine⟨ie h1 (h.av id),fun he ⟨b',hb,hva⟩=>?_⟩
  have hv':s'.av id=s.av id:=by have:=h.av id;omega
  obtain⟨k1,k2⟩:=h.loc id b' hv' hb hva;rw[k2];exact h2 (by omega) k1
 |Hg id av m a=>
  obtain⟨h0,h1,h2⟩:=hv;refine⟨h0,ie h1 (h.av id),fun he sz n' hb=>?_⟩
  have hv':s'.av id=s.av id:=by have:=h.av id;omega
  obtain⟨n,hb0,hl,hE⟩:=h.arr id sz n' hv' hb;obtain⟨k1,k2⟩:=h2 (by omega) sz n hb0;refine⟨by omega,fun hl'=>?_⟩
  have hll:n=n':=by omega
  obtain⟨e1,e2⟩:=hE hll;rw[e1,e2];exact k2 (by omega)
 |win id av m o l=>
  obtain⟨h0,h1,h2⟩:=hv;refine⟨h0,ie h1 (h.av id),fun he sz n' hb=>?_⟩
  have hv':s'.av id=s.av id:=by have:=h.av id;omega
  obtain⟨n,hb0,hl,hE⟩:=h.arr id sz n' hv' hb;obtain⟨k1,k2⟩:=h2 (by omega) sz n hb0;refine⟨by omega,fun hl'=>?_⟩
  have hll:n=n':=by omega
  obtain⟨e1,e2⟩:=hE hll;rw[e1,e2];exact k2 (by omega)
 |no=>trivial
theorem a6q{G:fy}{E:Env}{s:PS}{d:Option Nat}{y:V}{x:V}{v:Value}:ij G E (s.put d y) x v↔ij G E s x v:=by
 cases x<;>exact Iff.rfl
theorem a6x{G:fy}{E:Env}{s:PS}{d:Option Nat}{y:V}{x:C}{v:Value}:xv G E (s.put d y) x v↔xv G E s x v:=a6q
theorem apk{G:fy}{E:Env}{s:PS}{d:Option Nat}{y:V}{B0:Nat}{w:World}{id:Nat}{b:B}(h:Sj G E s B0 w id b):Sj G E (s.put d y) B0 w id b:=by
 obtain⟨h1,h2,cells,et,h3,h4,h5⟩:=h;refine⟨h1,h2,cells,et,h3,h4,?_⟩
 cases b with
 |arr sz dd=>exact h5
 |qq sz dd=>exact⟨h5.1,h5.2.1,fun i e j x u a b c=>a6x.2 (h5.2.2 i e j x u a b c)⟩
 |loc cs=>exact⟨h5.1,fun j c u hc hu=>a6x.2 (h5.2 j c u hc hu)⟩
 |Ro n=>exact h5
section
variable{B0 nt:Nat}{w0 w:World}{G0 G:fy}{s:PS}{E:Env}{a:Act}
theorem j9.a7k(h:j9 B0 w0 nt G0 s G E a w){d:Option Nat}(hd:d.all (· <nt)=true){x:V}{v:Value}(hv:ij G E s x v):j9 B0 w0 nt G0 (s.put d x) G E (a.put d v) w where
 size:=by cases d<;>simp[Act.put,h.size]
 defers:=by cases d<;>exact h.defers
 base:=h.base
 below:=h.below
 gok:=h.gok
 gle:=h.gle
 Ip:=h.Ip
 tmp t:=by
  rw[a6q]
  cases d with
  |none=>exact h.tmp t
  |some d=>
   simp only[Option.all,decide_eq_true_eq]at hd;have hs:=h.size;simp only[PS.put,Act.put,lb];by_cases e:t=d
   ·subst e;rw[bm rfl];rw[j8,T5];rw[bm (by omega)];exact hv
   rw[al e,j8,W3 (fun h=>e h.symm),←j8];exact h.tmp t
 da id b hb:=apk (h.da id b hb)
 inj:=h.inj
 mp id es he:=by
  obtain⟨h1,h2,ents,clock,h3,h4,h5,h6⟩:=h.mp id es he;exact⟨h1,h2,ents,clock,h3,h4,fun i e x hx hy=>⟨(h5 i e x hx hy).1,a6x.2 (h5 i e x hx hy).2⟩,h6⟩
 Qq:=h.Qq
 ctx p:=by rw[a6q];exact h.ctx p
 tb:=h.tb
theorem ij.aFu{G:fy}{E:Env}{s:PS}{v:Value}:ij G E s .no v:=trivial
theorem j9.ev(h:j9 B0 w0 nt G0 s G E a w){x:Operand}{o:me}(hx:ur x=some o):ij G E s (o.ev s) (a.eval x):=by
 cases x with
 |tmp t=>
  simp only[ur,aj]at hx;subst hx;exact h.tmp t
 |const v=>
  simp only[ur]at hx
  have cell:∀(v:Value) (d:D),a3d v=some d→gj G d v:=by
   intro v d hd;unfold a3d at hd
   split at hd<;>first|(injection hd with hd;subst hd;constructor)|(cases hd)|skip
   split at hd
   ·rename_i f x y hxy
    injection hd with hd
    subst hd;have e1:x= #[]:=Xa hxy.1;have e2:y= #[]:=Xa hxy.2;subst e1 e2;exact .nu rfl (by simp)
   cases hd
  have cells:∀(l:List Value) (ds:List D),ag6 l=some ds→l.length=ds.length∧∀(i:Nat) (x:D) (v:Value),ds[i]? =some x→l[i]? =some v→gj G x v:=by
   intro l
   induction l with
   |nil=>intro ds hd;simp only[ag6,aj]at hd;subst hd;simp
   |cons v l ih=>
    intro ds hd;simp only[ag6]at hd;split at hd
    ·rename_i x l' h1 h2
     injection hd with hd
     subst hd;obtain⟨k1,k2⟩:=ih l' h2;refine⟨by simp[k1],fun i x' v' hx' hv'=>?_⟩
     cases i with
     |zero=>simp at hx' hv';subst hx' hv';exact cell _ _ h1
     |succ i=>simp at hx' hv';exact k2 i x' v' hx' hv'
    cases hd
  cases hv:X1 v with
  |none=>rw[hv]at hx;cases hx
  |some d=>
   rw[hv]at hx;simp only[aKx,aj]at hx;subst hx;show gj G d v
   cases v with
   |agg cs=>
    simp only[X1]at hv
    cases hc:ag6 cs.toList with
    |none=>rw[hc]at hv;cases hv
    |some ds=>
     rw[hc]at hv;simp only[aKx,aj]at hv;subst hv;obtain⟨k1,k2⟩:=cells _ _ hc;exact .agg (by simpa using k1) fun i x v hi hv=>k2 i x v hi (by simpa using hv)
   |_=>exact cell _ _ hv
 |func f=>
  simp only[ur,aj]at hx;subst hx;exact gj.nu rfl (by simp)
 |global g=>cases hx
theorem j9.drew(h:j9 B0 w0 nt G0 s G E a w):j9 B0 w0 nt G0 s G E a w.drew where
 size:=h.size
 defers:=h.defers
 base:=h.base
 below:=h.below.drew
 gok:=⟨h.gok.cv,h.gok.mv⟩
 gle:=h.gle
 Ip:=h.Ip
 tmp:=h.tmp
 da:=h.da
 inj:=h.inj
 mp:=h.mp
 Qq:=h.Qq
 ctx:=h.ctx
 tb:=h.tb
end
section
variable{B0 nt:Nat}{w0 w w':World}{G0 G G':fy}{s s':PS}{E E':Env}{a:Act}
theorem Sj.lt{id:Nat}{b:B}(h:Sj G E s B0 w id b):E.b id<w.heap.size:=by
 obtain⟨_,_,cells,et,h3,_⟩:=h;exact(ig.1 h3).1
theorem Sj.move{id:Nat}{b:B}(h:Sj G E s B0 w id b)(hG:G.le G')(hm:Hk E E' s s')(hw:w'.heap[E.b id]? =w.heap[E.b id]?)
  (hc:∀o,G'.cv (E.b id) o=none)(e1:E'.b id=E.b id)(e2:E'.n id=E.n id):Sj G' E' s' B0 w' id b:=by
 obtain⟨h1,h2,cells,et,h3,h4,h5⟩:=h;unfold Sj;rw[e1,e2];refine⟨h1,hc,cells,et,hw.trans h3,h4,?_⟩
 cases b with
 |arr sz dd=>exact⟨h5.1,h5.2.1,fun i e j x u a b c=>(h5.2.2 i e j x u a b c).mono hG⟩
 |qq sz dd=>exact⟨h5.1,h5.2.1,fun i e j x u a b c=>ij.Dj hG hm (h5.2.2 i e j x u a b c)⟩
 |loc cs=>exact⟨h5.1,fun j c u hc hu=>ij.Dj hG hm (h5.2 j c u hc hu)⟩
 |Ro n=>exact h5
theorem Ax(w:World)(o:Obj)(k:Nat)(h:k<w.heap.size):(w.alloc o).heap[k]? =w.heap[k]? :=Below.heap_alloc w o k h
theorem Ld(w:World)(o:Obj):(w.alloc o).heap[w.heap.size]? =some o:=by
 show(w.heap.push o)[w.heap.size]? =_;simp
theorem GOk.alloc(h:GOk G w)(o:Obj):GOk G (w.alloc o):=h.below (Below.alloc (aL2 _ _) (ay _) o)
theorem GOk.al3(h:GOk G w){b:Nat}(hb:w.heap.size≤b)(o:Nat):G.cv b o=none:=by
 cases hc:G.cv b o with
 |none=>rfl
 |some v=>have:=h.lt hc;omega
theorem GOk.aAx(h:GOk G w){b:Nat}(hb:w.heap.size≤b):G.mv b=none:=by
 cases hc:G.mv b with
 |none=>rfl
 |some v=>have:=h.ltm hc;omega
def Holds(G:fy)(E:Env)(s:PS)(cells:Array Value):B→Prop
 | .arr sz dd=>dd.length*sz≤cells.size∧(∀(i:Nat) (e:List D),dd[i]? =some e→e.length=sz)∧
   ∀(i:Nat) (e:List D) (j:Nat) (x:D) (u:Value),dd[i]? =some e→e[j]? =some x→cells[i*sz+j]? =some u→gj G x u
 | .qq sz dd=>dd.length*sz≤cells.size∧(∀(i:Nat) (e:List C),dd[i]? =some e→e.length=sz)∧
   ∀(i:Nat) (e:List C) (j:Nat) (x:C) (u:Value),dd[i]? =some e→e[j]? =some x→cells[i*sz+j]? =some u→xv G E s x u
 | .loc cs=>cs.length=cells.size∧∀(j:Nat) (c:C) (u:Value),cs[j]? =some c→cells[j]? =some u→xv G E s c u
 | .Ro n=>n=cells.size
theorem Holds.move{cells:Array Value}{b:B}(h:Holds G E s cells b)(hG:G.le G')(hm:Hk E E' s s'):Holds G' E' s' cells b:=by
 cases b with
 |arr sz dd=>exact⟨h.1,h.2.1,fun i e j x u a b c=>(h.2.2 i e j x u a b c).mono hG⟩
 |qq sz dd=>exact⟨h.1,h.2.1,fun i e j x u a b c=>ij.Dj hG hm (h.2.2 i e j x u a b c)⟩
 |loc cs=>exact⟨h.1,fun j c u hc hu=>ij.Dj hG hm (h.2 j c u hc hu)⟩
 |Ro n=>exact h
theorem j9.new(h:j9 B0 w0 nt G0 s G E a w)(id:Nat)(b:B)(cells:Array Value)(et:TypeId)(hb:Holds G E s cells b):
  j9 B0 w0 nt G0 {s with da:=lb s.da id (some b),av:=lb s.av id (s.av id+1)} G
   {E with b:=lb E.b id w.heap.size,n:=lb E.n id cells.size} a (w.alloc (.cells cells et)):=by
 have hm:Hk E {E with b:=lb E.b id w.heap.size,n:=lb E.n id cells.size} s {s with da:=lb s.da id (some b),av:=lb s.av id (s.av id+1)}:=by
  have hne:∀i,lb s.av id (s.av id+1) i=s.av i→i≠id:=by
   intro i hi e;subst e;rw[ck]at hi;omega
  refine⟨fun i=>?_,fun i sz T4 hv va=>?_,fun i b1 hv va hva=>?_,fun i hv hp=>?_⟩
  ·show _≤lb s.av id (s.av id+1) i;by_cases e:i=id
   ·subst e;rw[ck];omega
   rw[gu _ _ _ _ e];exact ay _
  ·have e:=hne i hv;simp only[PS.Cz,gu _ _ _ _ e]at va;exact⟨T4,va,ay _,fun _=>⟨gu _ _ _ _ e,gu _ _ _ _ e⟩⟩
  ·have e:=hne i hv;simp only[gu _ _ _ _ e]at va;exact⟨⟨b1,va,hva⟩,gu _ _ _ _ e⟩
  exact⟨hp,rfl⟩
 have hbw:w.heap.size=w.heap.size:=rfl
 have hB0:B0≤w.heap.size:=by rw[h.base];exact h.below.size
 refine⟨h.size,h.defers,h.base,h.below.alloc (by rw[h.base];exact h.below.size) _,h.gok.alloc _,h.gle,h.Ip,fun t=>ij.move (fy.kl _) hm (h.tmp t),fun i b' va=>?_,fun i j bi bj hi hj Io=>?_,fun i es hi=>?_,h.Qq,fun p=>ij.move (fy.kl _) hm (h.ctx p),h.tb⟩
 ·by_cases e:i=id
  ·subst e;simp only[ck,aj]at va;subst va;unfold Sj;simp only[ck];refine⟨hB0,fun o=>h.gok.al3 (ay _) o,cells,et,Ld _ _,ay _,?_⟩;have:=hb.move (fy.kl G) hm;cases b<;>exact this
  simp only[gu _ _ _ _ e]at va;have k:=h.da i _ va;exact k.move (fy.kl _) hm (Ax _ _ _ k.lt) k.2.1 (gu _ _ _ _ e) (gu _ _ _ _ e)
 ·have lt:∀i b,s.da i=some b→E.b i≠w.heap.size:=fun i b hi=>by have:=(h.da i b hi).lt;omega
  by_cases ei:i=id
  ·subst ei;have ej:j≠i:=fun e=>Io e.symm;simp only[gu _ _ _ _ ej]at hj;simp only[ck,gu _ _ _ _ ej];exact fun e=>lt j bj hj e.symm
  simp only[gu _ _ _ _ ei]at hi⊢;by_cases ej:j=id
  ·subst ej;simp only[ck];exact lt i bi hi
  simp only[gu _ _ _ _ ej]at hj⊢;exact h.inj i j bi bj hi hj Io
 obtain⟨h1,h2,ents,clock,h3,h4,h5,h6⟩:=h.mp i es hi;exact⟨h1,h2,ents,clock,(Ax _ _ _ (ig.1 h3).1).trans h3,h4,fun i e x hx hy=>⟨(h5 i e x hx hy).1,ij.Dj (fy.kl _) hm (h5 i e x hx hy).2⟩,h6⟩
structure A0(w w':World)(g:Nat)(o:Obj):Prop where
 os:w'.os=w.os
 tape:w'.tape=w.tape
 output:w'.output=w.output
 drawn:w'.drawn=w.drawn
 size:w'.heap.size=w.heap.size
 other:∀k,k≠g→w'.heap[k]? =w.heap[k]?
 at_:w'.heap[g]? =some o
theorem A0.below{g:Nat}{o:Obj}(h:A0 w w' g o)(hg:B0≤g){Q:Prop}:Bel Q B0 w w':=
 ⟨⟨h.os,h.tape,h.output,by rw[h.size];exact ay _,fun k hk=>h.other k (by omega)⟩,fun _=>by rw[h.drawn];exact ay _⟩
theorem ajw{k:Nat}(h:w'.heap[k]? =w.heap[k]?)(o:Nat):w'.cell? ⟨k,o,none⟩=w.cell? ⟨k,o,none⟩:=aIu (w:=w) h
theorem GOk.aps{g:Nat}{o:Obj}(h:GOk G w)(ht:A0 w w' g o)(hc:∀o,G.cv g o=none)(hm:G.mv g=none):GOk G w' where
 cv b o v hv:=by
  have:b≠g:=fun e=>by subst e;rw[hc]at hv;cases hv
  exact(ajw (ht.other b this) o).trans (h.cv b o v hv)
 mv b es hv:=by
  have:b≠g:=fun e=>by subst e;rw[hm]at hv;cases hv
  obtain⟨ents,clock,h1,h2⟩:=h.mv b es hv;exact⟨ents,clock,(ht.other b this).trans h1,h2⟩
def Alike(b b':B):Prop:=b.isVar=b'.isVar∧∀sz n',b'.Cz=some (sz,n')→∃n,b.Cz=some (sz,n)∧n≤n'
theorem vb{s:PS}{id:Nat}{b:B}(h:s.da id=some b):s.Cz id=b.Cz:=by unfold PS.Cz;rw[h];rfl
theorem Alike.arr{sz:Nat}{dd T4:List (List D)}(h:dd.length≤T4.length):Alike (.arr sz dd) (.arr sz T4):=⟨rfl,fun sz' n' h'=>by simp only[B.Cz,aj,br]at h';obtain⟨rfl,rfl⟩:=h';exact⟨_,rfl,h⟩⟩
theorem Alike.loc{cs cs':List C}:Alike (.loc cs) (.loc cs'):=⟨rfl,fun sz' n' h'=>by simp[B.Cz]at h'⟩
theorem j9.ax4(h:j9 B0 w0 nt G0 s G E a w){id:Nat}{b:B}(hb:s.da id=some b):G.mv (E.b id)=none:=by
 cases hm:G.mv (E.b id)with
 |none=>rfl
 |some es=>
  obtain⟨ents,clock,h1,_⟩:=h.gok.mv _ _ hm;obtain⟨_,_,cells,et,h3,_⟩:=h.da id b hb;rw[h1]at h3;cases h3
theorem j9.set(h:j9 B0 w0 nt G0 s G E a w){id:Nat}{b b':B}(hb:s.da id=some b)(hal:Alike b b'){cells:Array Value}{et:TypeId}
  (ht:A0 w w' (E.b id) (.cells cells et (0,0)))(hn:E.n id≤cells.size)(hh:Holds G E s cells b'):
  j9 B0 w0 nt G0 {s with da:=lb s.da id (some b')} G E a w':=by
 have hm:Hk E E s {s with da:=lb s.da id (some b')}:=by
  refine⟨fun i=>ay _,fun i sz T4 _ va=>?_,fun i b1 _ va hva=>?_,fun i hv hp=>⟨hp,rfl⟩⟩
  ·by_cases e:i=id
   ·subst e;rw[vb (b:=b') (ck _ _ _)]at va;obtain⟨n,hn,hle⟩:=hal.2 _ _ va;exact⟨n,(vb hb).trans hn,hle,fun _=>⟨rfl,rfl⟩⟩
   simp only[PS.Cz,gu _ _ _ _ e]at va;exact⟨T4,va,ay _,fun _=>⟨rfl,rfl⟩⟩
  by_cases e:i=id
  ·subst e;simp only[ck,aj]at va;subst va;exact⟨⟨_,hb,hal.1.trans hva⟩,rfl⟩
  simp only[gu _ _ _ _ e]at va;exact⟨⟨b1,va,hva⟩,rfl⟩
 have k0:=h.da id b hb;have hg:=k0.1;refine⟨h.size,h.defers,h.base,h.below.trans (ht.below hg),h.gok.aps ht k0.2.1 (h.ax4 hb),h.gle,h.Ip,fun t=>ij.move (fy.kl _) hm (h.tmp t),fun i b1 hb1=>?_,fun i j bi bj hi hj Io=>?_,fun i es hi=>?_,h.Qq,fun p=>ij.move (fy.kl _) hm (h.ctx p),h.tb⟩
 ·by_cases e:i=id
  ·subst e;simp only[ck,aj]at hb1;subst hb1;refine⟨hg,k0.2.1,cells,et,ht.at_,hn,?_⟩;have:=hh.move (fy.kl G) hm;cases b'<;>exact this
  simp only[gu _ _ _ _ e]at hb1;have k:=h.da i b1 hb1;exact k.move (fy.kl _) hm (ht.other _ (h.inj i id b1 b hb1 hb e)) k.2.1 rfl rfl
 ·have un:∀i bi,lb s.da id (some b') i=some bi→∃b2,s.da i=some b2:=by
   intro i bi hi;by_cases e:i=id
   ·subst e;exact⟨b,hb⟩
   rw[gu _ _ _ _ e]at hi;exact⟨bi,hi⟩
  obtain⟨b2,h2⟩:=un i bi hi;obtain⟨b3,h3⟩:=un j bj hj;exact h.inj i j b2 b3 h2 h3 Io
 obtain⟨h1,h2,ents,clock,h3,h4,h5,h6⟩:=h.mp i es hi;refine⟨h1,h2,ents,clock,(ht.other _ fun e=>?_).trans h3,h4,fun i e x hx hy=>⟨(h5 i e x hx hy).1,ij.Dj (fy.kl _) hm (h5 i e x hx hy).2⟩,h6⟩;obtain⟨_,_,aHw,et0,h6,_⟩:=k0;rw[e,h6]at h3;cases h3
theorem j9.aAe(h:j9 B0 w0 nt G0 s G E a w){id sz n n':Nat}{b b':B}(hb:s.da id=some b)(hd:b.Cz=some (sz,n))(hd':b'.Cz=some (sz,n'))(hl:n<n')
  (cells:Array Value)(et:TypeId)(hh:Holds G E s cells b'):
  j9 B0 w0 nt G0 {s with da:=lb s.da id (some b')} G {E with b:=lb E.b id w.heap.size,n:=lb E.n id cells.size} a (w.alloc (.cells cells et)):=by
 have hm:Hk E {E with b:=lb E.b id w.heap.size,n:=lb E.n id cells.size} s {s with da:=lb s.da id (some b')}:=by
  refine⟨fun i=>ay _,fun i sz1 aH1 _ va=>?_,fun i b1 _ va hva=>?_,fun i hv hp=>⟨hp,rfl⟩⟩
  ·by_cases e:i=id
   ·subst e;rw[vb (b:=b') (ck _ _ _),hd']at va;simp only[aj,br]at va;obtain⟨rfl,rfl⟩:=va;exact⟨n,(vb hb).trans hd,aKi hl,fun e=>by omega⟩
   simp only[PS.Cz,gu _ _ _ _ e]at va;exact⟨aH1,va,ay _,fun _=>⟨gu _ _ _ _ e,gu _ _ _ _ e⟩⟩
  by_cases e:i=id
  ·subst e;simp only[ck,aj]at va;subst va
   cases b'<;>first|(cases hva;done)|(simp[B.Cz]at hd';done)
  simp only[gu _ _ _ _ e]at va;exact⟨⟨b1,va,hva⟩,gu _ _ _ _ e⟩
 have hB0:B0≤w.heap.size:=by rw[h.base];exact h.below.size
 refine⟨h.size,h.defers,h.base,h.below.alloc hB0 _,h.gok.alloc _,h.gle,h.Ip,fun t=>ij.move (fy.kl _) hm (h.tmp t),fun i b1 va=>?_,fun i j bi bj hi hj Io=>?_,fun i es hi=>?_,h.Qq,fun p=>ij.move (fy.kl _) hm (h.ctx p),h.tb⟩
 ·by_cases e:i=id
  ·subst e;simp only[ck,aj]at va;subst va;unfold Sj;simp only[ck];refine⟨hB0,fun o=>h.gok.al3 (ay _) o,cells,et,Ld _ _,ay _,?_⟩;have:=hh.move (fy.kl G) hm;cases b'<;>exact this
  simp only[gu _ _ _ _ e]at va;have k:=h.da i _ va;exact k.move (fy.kl _) hm (Ax _ _ _ k.lt) k.2.1 (gu _ _ _ _ e) (gu _ _ _ _ e)
 ·have lt:∀i b,s.da i=some b→E.b i≠w.heap.size:=fun i b hi=>by have:=(h.da i b hi).lt;omega
  by_cases ei:i=id
  ·subst ei;have ej:j≠i:=fun e=>Io e.symm;simp only[gu _ _ _ _ ej]at hj;simp only[ck,gu _ _ _ _ ej];exact fun e=>lt j bj hj e.symm
  simp only[gu _ _ _ _ ei]at hi⊢;by_cases ej:j=id
  ·subst ej;simp only[ck];exact lt i bi hi
  simp only[gu _ _ _ _ ej]at hj⊢;exact h.inj i j bi bj hi hj Io
 obtain⟨h1,h2,ents,clock,h3,h4,h5,h6⟩:=h.mp i es hi;exact⟨h1,h2,ents,clock,(Ax _ _ _ (ig.1 h3).1).trans h3,h4,fun i e x hx hy=>⟨(h5 i e x hx hy).1,ij.Dj (fy.kl _) hm (h5 i e x hx hy).2⟩,h6⟩
end
section
variable{B0 nt:Nat}{w0 w w':World}{G0 G G':fy}{s s':PS}{E E':Env}{a:Act}
def Z1(G' G:fy)(E:Env)(s:PS)(id:Nat):Prop:=
 (∀sz dd av v,s.da id=some (.arr sz dd)→s.av id=av→ij G E s (.ref id av dd.length) v→gj G' (.ft sz dd) v)∧
 (∀es ds av v,s.mp id=some es→Ys es=some ds→s.av id=av→ij G E s (.kj id av) v→gj G' (.map ds) v)
def PS.Hy(i:Nat)(s:PS):PS:={s with da:=lb s.da i none,mp:=lb s.mp i none}
theorem PS.Ln(i:Nat)(r:List Nat)(s:PS):s.ta (i::r)=(s.Hy i).ta r:=rfl
theorem Hk.Hy(id:Nat):Hk E E s (s.Hy id):=by
 refine⟨fun i=>ay _,fun i sz T4 _ va=>?_,fun i b1 _ va hva=>?_,fun i _ hp=>?_⟩
 ·by_cases e:i=id
  ·subst e;simp[PS.Hy,PS.Cz,ck]at va
  simp only[PS.Hy,PS.Cz,gu _ _ _ _ e]at va;exact⟨T4,va,ay _,fun _=>⟨rfl,rfl⟩⟩
 ·by_cases e:i=id
  ·subst e;simp[PS.Hy,ck]at va
  simp only[PS.Hy,gu _ _ _ _ e]at va;exact⟨⟨b1,va,hva⟩,rfl⟩
 by_cases e:i=id
 ·subst e;simp[PS.Hy,ck]at hp
 simp only[PS.Hy,gu _ _ _ _ e]at hp;exact⟨hp,rfl⟩
theorem ap0:∀{es:List (D×C)} {ds:List (D×D)},Ys es=some ds→es=ds.map fun e=>(e.1,.d e.2):=by
 intro es
 induction es with
 |nil=>intro ds h;simp only[Ys,aj]at h;subst h;rfl
 |cons e r ih=>
  intro ds h;obtain⟨k,c⟩:=e
  cases c with
  |d x=>
   simp only[Ys]at h;split at h
   ·rename_i l hl
    injection h with h
    subst h;rw[ih hl];rfl
   cases h
  |ref _ _ _=>cases h
  |kj _ _=>cases h
  |ptr _ _ _=>cases h
theorem j9.Hy(h:j9 B0 w0 nt G0 s G E a w)(id:Nat):∃G',G.le G'∧j9 B0 w0 nt G0 (s.Hy id) G' E a w∧Z1 G' G E s id:=by
 classical
 let G':fy:=
  {cv:=fun b o=>match s.da id with
    |some (.arr sz dd)=>if b=E.b id∧o<dd.length*sz then w.cell? ⟨b,o,none⟩else G.cv b o
    |_=>G.cv b o
   mv:=fun b=>match s.mp id with
    |some _=>if b=E.m id then(match w.heap[b]? with|some (.map ents _)=>some (ents.toList.map fun(e:MapEntry)=>(e.key,e.val))|_=>none)else G.mv b
    |none=>G.mv b}
 have hcv:∀b o,b≠E.b id→G'.cv b o=G.cv b o:=by
  intro b o hb
  show(match s.da id with|some (.arr sz dd)=>if b=E.b id∧o<dd.length*sz then w.cell? ⟨b,o,none⟩else G.cv b o|_=>G.cv b o)=_
  split
  ·rw[al (fun h=>hb h.1)]
  rfl
 have hle:G.le G':=by
  refine⟨fun b o v hv=>?_,fun b es hv=>?_⟩
  ·show(match s.da id with|some (.arr sz dd)=>if b=E.b id∧o<dd.length*sz then w.cell? ⟨b,o,none⟩else G.cv b o|_=>G.cv b o)=_
   split
   ·split
    ·exact h.gok.cv b o v hv
    exact hv
   exact hv
  show(match s.mp id with|some _=>if b=E.m id then(match w.heap[b]? with|some (.map ents _)=>some (ents.toList.map fun(e:MapEntry)=>(e.key,e.val))|_=>none)else G.mv b|none=>G.mv b)=_
  split
  ·split
   ·obtain⟨ents,clock,h1,h2⟩:=h.gok.mv b es hv;rw[h1];simp[h2]
   exact hv
  exact hv
 have hok:GOk G' w:=by
  refine⟨fun b o v hv=>?_,fun b es hv=>?_⟩
  ·change(match s.da id with|some (.arr sz dd)=>if b=E.b id∧o<dd.length*sz then w.cell? ⟨b,o,none⟩else G.cv b o|_=>G.cv b o)=_ at hv
   split at hv
   ·split at hv
    ·exact hv
    exact h.gok.cv b o v hv
   exact h.gok.cv b o v hv
  change(match s.mp id with|some _=>if b=E.m id then(match w.heap[b]? with|some (.map ents _)=>some (ents.toList.map fun(e:MapEntry)=>(e.key,e.val))|_=>none)else G.mv b|none=>G.mv b)=_ at hv
  split at hv
  ·split at hv
   ·split at hv
    ·rename_i ents clock hh
     injection hv with hv
     exact⟨ents,clock,hh,hv⟩
    cases hv
   exact h.gok.mv b es hv
  exact h.gok.mv b es hv
 have hm:=Hk.Hy (E:=E) (s:=s) id
 have hblk:∀i b,(s.Hy id).da i=some b→i≠id∧s.da i=some b:=by
  intro i b hb;by_cases e:i=id
  ·subst e;simp[PS.Hy,ck]at hb
  simp only[PS.Hy,gu _ _ _ _ e]at hb;exact⟨e,hb⟩
 have hmp:∀i es,(s.Hy id).mp i=some es→i≠id∧s.mp i=some es:=by
  intro i b hb;by_cases e:i=id
  ·subst e;simp[PS.Hy,ck]at hb
  simp only[PS.Hy,gu _ _ _ _ e]at hb;exact⟨e,hb⟩
 refine⟨G',hle,⟨h.size,h.defers,h.base,h.below,hok,fy.a03 h.gle hle,⟨fun b o hb=>?_,fun b hb=>?_⟩,fun t=>ij.move hle hm (h.tmp t),fun i b hb=>?_,fun i j bi bj hi hj Io=>?_,fun i es hi=>?_,fun i j bi bj hi hj Io=>?_,fun p=>ij.move hle hm (h.ctx p),h.tb⟩,?_⟩
 ·rw[←h.Ip.1 b o hb]
  show(match s.da id with|some (.arr sz dd)=>if b=E.b id∧o<dd.length*sz then w.cell? ⟨b,o,none⟩else G.cv b o|_=>G.cv b o)=_
  split
  ·rename_i sz dd hs;have:=(h.da id _ hs).1;rw[al (fun h=>by omega)]
  rfl
 ·rw[←h.Ip.2 b hb]
  show(match s.mp id with|some _=>if b=E.m id then(match w.heap[b]? with|some (.map ents _)=>some (ents.toList.map fun(e:MapEntry)=>(e.key,e.val))|_=>none)else G.mv b|none=>G.mv b)=_
  split
  ·rename_i es hs;have:=(h.mp id es hs).1;rw[al (by omega)]
  rfl
 ·obtain⟨e,hb⟩:=hblk i b hb;have k:=h.da i b hb;refine k.move hle hm rfl (fun o=>?_) rfl rfl
  show(match s.da id with|some (.arr sz dd)=>if E.b i=E.b id∧o<dd.length*sz then w.cell? ⟨E.b i,o,none⟩else G.cv (E.b i) o|_=>G.cv (E.b i) o)=_
  split
  ·rename_i sz dd hs;rw[al (fun h'=>h.inj i id b _ hb hs e h'.1)];exact k.2.1 o
  exact k.2.1 o
 ·exact h.inj i j bi bj (hblk i bi hi).2 (hblk j bj hj).2 Io
 ·obtain⟨e,hi⟩:=hmp i es hi;obtain⟨h1,h2,ents,clock,h3,h4,h5,h6⟩:=h.mp i es hi;refine⟨h1,?_,ents,clock,h3,h4,fun i e x hx hy=>⟨(h5 i e x hx hy).1.mono hle,ij.Dj hle hm (h5 i e x hx hy).2⟩,h6⟩
  show(match s.mp id with|some _=>if E.m i=E.m id then _ else G.mv (E.m i)|none=>G.mv (E.m i))=_
  split
  ·rename_i es' hs;rw[al (h.Qq i id es es' hi hs e)];exact h2
  exact h2
 ·exact h.Qq i j bi bj (hmp i bi hi).2 (hmp j bj hj).2 Io
 refine⟨fun sz dd av v hs hv hr=>?_,fun es ds av v hs hds hv hr=>?_⟩
 ·obtain⟨_,h2⟩:=hr;obtain⟨_,k2⟩:=h2 hv sz dd.length (vb hs);obtain⟨cap,e1,e2,rfl⟩:=k2 rfl;obtain⟨_,_,cells,et,h3,h4,h5,h6,h7⟩:=h.da id _ hs
  have Ke:∀o,o<dd.length*sz→G'.cv (E.b id) o=w.cell? ⟨E.b id,o,none⟩:=by
   intro o ho
   show(match s.da id with|some (.arr sz dd)=>if E.b id=E.b id∧o<dd.length*sz then w.cell? ⟨E.b id,o,none⟩else G.cv (E.b id) o|_=>G.cv (E.b id) o)=_
   rw[hs];simp only[];rw[bm ⟨trivial,ho⟩]
  have hw:∀o,w.cell? ⟨E.b id,o,none⟩=cells[o]? :=by
   intro o;simp[aKc,h3]
  have hlt:∀i j,i<dd.length→j<sz→i*sz+j<dd.length*sz:=by
   intro i j hi hj;have:(i+1)*sz≤dd.length*sz:=fa _ hi;rw[ji]at this;omega
  refine gj.ft e2 h6 (fun i j hi hj=>?_) (fun i e j x v he hx hv=>?_)
  ·have:=hlt i j hi hj;rw[fj,Ke _ this,hw,bd (by omega)];rfl
  have hil:i<dd.length:=(aw.1 he).1
  have hjl:j<sz:=by have:=h6 i e he;have:=(aw.1 hx).1;omega
  rw[fj,Ke _ (hlt i j hil hjl),hw]at hv;exact(h7 i e j x v he hx hv).mono hle
 obtain⟨_,h2⟩:=hr;have e:=h2 hv (by rw[hs];rfl);subst e;have hm:=ap0 hds;subst hm;obtain⟨h1,_,ents,clock,h3,h4,h5,_⟩:=h.mp id _ hs
 have hmv:G'.mv (E.m id)=some (ents.toList.map fun(e:MapEntry)=>(e.key,e.val)):=by
  show(match s.mp id with|some _=>if E.m id=E.m id then(match w.heap[E.m id]? with|some (.map ents _)=>some (ents.toList.map fun(e:MapEntry)=>(e.key,e.val))|_=>none)else G.mv (E.m id)|none=>G.mv (E.m id))=_
  rw[hs,h3];simp
 refine gj.map hmv (by simpa using h4) (fun i e f he hf=>?_) (fun i e f he hf=>?_)
 all_goals
  simp only[cw,ao]at hf;obtain⟨x,hx,rfl⟩:=hf;have:=h5 i (e.1,.d e.2) x (by simp[he]) (by simpa using hx)
 ·exact this.1.mono hle
 exact gj.mono hle this.2
theorem j9.ta:∀(ids:List Nat) {s:PS} {G:fy},j9 B0 w0 nt G0 s G E a w→∃G',G.le G'∧j9 B0 w0 nt G0 (s.ta ids) G' E a w∧∀id∈ids,Z1 G' G E s id:=by
 intro ids
 induction ids with
 |nil=>exact fun h=>⟨_,fy.kl _,h,fun id hid=>by cases hid⟩
 |cons i r ih=>
  intro s G h;obtain⟨G1,l1,h1,g1⟩:=h.Hy i;obtain⟨G2,l2,h2,g2⟩:=ih h1;refine⟨G2,fy.a03 l1 l2,h2,fun id hid=>?_⟩
  have first:Z1 G2 G E s i:=⟨fun sz dd av v a b c=>(g1.1 sz dd av v a b c).mono l2,fun es ds av v a b c d=>(g1.2 es ds av v a b c d).mono l2⟩
  by_cases e:id=i
  ·subst e;exact first
  have aDs:id∈r:=by
   cases hid with
   |head=>exact absurd rfl e
   |tail _ h=>exact h
  have g:=g2 id aDs;refine⟨fun sz dd av v hb hv hr=>?_,fun es ds av v hb hd hv hr=>?_⟩
  ·exact g.1 sz dd av v (by simp only[PS.Hy,gu _ _ _ _ e];exact hb) hv (ij.move l1 (Hk.Hy i) hr)
  exact g.2 es ds av v (by simp only[PS.Hy,gu _ _ _ _ e];exact hb) hd hv (ij.move l1 (Hk.Hy i) hr)
theorem xm{id av sz:Nat}{dd:List (List D)}(h:s.dd id av=some (sz,dd)):s.av id=av∧s.da id=some (.arr sz dd):=by
 unfold PS.dd at h;split at h
 ·rename_i hv;split at h
  ·rename_i sz' T4 hb
   injection h with h
   injection h with h1 h2
   subst h1 h2;exact⟨hv,hb⟩
  cases h
 cases h
theorem Ju{id av sz:Nat}{dd:List (List C)}(h:s.elc id av=some (sz,dd)):s.av id=av∧∃b,s.da id=some b∧b.Cz=some (sz,dd.length)∧
  ((∃ds,b= .arr sz ds∧dd=ds.map fun e=>e.map .d)∨b= .qq sz dd):=by
 unfold PS.elc at h;split at h
 ·rename_i hv;split at h
  ·rename_i sz' ds hb;simp only[aj,br]at h;obtain⟨rfl,rfl⟩:=h;exact⟨hv,_,hb,by simp[B.Cz],.inl ⟨ds,rfl,rfl⟩⟩
  ·rename_i sz' T4 hb;simp only[aj,br]at h;obtain⟨rfl,rfl⟩:=h;exact⟨hv,_,hb,rfl,.inr rfl⟩
  cases h
 cases h
theorem G5{id av sz n:Nat}(h:s.Iw id av=some (sz,n)):s.av id=av∧s.Cz id=some (sz,n):=by
 unfold PS.Iw at h;split at h
 ·rename_i hv;split at h
  ·rename_i b hb;exact⟨hv,(vb hb).trans h⟩
  cases h
 cases h
theorem ajd{id av sz:Nat}{dd:List (List D)}(h:s.dd id av=some (sz,dd)):s.Iw id av=some (sz,dd.length):=by
 obtain⟨h1,h2⟩:=xm h;unfold PS.Iw;rw[bm h1,h2];rfl
theorem a5z{id av sz:Nat}{dd:List (List D)}(h:s.dd id av=some (sz,dd)):s.elc id av=some (sz,dd.map fun e=>e.map .d):=by
 obtain⟨h1,h2⟩:=xm h;unfold PS.elc;rw[bm h1,h2]
theorem aya{id sz n:Nat}(h:s.Cz id=some (sz,n)):∃b,s.da id=some b∧b.Cz=some (sz,n):=by
 unfold PS.Cz at h
 cases hb:s.da id with
 |none=>rw[hb]at h;cases h
 |some b=>rw[hb]at h;exact⟨b,rfl,h⟩
theorem tv{id av:Nat}{cs:List C}(h:s.cs id av=some cs):s.av id=av∧s.da id=some (.loc cs):=by
 unfold PS.cs at h;split at h
 ·rename_i hv;split at h
  ·rename_i cs' hb
   injection h with h
   subst h;exact⟨hv,hb⟩
  cases h
 cases h
theorem F3{id av:Nat}{es:List (D×C)}(h:s.ents id av=some es):s.av id=av∧s.mp id=some es:=by
 unfold PS.ents at h;split at h
 ·rename_i hv;exact⟨hv,h⟩
 cases h
theorem a4c{c:C}{x:D}{ids:List Nat}{u:Value}(hp:Pv s c=some (x,ids))(hc:xv G E s c u)(hle:G.le G')(hg:∀id∈ids,Z1 G' G E s id):gj G' x u:=by
 cases c with
 |d y=>
  simp only[Pv,aj,br]at hp;obtain⟨rfl,rfl⟩:=hp;exact gj.mono hle hc
 |ref id av len=>
  simp only[Pv]at hp;split at hp
  ·rename_i sz dd he;split at hp
   ·rename_i hl;simp only[aj,br]at hp;obtain⟨rfl,rfl⟩:=hp;obtain⟨e1,e2⟩:=xm he;subst hl;exact(hg id (by simp)).1 sz dd av u e2 e1 hc
   cases hp
  cases hp
 |kj id av=>
  simp only[Pv]at hp;split at hp
  ·rename_i es he;simp only[ao,br]at hp;obtain⟨ds,hds,rfl,rfl⟩:=hp;obtain⟨e1,e2⟩:=F3 he;exact(hg id (by simp)).2 es ds av u e2 hds e1 hc
  cases hp
 |ptr id av off=>cases hp
theorem a9d:∀{cs:List C} {ds:List D} {ids:List Nat},Ot s cs=some (ds,ids)→ds.length=cs.length∧
  (G.le G'→(∀id∈ids,Z1 G' G E s id)→∀(i:Nat) (c:C) (x:D) (u:Value),cs[i]? =some c→ds[i]? =some x→xv G E s c u→gj G' x u):=by
 intro cs
 induction cs with
 |nil=>intro ds ids h;simp only[Ot,aj,br]at h;obtain⟨rfl,rfl⟩:=h;exact⟨rfl,by simp⟩
 |cons c r ih=>
  intro ds ids h;simp only[Ot]at h;split at h
  ·rename_i x i l j h1 h2;simp only[aj,br]at h;obtain⟨rfl,rfl⟩:=h;obtain⟨k1,k2⟩:=ih h2;refine⟨by simp[k1],fun hle hg n c' x' u hc hx hr=>?_⟩
   cases n with
   |zero=>
    simp only[dm,aj]at hc hx;subst hc hx;exact a4c h1 hr hle fun id hid=>hg id (aae _ hid)
   |succ n=>
    simp only[gl]at hc hx;exact k2 hle (fun id hid=>hg id (V3 _ hid)) n c' x' u hc hx hr
  cases h
end
def full(w:World):fy where
 cv b o:=w.cell? ⟨b,o,none⟩
 mv b:=match w.heap[b]? with
  |some (.map ents _)=>some (ents.toList.map fun(e:MapEntry)=>(e.key,e.val))
  |_=>none
theorem GOk.ay2(w:World):GOk (full w) w where
 cv _ _ _ h:=h
 mv b es h:=by
  unfold full at h;simp only at h;split at h
  ·rename_i ents clock hh
   injection h with h
   exact⟨ents,clock,hh,h⟩
  cases h
theorem GOk.Us{G:fy}{w:World}(h:GOk G w):G.le (full w)where
 cv:=h.cv
 mv b es he:=by
  obtain⟨ents,clock,h1,h2⟩:=h.mv b es he;simp only[full,h1,h2]
section
variable{B0 nt:Nat}{w0 w w':World}{G0 G G':fy}{s s':PS}{E E':Env}{a:Act}
theorem R9:∀{cs:List C} {ds:List D},Om cs=some ds→cs=ds.map .d:=by
 intro cs
 induction cs with
 |nil=>intro ds h;simp only[Om,aj]at h;subst h;rfl
 |cons c r ih=>
  intro ds h
  cases c with
  |d x=>
   simp only[Om]at h;split at h
   ·rename_i l hl
    injection h with h
    subst h;rw[ih hl];rfl
   cases h
  |ref _ _ _=>cases h
  |kj _ _=>cases h
  |ptr _ _ _=>cases h
theorem Yz(ds:List D):Om (ds.map .d)=some ds:=by
 induction ds with
 |nil=>rfl
 |cons x r ih=>simp[Om,ih]
theorem j9.xp(h:j9 B0 w0 nt G0 s G E a w){id:Nat}{b:B}(hb:s.da id=some b):∃cells et,w.heap[E.b id]? =some (.cells cells et (0,0))∧E.n id≤cells.size∧Holds G E s cells b∧∀o,w.cell? ⟨E.b id,o,none⟩=cells[o]? :=by
 obtain⟨_,_,cells,et,h3,h4,h5⟩:=h.da id b hb;refine⟨cells,et,h3,h4,?_,fun o=>by simp[aKc,h3]⟩;cases b<;>exact h5
theorem Y0{α:Type}:∀{l:List (Option α)} {r:List α},N9 l=some r→r.length=l.length∧∀(i:Nat) (x:α),r[i]? =some x→l[i]? =some (some x):=by
 intro l
 induction l with
 |nil=>intro r h;simp only[N9,aj]at h;subst h;simp
 |cons y l ih=>
  intro r h;simp only[N9]at h;split at h
  ·rename_i x l' h2
   injection h with h
   subst h;obtain⟨k1,k2⟩:=ih h2;refine⟨by simp[k1],fun i x hx=>?_⟩
   cases i with
   |zero=>simp at hx⊢;rw[hx]
   |succ i=>simp at hx⊢;exact k2 i x hx
  cases h
theorem Holds.elc{cells:Array Value}{b:B}{sz:Nat}{dd:List (List C)}(h:Holds G E s cells b)(hb:(∃ds,b= .arr sz ds∧dd=ds.map fun e=>e.map .d)∨b= .qq sz dd):
  dd.length*sz≤cells.size∧(∀(i:Nat) (e:List C),dd[i]? =some e→e.length=sz)∧
   ∀(i:Nat) (e:List C) (j:Nat) (c:C) (u:Value),dd[i]? =some e→e[j]? =some c→cells[i*sz+j]? =some u→xv G E s c u:=by
 rcases hb with ⟨ds,rfl,rfl⟩|rfl
 ·obtain⟨h1,h2,h3⟩:=h;refine⟨by simpa using h1,fun i e he=>?_,fun i e j c u he hc hu=>?_⟩
  ·simp only[cw,ao]at he;obtain⟨e',he',rfl⟩:=he;simpa using h2 i e' he'
  simp only[cw,ao]at he;obtain⟨e',he',rfl⟩:=he;simp only[cw,ao]at hc;obtain⟨x,hx,rfl⟩:=hc;exact h3 i e' j x u he' hx hu
 exact h
theorem Zq{i j n sz:Nat}(hi:i<n)(hj:j<sz):i*sz+j<n*sz:=by
 have:(i+1)*sz≤n*sz:=fa _ hi;rw[ji]at this;omega
theorem j9.agb(h:j9 B0 w0 nt G0 s G E a w):∀(n:Nat) {c:C} {d:D} {v:Value},deep s n c=some d→xv G E s c v→gj (full w) d v:=by
 intro n
 induction n with
 |zero=>
  intro c d v hs hv
  cases c with
  |d x=>simp only[deep,aj]at hs;subst hs;exact gj.mono h.gok.Us hv
  |ref _ _ _=>simp[deep]at hs
  |kj _ _=>simp[deep]at hs
  |ptr _ _ _=>simp[deep]at hs
 |succ n ih=>
  intro c d v hs hv
  cases c with
  |d x=>simp only[deep,aj]at hs;subst hs;exact gj.mono h.gok.Us hv
  |ref id av len=>
   simp only[deep]at hs;split at hs
   ·rename_i sz dd he;split at hs
    ·rename_i hl;simp only[ao]at hs;obtain⟨ds,hds,rfl⟩:=hs;obtain⟨k1,k2⟩:=Y0 hds;simp only[ag]at k1;obtain⟨e1,b,e2,e3,e4⟩:=Ju he;obtain⟨_,q⟩:=hv.2 e1 sz dd.length ((vb e2).trans e3);obtain⟨cap,c1,c2,rfl⟩:=q hl;obtain⟨cells,et,h3,h4,hh,hw⟩:=h.xp e2;obtain⟨h5,h6,h7⟩:=hh.elc e4
     have row:∀(i:Nat) (e:List D),ds[i]? =some e→∃e',dd[i]? =some e'∧e.length=e'.length∧∀(j:Nat) (x:D),e[j]? =some x→∃c,e'[j]? =some c∧deep s n c=some x:=by
      intro i e hi;have:=k2 i e hi;simp only[cw,ao]at this;obtain⟨e',he',hr⟩:=this;obtain⟨r1,r2⟩:=Y0 hr;refine⟨e',he',by simpa using r1,fun j x hx=>?_⟩;have:=r2 j x hx;simp only[cw,ao]at this;exact this
     subst hl;rw[←k1];refine gj.ft (by omega) (fun i e hi=>?_) (fun i j hi hj=>?_) (fun i e j x v hi hx hv=>?_)
     ·obtain⟨e',q1,q2,_⟩:=row i e hi;rw[q2];exact h6 i e' q1
     ·show(w.cell? _).isSome;have:=Zq (n:=dd.length) (by omega:i<dd.length) hj;rw[fj,hw,bd (by omega)];rfl
     have hv':w.cell? ⟨E.b id,0+i*sz+j,none⟩=some v:=hv;rw[fj,hw]at hv';obtain⟨e',q1,_,q3⟩:=row i e hi;obtain⟨c,q4,q5⟩:=q3 j x hx;exact ih q5 (h7 i e' j c v q1 q4 hv')
    cases hs
   cases hs
  |kj id av=>
   simp only[deep]at hs;split at hs
   ·rename_i es he;simp only[ao]at hs;obtain⟨ds,hds,rfl⟩:=hs;obtain⟨k1,k2⟩:=Y0 hds;simp only[ag]at k1;obtain⟨e1,e2⟩:=F3 he;have:=hv.2 e1 (by rw[e2];rfl);subst this;obtain⟨h1,_,ents,clock,h3,h4,h5,_⟩:=h.mp id es e2;refine gj.map (fs:=ents.toList.map fun(e:MapEntry)=>(e.key,e.val)) (by simp only[full,h3]) (by simpa using h4.trans k1.symm) (fun i e f he hf=>?_) (fun i e f he hf=>?_)
    all_goals
     simp only[cw,ao]at hf;obtain⟨x,hx,rfl⟩:=hf;have hd:=k2 i e he;simp only[cw,ao]at hd;obtain⟨e',hi,y,hy,rfl⟩:=hd;have:=h5 i e' x hi (by simpa using hx)
    ·exact this.1.mono h.gok.Us
    exact ih hy this.2
   cases hs
  |ptr _ _ _=>simp[deep]at hs
theorem j9.Qj(h:j9 B0 w0 nt G0 s G E a w){c:C}{d:D}{v:Value}(hs:rb s c=some d)(hv:xv G E s c v):gj (full w) d v:=by
 cases c with
 |d y=>simp only[rb,aj]at hs;subst hs;exact gj.mono h.gok.Us hv
 |ref id av len=>
  simp only[rb]at hs;split at hs
  ·rename_i sz dd he;split at hs
   ·rename_i hl
    injection hs with hs
    subst hs hl;obtain⟨e1,e2⟩:=xm he;obtain⟨_,k2⟩:=hv.2 e1 sz dd.length (vb e2);obtain⟨cap,c1,c2,rfl⟩:=k2 rfl;obtain⟨cells,et,h3,h4,hh,hw⟩:=h.xp e2;obtain⟨h5,h6,h7⟩:=hh;refine gj.ft c2 h6 (fun i j hi hj=>?_) (fun i e j x v he hx hv=>?_)
    ·show(w.cell? _).isSome;have:=Zq hi hj;rw[fj,hw,bd (by omega)];rfl
    have hv':w.cell? ⟨E.b id,0+i*sz+j,none⟩=some v:=hv;rw[fj,hw]at hv';exact(h7 i e j x v he hx hv').mono h.gok.Us
   cases hs
  exact h.agb 6 hs hv
 |kj id av=>exact h.agb 6 hs hv
 |ptr id av off=>cases hs
theorem W6:∀{cs:List C} {ds:List D},nj s cs=some ds→ds.length=cs.length∧∀(i:Nat) (c:C) (d:D),cs[i]? =some c→ds[i]? =some d→rb s c=some d:=by
 intro cs
 induction cs with
 |nil=>intro ds h;simp only[nj,aj]at h;subst h;exact⟨rfl,by simp⟩
 |cons c r ih=>
  intro ds h;simp only[nj]at h;split at h
  ·rename_i x l h1 h2
   injection h with h
   subst h;obtain⟨k1,k2⟩:=ih h2;refine⟨by simp[k1],fun i c' d hc hd=>?_⟩
   cases i with
   |zero=>simp at hc hd;subst hc hd;exact h1
   |succ i=>simp at hc hd;exact k2 i c' d hc hd
  cases h
theorem j9.a3a(h:j9 B0 w0 nt G0 s G E a w){id av:Nat}{cs:List C}{ds:List D}(hc:s.cs id av=some cs)(hd:nj s cs=some ds)(off:Nat):
  gj (full w) (.te ds off) (.pointer (some ⟨E.b id,off,none⟩)):=by
 obtain⟨_,hb⟩:=tv hc;obtain⟨cells,et,_,_,hh,hw⟩:=h.xp hb;obtain⟨e1,e2⟩:=W6 hd;have hl:=hh.1
 have k:=gj.te (G:=full w) (cells:=ds) (b:=E.b id) (o:=0) (off:=off) (fun j hj=>by
  show(w.cell? _).isSome;rw[fj,hw,bd (by omega)]
  rfl) (fun j x v hx hv=>by
  have hv':cells[j]? =some v:=by
   have:w.cell? ⟨E.b id,0+j,none⟩=some v:=hv
   rwa[fj,hw]at this
  have hj:j<cs.length:=by have:=(aw.1 hx).1;omega
  have:=hh.2 j cs[j] v (ax hj) hv'
  exact h.Qj (e2 j _ x (ax hj) hx) this)
 rwa[fj]at k
theorem ap5{α:Type}:∀{n sz:Nat} {ds:List α},n*sz≤ds.length→(chunks sz n ds).length=n∧∀(i:Nat) (e:List α),(chunks sz n ds)[i]? =some e→e.length=sz∧∀(j:Nat) (x:α),e[j]? =some x→ds[i*sz+j]? =some x:=by
 intro n
 induction n with
 |zero=>intro sz ds _;exact⟨rfl,by simp[chunks]⟩
 |succ n ih=>
  intro sz ds hl;rw[ji]at hl;obtain⟨k1,k2⟩:=ih (sz:=sz) (ds:=ds.drop sz) (by simp;omega);refine⟨by simp[chunks,k1],fun i e hi=>?_⟩
  cases i with
  |zero=>
   simp only[chunks,dm,aj]at hi;subst hi;refine⟨by simp;omega,fun j x hx=>?_⟩;rw[jo]at hx;split at hx
   ·simpa using hx
   cases hx
  |succ i=>
   simp only[chunks,gl]at hi;obtain⟨q1,q2⟩:=k2 i e hi;refine⟨q1,fun j x hx=>?_⟩;have:=q2 j x hx;rw[oo]at this;rw[←this,ji]
   congr 1
   omega
theorem j9.a3q(h:j9 B0 w0 nt G0 s G E a w){x:V}{d:D}{v:Value}(hs:snap s x=some d)(hv:ij G E s x v):gj (full w) d v:=by
 cases x with
 |d y=>simp only[snap,aj]at hs;subst hs;exact gj.mono h.gok.Us hv
 |ref id av len=>exact h.Qj (c:= .ref id av len) hs hv
 |kj id av=>exact h.Qj (c:= .kj id av) hs hv
 |ic id av off=>
  simp only[snap]at hs;split at hs
  ·rename_i cs hc;simp only[ao]at hs;obtain⟨ds,hd,rfl⟩:=hs;obtain⟨e1,e2⟩:=tv hc;have:=hv.2 e1 ⟨_,e2,rfl⟩;subst this;exact h.a3a hc hd off
  cases hs
 |Hf id av ln i off=>cases hs
 |nu f ids=>
  have key:∀p∈ids,∀cs,s.cs p.1 p.2=some cs→s.av p.1=p.2∧∃b,s.da p.1=some b∧b.isVar=true:=fun p _ cs hc=>⟨(tv hc).1,_,(tv hc).2,rfl⟩
  match ids,hs,hv,key with
  |[(id,av)],hs,hv,key=>
   simp only[snap]at hs;split at hs
   ·rename_i cs hc;simp only[ao]at hs;obtain⟨ds,hd,rfl⟩:=hs;have:=hv.2 (by intro p hp;simp only[X7]at hp;subst hp;exact key _ (by simp) cs hc);subst this;refine gj.nu (by simp) fun i x v hx hv=>?_
    match i,hx,hv with
    |0,hx,hv=>
     simp at hx hv;subst hx hv;exact h.a3a hc hd 0
    |i+1,hx,hv=>simp at hx
   cases hs
  |[(id,av),(id',a7d)],hs,hv,key=>
   simp only[snap]at hs;split at hs
   ·rename_i cs cs' hc hc';split at hs
    ·rename_i ds ds' hd hd'
     injection hs with hs
     subst hs
     have:=hv.2 (by
      intro p hp;simp only[dq,kh,or_false]at hp;rcases hp with rfl|rfl
      ·exact key _ (by simp) cs hc
      exact key _ (by simp) cs' hc')
     subst this;refine gj.nu (by simp) fun i x v hx hv=>?_
     match i,hx,hv with
     |0,hx,hv=>
      simp at hx hv;subst hx hv;exact h.a3a hc hd 0
     |1,hx,hv=>
      simp at hx hv;subst hx hv;exact h.a3a hc' hd' 0
     |i+2,hx,hv=>simp at hx
    cases hs
   cases hs
 |agg cs=>
  simp only[snap,ao]at hs;obtain⟨ds,hd,rfl⟩:=hs;obtain⟨vs,rfl,e2,e3⟩:=Eu.1 hv;obtain⟨k1,k2⟩:=W6 hd;refine gj.agg (by omega) fun i x u hx hu=>?_
  have hi:i<cs.length:=by have:=(aw.1 hx).1;omega
  exact h.Qj (k2 i _ x (ax hi) hx) (e3 i _ u (ax hi) hu)
 |Aa cs=>cases hs
 |Ka id av ln n=>
  simp only[snap]at hs;split at hs
  ·rename_i cs hc;split at hs
   ·rename_i ds hd;split at hs
    ·rename_i hl
     injection hs with hs
     subst hs;obtain⟨e1,e2⟩:=tv hc;have:=hv.2 e1 ⟨_,e2,rfl⟩;subst this;obtain⟨cells,et,_,_,hh,hw⟩:=h.xp e2;obtain⟨q1,q2⟩:=W6 hd;have hcl:=hh.1;have k:=ap5 (ds:=ds) (sz:=n) (n:=ln) (by omega)
     have:=gj.ft (G:=full w) (sz:=n) (l:=chunks n ln ds) (b:=E.b id) (o:=0) (c:=ln) (by rw[k.1];exact ay _) (fun i e hi=>(k.2 i e hi).1) (fun i j hi hj=>by
      show(w.cell? _).isSome;rw[k.1]at hi;have:=Zq hi hj;rw[fj,hw,bd (by omega)]
      rfl) (fun i e j x v hi hx hv=>by
      have hv':w.cell? ⟨E.b id,0+i*n+j,none⟩=some v:=hv;rw[fj,hw]at hv';have hx':=(k.2 i e hi).2 j x hx
      have hlt:i*n+j<cs.length:=by have:=(aw.1 hx').1;omega
      exact h.Qj (q2 _ _ x (ax hlt) hx') (hh.2 _ _ v (ax hlt) hv'))
     rwa[k.1]at this
    cases hs
   cases hs
  cases hs
 |Hg id av m j=>cases hs
 |win _ _ _ _ _=>cases hs
 |no=>cases hs
theorem amk:∀{args:List V} {ds:List D},J0 s args=some ds→ds.length=args.length∧∀(i:Nat) (x:V) (d:D),args[i]? =some x→ds[i]? =some d→snap s x=some d:=by
 intro args
 induction args with
 |nil=>intro ds h;simp only[J0,aj]at h;subst h;simp
 |cons x r ih=>
  intro ds h;simp only[J0]at h;split at h
  ·rename_i d l h1 h2
   injection h with h
   subst h;obtain⟨k1,k2⟩:=ih h2;refine⟨by simp[k1],fun i x' d' hx hd=>?_⟩
   cases i with
   |zero=>simp at hx hd;subst hx hd;exact h1
   |succ i=>simp at hx hd;exact k2 i x' d' hx hd
  cases h
def join(G G':fy)(n:Nat):fy where
 cv b o:=if b<n then G.cv b o else G'.cv b o
 mv b:=if b<n then G.mv b else G'.mv b
theorem j9.a6m(h:j9 B0 w0 nt G0 s G E a w)(hb:Bel (Plain s.ctx) w.heap.size w w'){G':fy}(hle:G.le G')(hok:GOk G' w')(a9v:∀b o,b<w.heap.size→G'.cv b o=G.cv b o)(hsm:∀b,b<w.heap.size→G'.mv b=G.mv b):
  j9 B0 w0 nt G0 s G' E a w':=by
 have hB:B0≤w.heap.size:=by rw[h.base];exact h.below.size
 have hm:Hk E E s s:=⟨fun _=>ay _,fun _ _ n' _ h=>⟨n',h,ay _,fun _=>⟨rfl,rfl⟩⟩,fun _ b _ h hv=>⟨⟨b,h,hv⟩,rfl⟩,fun _ _ h=>⟨h,rfl⟩⟩;refine⟨h.size,h.defers,h.base,h.below.trans (hb.mono hB),hok,fy.a03 h.gle hle,⟨fun b o va=>?_,fun b va=>?_⟩,fun t=>ij.move hle hm (h.tmp t),fun i b hi=>?_,h.inj,fun i es hi=>?_,h.Qq,fun p=>ij.move hle hm (h.ctx p),h.tb⟩
 ·rw[a9v b o (by omega)];exact h.Ip.1 b o va
 ·rw[hsm b (by omega)];exact h.Ip.2 b va
 ·have k:=h.da i b hi;exact k.move hle hm (hb.block _ k.lt) (fun o=>by rw[a9v _ _ k.lt];exact k.2.1 o) rfl rfl
 obtain⟨h1,h2,ents,clock,h3,h4,h5,h6⟩:=h.mp i es hi;have hlt:=(ig.1 h3).1;exact⟨h1,by rw[hsm _ hlt];exact h2,ents,clock,(hb.block _ hlt).trans h3,h4,fun i e x hx hy=>⟨(h5 i e x hx hy).1.mono hle,ij.Dj hle hm (h5 i e x hx hy).2⟩,h6⟩
theorem j9.a1u(h:j9 B0 w0 nt G0 s G E a w)(id:Nat):
  j9 B0 w0 nt G0 {s with mp:=lb s.mp id (some []),av:=lb s.av id (s.av id+1)} G {E with m:=lb E.m id w.heap.size} a (w.alloc (.map #[] 0)):=by
 have hm:Hk E {E with m:=lb E.m id w.heap.size} s {s with mp:=lb s.mp id (some []),av:=lb s.av id (s.av id+1)}:=by
  have hne:∀i,lb s.av id (s.av id+1) i=s.av i→i≠id:=by
   intro i hi e;subst e;rw[ck]at hi;omega
  refine⟨fun i=>?_,fun i sz n' hv va=>⟨n',va,ay _,fun _=>⟨rfl,rfl⟩⟩,fun i b1 hv va hva=>⟨⟨b1,va,hva⟩,rfl⟩,fun i hv hp=>?_⟩
  ·show _≤lb s.av id (s.av id+1) i;by_cases e:i=id
   ·subst e;rw[ck];omega
   rw[gu _ _ _ _ e];exact ay _
  have e:=hne i hv;simp only[gu _ _ _ _ e]at hp;exact⟨hp,gu _ _ _ _ e⟩
 have hB0:B0≤w.heap.size:=by rw[h.base];exact h.below.size
 refine⟨h.size,h.defers,h.base,h.below.alloc hB0 _,h.gok.alloc _,h.gle,h.Ip,fun t=>ij.move (fy.kl _) hm (h.tmp t),fun i b' va=>?_,h.inj,fun i es hi=>?_,fun i j bi bj hi hj Io=>?_,fun p=>ij.move (fy.kl _) hm (h.ctx p),h.tb⟩
 ·have k:=h.da i b' va;exact k.move (fy.kl _) hm (Ax _ _ _ k.lt) k.2.1 rfl rfl
 ·by_cases e:i=id
  ·subst e;simp only[ck,aj]at hi⊢;subst hi;exact⟨hB0,h.gok.aAx (ay _),#[],0,Ld _ _,rfl,by simp,by simp[a0i]⟩
  simp only[gu _ _ _ _ e]at hi⊢;obtain⟨h1,h2,ents,clock,h3,h4,h5,h6⟩:=h.mp i es hi;exact⟨h1,h2,ents,clock,(Ax _ _ _ (ig.1 h3).1).trans h3,h4,fun i e x hx hy=>⟨(h5 i e x hx hy).1,ij.Dj (fy.kl _) hm (h5 i e x hx hy).2⟩,h6⟩
 have lt:∀i b,s.mp i=some b→E.m i≠w.heap.size:=fun i b hi=>by
  obtain⟨_,_,ents,clock,h3,_⟩:=h.mp i b hi;have:=(ig.1 h3).1;omega
 by_cases ei:i=id
 ·subst ei;have ej:j≠i:=fun e=>Io e.symm;simp only[gu _ _ _ _ ej]at hj;simp only[ck,gu _ _ _ _ ej];exact fun e=>lt j bj hj e.symm
 simp only[gu _ _ _ _ ei]at hi⊢;by_cases ej:j=id
 ·subst ej;simp only[ck];exact lt i bi hi
 simp only[gu _ _ _ _ ej]at hj⊢;exact h.Qq i j bi bj hi hj Io
theorem j9.Za(h:j9 B0 w0 nt G0 s G E a w){id:Nat}{es0 es:List (D×C)}(he:s.mp id=some es0){ents:Array MapEntry}{clock:Nat}(ht:A0 w w' (E.m id) (.map ents clock))
  (hl:ents.size=es.length)(hr:∀(i:Nat) (e:D×C) (x:MapEntry),es[i]? =some e→ents[i]? =some x→gj G e.1 x.key∧xv G E s e.2 x.val)(hbo:a0i ents clock):
  j9 B0 w0 nt G0 {s with mp:=lb s.mp id (some es)} G E a w':=by
 have hm:Hk E E s {s with mp:=lb s.mp id (some es)}:=by
  refine⟨fun _=>ay _,fun _ _ n' _ h=>⟨n',h,ay _,fun _=>⟨rfl,rfl⟩⟩,fun _ b _ h hv=>⟨⟨b,h,hv⟩,rfl⟩,fun i _ hp=>⟨?_,rfl⟩⟩;by_cases e:i=id
  ·subst e;rw[he];rfl
  simp only[gu _ _ _ _ e]at hp;exact hp
 obtain⟨m1,m2,aEe,aBr,m3,m4,m5⟩:=h.mp id es0 he
 have hcv:∀o,G.cv (E.m id) o=none:=by
  intro o
  cases hc:G.cv (E.m id) o with
  |none=>rfl
  |some v=>
   have:=h.gok.cv _ _ _ hc;simp[aKc,m3]at this
 refine⟨h.size,h.defers,h.base,h.below.trans (ht.below m1),h.gok.aps ht hcv m2,h.gle,h.Ip,fun t=>ij.move (fy.kl _) hm (h.tmp t),fun i b hb=>?_,h.inj,fun i es' hi=>?_,fun i j bi bj hi hj Io=>?_,fun p=>ij.move (fy.kl _) hm (h.ctx p),h.tb⟩
 ·have k:=h.da i b hb;refine k.move (fy.kl _) hm (ht.other _ fun e=>?_) k.2.1 rfl rfl;obtain⟨_,_,cells,et,h3,_⟩:=k;rw[e,m3]at h3;cases h3
 ·by_cases e:i=id
  ·subst e;simp only[ck,aj]at hi;subst hi;exact⟨m1,m2,ents,clock,ht.at_,hl,fun i e x hx hy=>⟨(hr i e x hx hy).1,ij.Dj (fy.kl _) hm (hr i e x hx hy).2⟩,hbo⟩
  simp only[gu _ _ _ _ e]at hi;obtain⟨h1,h2,aEd,aBq,h3,h4,h5,h6⟩:=h.mp i es' hi;exact⟨h1,h2,aEd,aBq,(ht.other _ (h.Qq i id es' es0 hi he e)).trans h3,h4,fun i e x hx hy=>⟨(h5 i e x hx hy).1,ij.Dj (fy.kl _) hm (h5 i e x hx hy).2⟩,h6⟩
 have un:∀i bi,lb s.mp id (some es) i=some bi→∃b2,s.mp i=some b2:=by
  intro i bi hi;by_cases e:i=id
  ·subst e;exact⟨es0,he⟩
  rw[gu _ _ _ _ e]at hi;exact⟨bi,hi⟩
 obtain⟨b2,h2⟩:=un i bi hi;obtain⟨b3,h3⟩:=un j bj hj;exact h.Qq i j b2 b3 h2 h3 Io
end
theorem Ei(b o n:Nat):(⟨b,o,none⟩:Addr).add n=⟨b,o+n,none⟩:=by
 unfold Addr.add;split<;>simp_all
theorem Z6{P:Program}{t:TypeId}{g:Bool}(hn:Ap P t=some g)(w:World):(isAgg t).run P w= .ok g w:=by
 unfold Ap at hn;unfold isAgg underlying
 cases hd:P.underlying t with
 |none=>rw[hd]at hn;cases hn
 |some d=>
  rw[hd]at hn;simp only[cb,run_program,bh,hd];cases d<;>simp at hn<;>subst hn<;>simp
theorem qx{P:Program}{t:TypeId}{n:Nat}(hn:kn P t=some n)(w:World):(sizeOf t).run P w= .ok n w:=by
 unfold kn at hn;simp only[ao]at hn;obtain⟨i,hi,rfl⟩:=hn;simp[sizeOf,typeInfo,hi]
theorem gj.aem{G:fy}{x:D}{v:Value}(h:gj G x v)(hx:x.one=true):v.oneCell'=true:=by
 cases h<;>first|rfl|cases hx
section
variable{P:Program}{B0 nt:Nat}{w0 w w':World}{G0 G G':fy}{s s':PS}{E E':Env}{a:Act}
theorem Rq{t:TypeId}{n b o:Nat}{g:Bool}{cs:List C}(hs:kn P t=some n)(hg:Ap P t=some g)(h1:g=true∨n=1)(hn:cs.length=n)
  (hc:∀j,j<n→∃u,w.cell? ⟨b,o+j,none⟩=some u∧∀c,cs[j]? =some c→xv G E s c u):
  ∃u,(loadVar t ⟨b,o,none⟩).run P w= .ok u w∧ij G E s (mkv g cs) u:=by
 unfold loadVar;simp only[cb,Z6 hg,bh]
 cases g with
 |true=>
  have hf:∀j,j<n→w.cell? ((⟨b,o,none⟩:Addr).add j)=some ((w.cell? ⟨b,o+j,none⟩).getD undef):=by
   intro j hj;obtain⟨u,hu,_⟩:=hc j hj;rw[Ei,hu];rfl
  simp only[dj,cb,qx hs,bh,run_loadCells w _ n (fun j=>(w.cell? ⟨b,o+j,none⟩).getD undef) hf,eh];refine⟨_,rfl,?_⟩
  have rel:∀(i:Nat) (c:C) (u:Value),cs[i]? =some c→((dn n).map fun j=>(w.cell? ⟨b,o+j,none⟩).getD undef).toArray[i]? =some u→xv G E s c u:=by
   intro i c u hi hu
   have hil:i<n:=by have:=(aw.1 hi).1;omega
   obtain⟨u',hu',hr⟩:=hc i hil;simp only[zh,cw,M5 hil,ir,aj]at hu;rw[hu']at hu;simp only[j6]at hu;subst hu;exact hr c hi
  unfold mkv
  cases hd:Om cs with
  |some ds=>
   have e:=R9 hd;subst e;refine gj.agg (by simp at hn⊢;omega) fun i x v hx hv=>?_;exact rel i (.d x) v (by simp[hx]) hv
  |none=>exact Eu.2 ⟨_,rfl,by simp;omega,rel⟩
 |false=>
  have hn1:n=1:=by simpa using h1
  subst hn1;obtain⟨u,hu,hr⟩:=hc 0 (by omega);rw[Bw]at hu;refine⟨u,by simp[hu],?_⟩
  match cs,hn with
  |[c],_=>
   unfold mkv;simp only[Om];exact hr c rfl
theorem a36{g:Bool}{ds:List D}:mkd g ds=mkv g (ds.map .d):=by
 unfold mkd mkv;rw[Yz];cases g
 ·match ds with
  |[]=>rfl
  |[x]=>rfl
  |_::_::_=>rfl
 rfl
theorem yv(x:Addr)(w:World):(aCc (.pointer (some x))).run P w= .ok x w:=rfl
theorem Wh(h:j9 B0 w0 nt G0 s G E a w){t:TypeId}{n:Nat}{g:Bool}{x y:V}{v:Value}(hs:kn P t=some n)(hg:Ap P t=some g)(h1:g=true∨n=1)
  (hl:Br s n g x=some y)(hv:ij G E s x v):∃u,(aK9 t v).run P w= .ok u w∧ij G E s y u:=by
 unfold aK9
 cases x with
 |ic id av off=>
  simp only[Br]at hl;split at hl
  ·rename_i cs Ie;split at hl
   ·rename_i hle
    injection hl with hl
    subst hl;obtain⟨e1,e2⟩:=tv Ie;have:=hv.2 e1 ⟨_,e2,rfl⟩;subst this;obtain⟨cells,et,_,_,hh,hw⟩:=h.xp e2;simp only[cb,yv,bh];refine Rq hs hg h1 (by simp;omega) fun j hj=>?_
    have hlt:off+j<cells.size:=by have:=hh.1;omega
    refine⟨cells[off+j],by rw[hw,bd hlt],fun c hc=>?_⟩;refine hh.2 (off+j) c _ ?_ (bd hlt);rw[jo,bm hj,oo]at hc;exact hc
   cases hl
  cases hl
 |Hf id av ln i off=>
  simp only[Br]at hl;split at hl
  ·rename_i sz dd he;split at hl
   ·rename_i e hei;split at hl
    ·rename_i hle
     injection hl with hl
     subst hl;obtain⟨e1,e2⟩:=xm he;obtain⟨_,k2⟩:=hv.2 e1 sz dd.length (vb e2);have:=k2 hle.1;subst this;obtain⟨cells,et,_,_,hh,hw⟩:=h.xp e2;obtain⟨h5,h6,h7⟩:=hh;simp only[cb,yv,bh];have hel:=h6 i e hei;have hil:i<dd.length:=(aw.1 hei).1;have hb:(i+1)*sz≤dd.length*sz:=fa _ hil;rw[ji,Bd]at hb;have aDo:=hle.2;rw[a36];refine Rq hs hg h1 (by simp;omega) fun j hj=>?_
     have hlt:i*sz+off+j<cells.size:=by omega
     refine⟨cells[i*sz+off+j],by rw[hw,bd hlt],fun c hc=>?_⟩;rw[cw,jo,bm hj,oo]at hc
     cases hx:e[off+j]? with
     |none=>rw[hx]at hc;cases hc
     |some x=>
      rw[hx]at hc;simp only[ir,aj]at hc;subst hc;exact h7 i e (off+j) x _ hei hx (by rw[←qj];exact bd hlt)
    cases hl
   cases hl
  split at hl
  ·rename_i sz dd he;split at hl
   ·rename_i e hei;split at hl
    ·rename_i hle
     injection hl with hl
     subst hl;obtain⟨e1,b,e2,e3,e4⟩:=Ju he;obtain⟨_,k2⟩:=hv.2 e1 sz dd.length ((vb e2).trans e3);have:=k2 hle.1;subst this;obtain⟨cells,et,_,_,hh,hw⟩:=h.xp e2;obtain⟨h5,h6,h7⟩:=hh.elc e4;simp only[cb,yv,bh];have hel:=h6 i e hei;have hil:i<dd.length:=(aw.1 hei).1;have hb:(i+1)*sz≤dd.length*sz:=fa _ hil;rw[ji,Bd]at hb;have aDo:=hle.2;refine Rq hs hg h1 (by simp;omega) fun j hj=>?_
     have hlt:i*sz+off+j<cells.size:=by omega
     refine⟨cells[i*sz+off+j],by rw[hw,bd hlt],fun c hc=>?_⟩;rw[jo,bm hj,oo]at hc;exact h7 i e (off+j) c _ hei hc (by rw[←qj];exact bd hlt)
    cases hl
   cases hl
  cases hl
 |d z=>
  cases z with
  |te cells off=>
   simp only[Br]at hl;split at hl
   ·rename_i hle
    injection hl with hl
    subst hl
    cases hv with
    | @te _ b o _ k1 k2=>
     simp only[cb,yv,bh];rw[a36];refine Rq hs hg h1 (by simp;omega) fun j hj=>?_;obtain⟨u,hu⟩:=jx.1 (k1 (off+j) (by omega));rw[←qj]at hu;refine⟨u,h.gok.cv _ _ _ hu,fun c hc=>?_⟩;rw[cw,jo,bm hj,oo]at hc
     cases hx:cells[off+j]? with
     |none=>rw[hx]at hc;cases hc
     |some x=>
      rw[hx]at hc;simp only[ir,aj]at hc;subst hc;exact k2 (off+j) x u hx (by rw[←qj];exact hu)
   cases hl
  |_=>cases hl
 |_=>cases hl
theorem R6{x:V}{cs:List C}{v:Value}(hx:x.cells s=some cs)(hv:ij G E s x v):
  v.cells.size=cs.length∧∀(j:Nat) (c:C) (u:Value),cs[j]? =some c→v.cells[j]? =some u→xv G E s c u:=by
 have one:∀(c:C) (v:Value),v.cells= #[v]→xv G E s c v→v.cells.size=[c].length∧∀(j:Nat) (c':C) (u:Value),[c][j]? =some c'→v.cells[j]? =some u→xv G E s c' u:=by
  intro c v hc hr;rw[hc];refine⟨rfl,fun j c' u h1 h2=>?_⟩
  match j,h1,h2 with
  |0,h1,h2=>simp at h1 h2;subst h1 h2;exact hr
  |j+1,h1,h2=>simp at h1
 cases x with
 |d z=>
  cases z with
  |agg ds=>
   simp only[V.cells,aj]at hx;subst hx
   cases hv with
   |agg hl hh=>
    refine⟨by simpa[Value.cells]using hl,fun j c u hc hu=>?_⟩;simp only[cw,ao]at hc;obtain⟨x,hx,rfl⟩:=hc;exact hh j x u hx hu
  |Aa _=>cases hx
  |any=>cases hx
  |_=>simp only[V.cells,aj]at hx;subst hx;refine one _ _ ?_ hv;cases hv<;>rfl
 |ref id av len=>
  simp only[V.cells]at hx;split at hx
  ·rename_i sz n he;split at hx
   ·rename_i hl
    injection hx with hx
    subst hx;obtain⟨e1,e2⟩:=G5 he;obtain⟨_,k2⟩:=hv.2 e1 sz n e2;obtain⟨cap,_,_,e⟩:=k2 hl;exact one _ _ (by rw[e];rfl) hv
   cases hx
  cases hx
 |kj id av=>
  simp only[V.cells]at hx;split at hx
  ·rename_i es he
   injection hx with hx
   subst hx;obtain⟨e1,e2⟩:=F3 he;have e:=hv.2 e1 (by rw[e2];rfl);exact one _ _ (by rw[e];rfl) hv
  cases hx
 |ic id av off=>
  simp only[V.cells]at hx;split at hx
  ·rename_i cs' he
   injection hx with hx
   subst hx;obtain⟨e1,e2⟩:=tv he;have e:=hv.2 e1 ⟨_,e2,rfl⟩;exact one (.ptr id av off) _ (by rw[e];rfl) hv
  cases hx
 |agg cs'=>
  simp only[V.cells,aj]at hx;subst hx;obtain⟨vs,rfl,hl,hh⟩:=Eu.1 hv;exact⟨hl,fun j c u hc hu=>hh j c u hc hu⟩
 |_=>cases hx
theorem Dh{α:Type}(l:List α)(off:Nat)(xs:List α)(h:off+xs.length≤l.length)(j:Nat):
  (patch l off xs)[j]? =if off≤j∧j<off+xs.length then xs[j-off]? else l[j]? :=by
 unfold patch;rw[oq,N5];simp only[dw,akd (show off≤l.length by omega)];by_cases h1:j<off
 ·rw[bm h1,al (by omega),jo,bm h1]
 rw[al h1,N5];by_cases h2:j-off<xs.length
 ·rw[bm h2,bm (by omega)]
 rw[al h2,al (by omega),oo]
 congr 1
 omega
theorem qc{α:Type}(l:List α)(off:Nat)(xs:List α)(h:off+xs.length≤l.length):(patch l off xs).length=l.length:=by
 unfold patch;simp;omega
theorem N7{t:TypeId}{n b o:Nat}{et:TypeId}{v:Value}{cells:Array Value}(hs:kn P t=some n)(hn:v.cells.size=n)(hw:w.heap[b]? =some (.cells cells et (0,0)))
  (hle:o+n≤cells.size)(h1:∀u∈v.cells.toList,u.oneCell'=true):
  (storeVar t ⟨b,o,none⟩ v).run P w= .ok () (w.setRow b (patch cells.toList o v.cells.toList).toArray):=by
 unfold storeVar;simp only[cb,qx hs,bh];rw[al (by simpa using hn)];have:=run_storeCells_at (P:=P) b o et v.cells.toList 0 cells w hw (by simp;omega) h1;simpa[patch]using this
theorem A0.setRow{b:Nat}{et:TypeId}{cells:Array Value}(hw:w.heap[b]? =some (.cells cells et (0,0)))(cs:Array Value):A0 w (w.setRow b cs) b (.cells cs et (0,0)):=
 ⟨rfl,rfl,rfl,rfl,by simp,fun k hk=>setRow_other w b k cs hk,setRow_heap w b cells cs et (0,0) hw⟩
theorem Xf(h:j9 B0 w0 nt G0 s G E a w){t:TypeId}{n id av ln i off:Nat}{ad:Value}{xs:List C}{v:Value}{e:a6t}(hs:kn P t=some n)
  (re:G7 s n xs id av ln i off=some e)(hx:ij G E s (.Hf id av ln i off) ad)(B6:v.cells.size=xs.length)
  (hv:∀(j:Nat) (c:C) (u:Value),xs[j]? =some c→v.cells[j]? =some u→xv G E s c u)(Ae:xs.all (C.one s)=true→∀u∈v.cells.toList,u.oneCell'=true):
  ∃w' id b,((aCc ad).bind fun a=>storeVar t a v).run P w= .ok () w'∧e=([],.set id b)∧j9 B0 w0 nt G0 {s with da:=lb s.da id (some b)} G E a w':=by
 unfold G7 at re;split at re
 ·rename_i sz dd he;split at re
  ·rename_i e hei;split at re
   ·rename_i hle
    injection re with re
    subst re;obtain⟨e1,b,e2,e3,e4⟩:=Ju he;obtain⟨_,k2⟩:=hx.2 e1 sz dd.length ((vb e2).trans e3);have:=k2 hle.2.1;subst this;obtain⟨cells,et,Ke,hn,hh,hw⟩:=h.xp e2;obtain⟨h5,h6,h7⟩:=hh.elc e4;have Jm:∀(A:Addr) (f:Addr→Sem Unit),((aCc (.pointer (some A))).bind f).run P w=(f A).run P w:=fun _ _=>rfl;rw[Jm];have hel:=h6 i e hei;have hil:i<dd.length:=(aw.1 hei).1;have hb:(i+1)*sz≤dd.length*sz:=fa _ hil;rw[ji,Bd]at hb;have h3:=hle.2.2.1;have h4:=hle.2.2.2;rw[N7 hs (by omega) Ke (by omega) (Ae hle.1)]
    have hpl:off+xs.length≤e.length:=by omega
    have hpv:i*sz+off+v.cells.toList.length≤cells.toList.length:=by simp;omega
    have hal:Alike b (.qq sz (dd.set i (patch e off xs))):=by
     refine⟨by rcases e4 with ⟨_,rfl,_⟩|rfl<;>rfl,fun sz' n' h'=>?_⟩
     simp only[B.Cz,av4,aj,br]at h';obtain⟨rfl,rfl⟩:=h';exact⟨_,e3,ay _⟩
    refine⟨_,id,_,rfl,rfl,h.set e2 hal (A0.setRow Ke _) (by simp[qc _ _ _ hpv,hn]) ⟨by simp[qc _ _ _ hpv];exact h5,fun i' e' Ds=>?_,fun i' e' j x u Ds hj hu=>?_⟩⟩
    ·rw[Da]at Ds;split at Ds
     ·injection Ds with Ds;subst Ds;rw[qc _ _ _ hpl];exact hel
     exact h6 i' e' Ds
    rw[zh,Dh _ _ _ hpv]at hu;simp only[qa,B6]at hu;rw[Da]at Ds;split at Ds
    ·rename_i eii;subst eii
     injection Ds with Ds
     subst Ds;rw[Dh _ _ _ hpl]at hj;split at hj
     ·rename_i hin;rw[bm (by omega)]at hu
      have e0:i*sz+j-(i*sz+off)=j-off:=by omega
      rw[e0]at hu;exact hv (j-off) x u hj (by simpa using hu)
     rename_i hin;rw[al (by omega)]at hu;exact h7 i e j x u hei hj (by simpa using hu)
    rename_i eii
    have hjs:j<sz:=by have:=h6 i' e' Ds;have:=(aw.1 hj).1;omega
    have aGk:i'<dd.length:=(aw.1 Ds).1
    have aB6:¬(i*sz+off≤i'*sz+j∧i'*sz+j<i*sz+off+xs.length):=by
     rintro⟨a1,a2⟩;rcases Nat.lt_or_gt_of_ne eii with hlt|hgt
     ·have:(i+1)*sz≤i'*sz:=fa _ hlt;rw[ji,Bd]at this;omega
     have:(i'+1)*sz≤i*sz:=fa _ hgt;rw[ji,Bd]at this;omega
    rw[al aB6]at hu;exact h7 i' e' j x u Ds hj (by simpa using hu)
   cases re
  cases re
 cases re
theorem a0l(h:j9 B0 w0 nt G0 s G E a w){t:TypeId}{n:Nat}{x:V}{ad:Value}{xs:List C}{v:Value}{e:a6t}(hs:kn P t=some n)
  (re:ye s n xs x=some e)(hx:ij G E s x ad)(B6:v.cells.size=xs.length)
  (hv:∀(j:Nat) (c:C) (u:Value),xs[j]? =some c→v.cells[j]? =some u→xv G E s c u)(Ae:xs.all (C.one s)=true→∀u∈v.cells.toList,u.oneCell'=true):
  ∃w' id b,(aF2 t ad v).run P w= .ok () w'∧e=([],.set id b)∧j9 B0 w0 nt G0 {s with da:=lb s.da id (some b)} G E a w':=by
 unfold aF2
 cases x with
 |ic id av off=>
  simp only[ye]at re;split at re
  ·rename_i cs Ie;split at re
   ·rename_i hle
    injection re with re
    subst re;obtain⟨e1,e2⟩:=tv Ie;have:=hx.2 e1 ⟨_,e2,rfl⟩;subst this;obtain⟨cells,et,Ke,hn,hh,hw⟩:=h.xp e2;obtain⟨hl,hc⟩:=hh;simp only[cb,yv,bh];rw[N7 hs (by omega) Ke (by omega) (Ae hle.1)]
    have hpl:off+xs.length≤cs.length:=by omega
    have hpv:off+v.cells.toList.length≤cells.toList.length:=by simp;omega
    refine⟨_,id,_,rfl,rfl,h.set e2 .loc (A0.setRow Ke _) (by simp[qc _ _ _ hpv,hn]) ⟨by simp[qc _ _ _ hpl,qc _ _ _ hpv,hl],fun j c u hj hu=>?_⟩⟩;rw[Dh _ _ _ hpl]at hj;rw[zh,Dh _ _ _ hpv]at hu;simp only[qa,B6]at hu;split at hj
    ·rename_i hin;rw[bm hin]at hu;exact hv _ c u hj (by simpa using hu)
    rename_i hin;rw[al hin]at hu;exact hc j c u hj (by simpa using hu)
   cases re
  cases re
 |Hf id av ln i off=>
  simp only[ye]at re;split at re
  ·rename_i sz dd he;split at re
   ·rename_i e ds hei hds;split at re
    ·rename_i hle
     injection re with re
     subst re;obtain⟨e1,e2⟩:=xm he;obtain⟨_,k2⟩:=hx.2 e1 sz dd.length (vb e2);have:=k2 hle.2.1;subst this;obtain⟨cells,et,Ke,hn,hh,hw⟩:=h.xp e2;obtain⟨h5,h6,h7⟩:=hh;have exs:=R9 hds;subst exs;rw[ag]at B6;simp only[cb,yv,bh];have hel:=h6 i e hei;have hil:i<dd.length:=(aw.1 hei).1;have hb:(i+1)*sz≤dd.length*sz:=fa _ hil;rw[ji,Bd]at hb;have h3:=hle.2.2.1;have h4:=hle.2.2.2;rw[N7 hs (by omega) Ke (by omega) (Ae hle.1)]
     have hpl:off+ds.length≤e.length:=by omega
     have hpv:i*sz+off+v.cells.toList.length≤cells.toList.length:=by simp;omega
     refine⟨_,id,_,rfl,rfl,h.set e2 (.arr (by simp)) (A0.setRow Ke _) (by simp[qc _ _ _ hpv,hn]) ⟨by simp[qc _ _ _ hpv];exact h5,fun i' e' Ds=>?_,fun i' e' j x u Ds hj hu=>?_⟩⟩
     ·rw[Da]at Ds;split at Ds
      ·injection Ds with Ds;subst Ds;rw[qc _ _ _ hpl];exact hel
      exact h6 i' e' Ds
     rw[zh,Dh _ _ _ hpv]at hu;simp only[qa,B6]at hu;rw[Da]at Ds;split at Ds
     ·rename_i eii;subst eii
      injection Ds with Ds
      subst Ds;rw[Dh _ _ _ hpl]at hj;split at hj
      ·rename_i hin;rw[bm (by omega)]at hu
       have e0:i*sz+j-(i*sz+off)=j-off:=by omega
       rw[e0]at hu;exact hv (j-off) (.d x) u (by simp[hj]) (by simpa using hu)
      rename_i hin;rw[al (by omega)]at hu;exact h7 i e j x u hei hj (by simpa using hu)
     rename_i eii
     have hjs:j<sz:=by have:=h6 i' e' Ds;have:=(aw.1 hj).1;omega
     have aGk:i'<dd.length:=(aw.1 Ds).1
     have aB6:¬(i*sz+off≤i'*sz+j∧i'*sz+j<i*sz+off+ds.length):=by
      rintro⟨a1,a2⟩;rcases Nat.lt_or_gt_of_ne eii with hlt|hgt
      ·have:(i+1)*sz≤i'*sz:=fa _ hlt;rw[ji,Bd]at this;omega
      have:(i'+1)*sz≤i*sz:=fa _ hgt;rw[ji,Bd]at this;omega
     rw[al aB6]at hu;exact h7 i' e' j x u Ds hj (by simpa using hu)
    cases re
   exact Xf h hs re hx B6 hv Ae
  exact Xf h hs re hx B6 hv Ae
 |_=>cases re
end
section
variable{P:Program}{B0 nt:Nat}{w0 w w':World}{G0 G G':fy}{s s':PS}{E E':Env}{a:Act}
theorem a5t{f:Field}{n:Nat}(hn:kn P f.type=some n)(h0:n≠0)(b o:Nat)(w:World):(fieldPlace ⟨b,o,none⟩ f).run P w= .ok ⟨b,o+f.offset,none⟩ w:=by
 unfold fieldPlace;simp only[cb,qx hn,bh];rw[al h0];simp[Ei]
theorem aa0{off:Nat}{x y:V}{v:Value}(hf:R3 s off x=some y)(hv:ij G E s x v):∃b o,v= .pointer (some ⟨b,o,none⟩)∧ij G E s y (.pointer (some ⟨b,o+off,none⟩)):=by
 cases x with
 |ic id av o=>
  simp only[R3]at hf;split at hf
  ·rename_i cs hc
   injection hf with hf
   subst hf;obtain⟨e1,e2⟩:=tv hc;have:=hv.2 e1 ⟨_,e2,rfl⟩;subst this;exact⟨_,_,rfl,hv.1,fun _ _=>rfl⟩
  cases hf
 |Hf id av ln i o=>
  simp only[R3]at hf;split at hf
  ·rename_i sz dd he;split at hf
   ·rename_i hl
    injection hf with hf
    subst hf;obtain⟨e1,e2⟩:=G5 he;obtain⟨k1,k2⟩:=hv.2 e1 sz dd e2;have:=k2 hl;subst this;refine⟨_,_,rfl,hv.1,fun e sz' T4 hb=>?_⟩;rw[e2]at hb
    injection hb with hb
    injection hb with hb1 hb2
    subst hb1 hb2;exact⟨k1,fun _=>by rw[qj]⟩
   cases hf
  cases hf
 |d z=>
  cases z with
  |te cells o=>
   simp only[R3,aj]at hf;subst hf
   cases hv with
   | @te _ b o' _ k1 k2=>exact⟨b,o'+o,rfl,by rw[qj];exact gj.te k1 k2⟩
  |_=>cases hf
 |_=>cases hf
theorem aoo{t:TypeId}{fs:Array Field}{i n:Nat}{f:Field}{x y:V}{v:Value}(hu:P.underlying t=some (.struct fs))(hi:fs[i]? =some f)(hn:kn P f.type=some n)(h0:n≠0)
  (hf:R3 s f.offset x=some y)(hv:ij G E s x v):∃u,(Instr.fieldAt t v i).run P w= .ok u w∧ij G E s y u:=by
 obtain⟨b,o,rfl,hy⟩:=aa0 hf hv;refine⟨_,?_,hy⟩;unfold Instr.fieldAt;simp only[cb,underlying,run_program,bh,hu,eh,hi,yv,a5t hn h0]
theorem R7(k:IntKind)(n:Int)(w:World):(asIntOf (.int k n)).run P w= .ok (k,n) w:=rfl
theorem air{t e:TypeId}{len n:Nat}{k:IntKind}{i:Int}{x y:V}{v:Value}(hu:P.underlying t=some (.array len e))(hn:kn P e=some n)(h0:0≤i)(h1:i<len)
  (hf:R3 s (i.toNat*n) x=some y)(hv:ij G E s x v):∃u,(aIc t v (.int k i)).run P w= .ok u w∧ij G E s y u:=by
 obtain⟨b,o,rfl,hy⟩:=aa0 hf hv;refine⟨_,?_,hy⟩;unfold aIc;simp only[cb,R7,bh,underlying,run_program,hu,eh,yv,qx hn,bm (aLb h0 h1),Ei]
theorem aio(h:j9 B0 w0 nt G0 s G E a w){t e:TypeId}{n:Nat}{k:IntKind}{i:Int}{x y:V}{v:Value}(hu:P.underlying t=some (.slice e))(hn:kn P e=some n)
  (hf:Jv s n i x=some y)(hv:ij G E s x v):∃u,(aIc t v (.int k i)).run P w= .ok u w∧ij G E s y u:=by
 have run:∀(b o len cap:Nat),0≤i→i<len→(aIc t (.slice (some ⟨b,o,none⟩) len cap) (.int k i)).run P w= .ok (.pointer (some ⟨b,o+i.toNat*n,none⟩)) w:=by
  intro b o len cap h0 h1;unfold aIc;simp only[cb,R7,bh,underlying,run_program,hu,eh,qx hn,bm (aLb h0 h1),Ei]
 cases x with
 |ref id av len=>
  simp only[Jv]at hf;split at hf
  ·rename_i sz dd he;split at hf
   ·rename_i hl
    injection hf with hf
    subst hf;obtain⟨e1,e2⟩:=G5 he;obtain⟨k1,k2⟩:=hv.2 e1 sz dd e2;obtain⟨cap,c1,c2,rfl⟩:=k2 hl.2.1;refine⟨_,run _ _ _ _ hl.2.2.1 hl.2.2.2,hv.1,fun e sz' T4 hb=>?_⟩;rw[e2]at hb
    injection hb with hb
    injection hb with hb1 hb2
    subst hb1 hb2;have:=hl.1;subst this;exact⟨k1,fun _=>by rw[fj,Bw]⟩
   cases hf
  cases hf
 |d z=>
  cases z with
  |ft sz l=>
   simp only[Jv]at hf;split at hf
   ·rename_i h0;split at hf
    ·rename_i e he
     injection hf with hf
     subst hf;obtain⟨h0,rfl⟩:=h0;have hil:=(aw.1 he).1
     cases hv with
     | @ft _ _ b o c hc hs k1 k2=>
      refine⟨_,run _ _ _ _ h0 (by omega),?_⟩;have hel:=hs _ e he;have:=gj.te (G:=G) (cells:=e) (b:=b) (o:=o+i.toNat*sz) (off:=0) (fun j hj=>k1 _ j hil (by omega)) (fun j x v hx hv=>k2 _ e j x v he hx hv);exact this
     |V6=>simp at hil
     |Xg=>simp at hil
    cases hf
   cases hf
  |_=>cases hf
 |Ka id av ln sz=>
  simp only[Jv]at hf;split at hf
  ·rename_i hl
   injection hf with hf
   subst hf;obtain⟨cs,hc⟩:=jx.1 hl.1;obtain⟨e1,e2⟩:=tv hc;have:=hv.2 e1 ⟨_,e2,rfl⟩;subst this;exact⟨_,run _ _ _ _ hl.2.2.1 hl.2.2.2,hv.1,fun _ _=>by rw[fj]⟩
  cases hf
 |_=>cases hf
def TK.fits:TK→TypeDesc→Bool
 | .str,.string| .ft,.slice _| .map,.map _ _| .ptr,.pointer _| .fn,.func .. =>true
 |_,_=>false
theorem Fx{r:Nat}{ents:Array MapEntry}{clock:Nat}(hr:w.heap[r]? =some (.map ents clock)):(getObj r).run P w= .ok (.map ents clock) w:=by
 simp only[getObj,Sem.run,hr]
theorem ao5(h:j9 B0 w0 nt G0 s G E a w){t:TypeId}{d:TypeDesc}{k:TK}{x:V}{n:Int}{v:Value}{ty:TypeId}{args:Array Value}{Ej:Array TypeId}(ha:args[0]? =some v)(hat:Ej[0]? =some t)(hu:P.underlying t=some d)
  (hd:k.fits d=true)(hf:O6 s k x=some n)(hv:ij G E s x v):
  (aKa Ej ty args).run P w= .ok (.int ab n) w:=by
 unfold aKa;rw[ha,hat];simp only[cb,underlying,run_program,bh,hu,eh];unfold O6 at hf;split at hf
 ·injection hf with hf
  subst hf;cases d<;>simp[TK.fits]at hd;cases hv<;>simp[goInt]
 ·injection hf with hf
  subst hf;cases d<;>simp[TK.fits]at hd;cases hv;simp[goInt]
 ·injection hf with hf
  subst hf;cases d<;>simp[TK.fits]at hd;cases hv;simp[goInt]
 ·injection hf with hf
  subst hf;cases d<;>simp[TK.fits]at hd;cases hv;simp[goInt]
 ·injection hf with hf
  subst hf;cases d<;>simp[TK.fits]at hd;cases hv;simp[goInt]
 ·injection hf with hf
  subst hf;cases d<;>simp[TK.fits]at hd
  cases hv with
  |map h0 hl _ _=>
   obtain⟨ents,clock,hh,he⟩:=h.gok.mv _ _ h0;have B6:=congrArg a3h he;simp only[ag,qa]at B6;simp[goInt,Fx hh,B6,hl]
 ·split at hf
  ·rename_i sz dd he;split at hf
   ·rename_i hl
    injection hf with hf
    subst hf;obtain⟨e1,e2⟩:=G5 he;obtain⟨k1,k2⟩:=hv.2 e1 sz dd e2;obtain⟨cap,c1,c2,rfl⟩:=k2 hl;cases d<;>simp[TK.fits]at hd;simp[goInt]
   cases hf
  cases hf
 ·split at hf
  ·rename_i es he
   injection hf with hf
   subst hf;obtain⟨e1,e2⟩:=F3 he;have:=hv.2 e1 (by rw[e2];rfl);subst this;obtain⟨_,_,ents,clock,hh,hl,_⟩:=h.mp _ es e2;cases d<;>simp[TK.fits]at hd;simp[goInt,Fx hh,hl]
  cases hf
 ·split at hf
  ·rename_i sz dd he;split at hf
   ·rename_i hl
    injection hf with hf
    subst hf;obtain⟨e1,e2⟩:=G5 he;obtain⟨k1,k2⟩:=hv.2.2 e1 sz dd e2;obtain⟨C,cap,off,c1,c2,c3,c4,c5,rfl⟩:=k2 hl;cases d<;>simp[TK.fits]at hd;simp[goInt]
   cases hf
  cases hf
 ·split at hf
  ·rename_i hl
   injection hf with hf
   subst hf;obtain⟨cs,hc⟩:=jx.1 hl;obtain⟨e1,e2⟩:=tv hc;have:=hv.2 e1 ⟨_,e2,rfl⟩;subst this;cases d<;>simp[TK.fits]at hd;simp[goInt]
  cases hf
 cases hf
theorem aiq{t:TypeId}{b:ByteArray}{k:IntKind}{i:Int}{u:UInt8}(hu:P.underlying t=some .string)(hi:(if 0≤i then b[i.toNat]? else none)=some u):
  (aKn t (.string b) (.int k i)).run P w= .ok (.int .u8 u.toNat) w:=by
 unfold aKn;simp only[cb,R7,bh,underlying,run_program,hu,eh,hi]
theorem aeg{t:TypeId}{n off:Nat}{g:Bool}{cs:List C}{vs:Array Value}(hs:kn P t=some n)(hg:Ap P t=some g)(h1:g=true∨n=1)(hl:off+n≤cs.length)(B6:vs.size=cs.length)
  (hr:∀(i:Nat) (c:C) (u:Value),cs[i]? =some c→vs[i]? =some u→xv G E s c u):∃u,(part t vs off).run P w= .ok u w∧ij G E s (mkv g ((cs.drop off).take n)) u:=by
 unfold part;simp only[cb,Z6 hg,bh]
 have get:∀i c,((cs.drop off).take n)[i]? =some c→i<n∧cs[off+i]? =some c:=by
  intro i c hc;rw[jo]at hc;split at hc
  ·rename_i hi;rw[oo]at hc;exact⟨hi,hc⟩
  cases hc
 cases g with
 |true=>
  simp only[dj,cb,qx hs,bh,eh];refine⟨_,rfl,?_⟩
  have rel:∀(i:Nat) (c:C) (u:Value),((cs.drop off).take n)[i]? =some c→(vs.extract off (off+n))[i]? =some u→xv G E s c u:=by
   intro i c u hc hu;obtain⟨hi,hc⟩:=get i c hc;refine hr (off+i) c u hc ?_;rw[a1p]at hu;split at hu
   ·exact hu
   cases hu
  unfold mkv
  cases hd:Om ((cs.drop off).take n)with
  |some ds=>
   have e:=R9 hd;have el:=congrArg a3h e;simp at el;refine gj.agg (by simp;omega) fun i x v hx hv=>rel i (.d x) v (by rw[e];simp[hx]) hv
  |none=>exact Eu.2 ⟨_,rfl,by simp;omega,rel⟩
 |false=>
  have hn1:n=1:=by simpa using h1
  subst hn1
  have hlt:off<vs.size:=by omega
  have df:off<cs.length:=by omega
  refine⟨vs[off],by simp[bd hlt],?_⟩
  have e:(cs.drop off).take 1=[cs[off]]:=by rw[jq df];rfl
  rw[e];unfold mkv;simp only[];exact hr off cs[off] vs[off] (ax df) (bd hlt)
theorem a5r{t:TypeId}{fs:Array Field}{i n:Nat}{f:Field}{g:Bool}{cs:List C}{vs:Array Value}(hu:P.underlying t=some (.struct fs))(hi:fs[i]? =some f)(hs:kn P f.type=some n)(hg:Ap P f.type=some g)(h1:g=true∨n=1)
  (hl:f.offset+n≤cs.length)(B6:vs.size=cs.length)(hr:∀(i:Nat) (c:C) (u:Value),cs[i]? =some c→vs[i]? =some u→xv G E s c u):
  ∃u,(Instr.field t (.agg vs) i).run P w= .ok u w∧ij G E s (mkv g ((cs.drop f.offset).take n)) u:=by
 obtain⟨u,h2,h3⟩:=aeg (P:=P) (w:=w) (off:=f.offset) hs hg h1 hl B6 hr;refine⟨u,?_,h3⟩;unfold Instr.field;simp only[cb,underlying,run_program,bh,hu,eh,hi,asAgg,h2]
theorem ain{t e:TypeId}{len n:Nat}{k:IntKind}{i:Int}{g:Bool}{cs:List C}{vs:Array Value}(hu:P.underlying t=some (.array len e))(hs:kn P e=some n)(hg:Ap P e=some g)(h1:g=true∨n=1)
  (h0:0≤i)(hi:i<len)(hl:i.toNat*n+n≤cs.length)(B6:vs.size=cs.length)(hr:∀(i:Nat) (c:C) (u:Value),cs[i]? =some c→vs[i]? =some u→xv G E s c u):
  ∃u,(aKn t (.agg vs) (.int k i)).run P w= .ok u w∧ij G E s (mkv g ((cs.drop (i.toNat*n)).take n)) u:=by
 obtain⟨u,h2,h3⟩:=aeg (P:=P) (w:=w) (off:=i.toNat*n) hs hg h1 hl B6 hr;refine⟨u,?_,h3⟩;unfold aKn;simp only[cb,R7,bh,underlying,run_program,hu,eh,bm (aLb h0 hi),qx hs,h2]
theorem ao9{op:BinOp}{k:IntKind}{x y:Int}{r:D}(h:a0z op k x y=some r)(hs:op≠ .shl∧op≠ .shr)(t:TypeId):
  ∃u,(binOp op t (.int k x) (.int k y)).run P w= .ok u w∧gj G r u:=by
 cases op<;>simp only[a0z]at h<;>(try simp at hs)<;>simp only[binOp,ne_eq,not_true_eq_false,ee]
 case quo=>
  split at h
  ·cases h
  rename_i hy
  injection h with h
  subst h;exact⟨.int k (k.wrap (x.tdiv y)),by simp[Op.intDiv,hy],.int⟩
 case rem=>
  split at h
  ·cases h
  rename_i hy
  injection h with h
  subst h;exact⟨.int k (x.tmod y),by simp[Op.intDiv,hy],.int⟩
 all_goals
  injection h with h
  subst h;simp only[Op.intArith,Op.intBits,Op.intCmp,eh];exact⟨_,rfl,by constructor⟩
theorem amm{op:BinOp}{k k':IntKind}{x y:Int}{r:D}(h:a0z op k x y=some r)(hs:op= .shl∨op= .shr)(t:TypeId):
  ∃u,(binOp op t (.int k x) (.int k' y)).run P w= .ok u w∧gj G r u:=by
 rcases hs with rfl|rfl<;>simp only[a0z]at h
 all_goals
  split at h
  ·cases h
  rename_i hy
  injection h with h
  subst h;simp only[binOp,Op.shift,al hy,eh];exact⟨_,rfl,by constructor⟩
theorem ami{op:BinOp}{x y:ByteArray}{r:D}(h:aki op x y=some r)(t:TypeId):
  ∃u,(binOp op t (.string x) (.string y)).run P w= .ok u w∧gj G r u:=by
 cases op<;>simp only[aki]at h<;>(try cases h)<;>simp only[binOp,Op.stringOp,eh]
 case add=>
  split at h
  ·rename_i hl
   injection h with h
   subst h;rw[al (by simp[IntKind.max,IntKind.bits,aJq]at*;omega)];exact⟨_,rfl,.str⟩
  cases h
 all_goals exact⟨_,rfl,by constructor⟩
theorem Qy{op:BinOp}{a b:Value}(t:TypeId)(ox oy:Operand)(h1:∀c,a≠ .agg c)(h2:a≠ .nilIface):(eqGuard op t ox oy a b).run P w= .ok () w:=by
 unfold eqGuard;cases op<;>simp<;>(cases a<;>simp_all)
theorem aoe{op:BinOp}{k k':IntKind}{a b:Int}(t:TypeId)(ox oy:Operand):(eqGuard op t ox oy (.int k a) (.int k' b)).run P w= .ok () w:=Qy t ox oy (by simp) (by simp)
theorem aod{op:BinOp}{a b:ByteArray}(t:TypeId)(ox oy:Operand):(eqGuard op t ox oy (.string a) (.string b)).run P w= .ok () w:=Qy t ox oy (by simp) (by simp)
theorem apb{op:BinOp}{x y r:D}(h:a8k op x y=some r){u v:Value}(hx:gj G x u)(hy:gj G y v)(t:TypeId)(ox oy:Operand):
  ∃z,(do eqGuard op t ox oy u v;binOp op t u v:Sem Value).run P w= .ok z w∧gj G r z:=by
 unfold a8k at h;split at h
 ·cases hx;cases hy;split at h
  ·rename_i hop;simp only[cb,aoe,bh];by_cases hs:op= .shl∨op= .shr
   ·exact amm h hs t
   have:op≠ .shl∧op≠ .shr:=⟨fun e=>hs (.inl e),fun e=>hs (.inr e)⟩;have hk:=(hop.resolve_left this.1).resolve_left this.2;subst hk;exact ao9 h this t
  cases h
 ·cases hx;cases hy;simp only[cb,aod,bh];exact ami h t
 cases h
theorem aja{t:TypeId}(hu:P.underlying t=some .bool)(a b:Bool):(aIy t (.bool a) (.bool b)).run P w= .ok (a==b) w:=by
 unfold aIy aKm aKy;simp only[cb,underlying,run_program,bh,hu,eh]
theorem apc{op:BinOp}(hop:op= .eql∨op= .neq){t:TypeId}(hu:P.underlying t=some .bool)(a b:Bool)(ox oy:Operand):
  (do eqGuard op t ox oy (.bool a) (.bool b);binOp op t (.bool a) (.bool b):Sem Value).run P w= .ok (.bool (if decide (op= .neq)then !(a==b)else a==b)) w:=by
 simp only[cb,Qy t ox oy (a:= .bool a) (by simp) (by simp),bh];rcases hop with rfl|rfl<;>simp[binOp,aja hu]
theorem a4v{k:TK}{x:V}{b:Bool}(hn:isNil s k x=some b){v:Value}(hv:ij G E s x v):
  (k= .ptr→∃a,v= .pointer a∧b=a.isNone)∧(k= .ft→∃a l c,v= .slice a l c∧b=a.isNone)∧(k= .map→∃a,v= .map a∧b=a.isNone)∧
  (k= .fn→(v= .nilFunc∧b=true)∨∃f x y,v= .func f x y∧b=false)∧k≠ .str:=by
 have cl:∀{o:Option (List C)},o.isSome=true→∃cs,o=some cs:=fun h=>jx.1 h;unfold isNil at hn;split at hn
 all_goals first
  |(injection hn with hn;subst hn;cases hv;simp;done)
  |(injection hn with hn;subst hn;cases hv<;>simp;done)
  |skip
 ·split at hn
  ·rename_i hl
   injection hn with hn;subst hn
   simp only[V.live]at hl;split at hl
   ·rename_i sz dd he;obtain⟨e1,e2⟩:=G5 he;obtain⟨_,k2⟩:=hv.2 e1 sz dd e2;obtain⟨cap,_,_,rfl⟩:=k2 (by simpa using hl);simp
   cases hl
  cases hn
 ·split at hn
  ·rename_i hl
   injection hn with hn;subst hn
   simp only[V.live]at hl;obtain⟨cs,hc⟩:=cl hl;obtain⟨e1,e2⟩:=tv hc;have:=hv.2 e1 ⟨_,e2,rfl⟩;subst this;simp
  cases hn
 ·split at hn
  ·rename_i hl
   injection hn with hn;subst hn
   simp only[V.live]at hl;split at hl
   ·rename_i sz dd he;obtain⟨e1,e2⟩:=G5 he;obtain⟨_,k2⟩:=hv.2 e1 sz dd e2;have:=k2 (by simpa using hl);subst this;simp
   cases hl
  cases hn
 ·split at hn
  ·rename_i hl
   injection hn with hn;subst hn
   simp only[V.live]at hl;obtain⟨es,hc⟩:=jx.1 hl;obtain⟨e1,e2⟩:=F3 hc;have:=hv.2 e1 (by rw[e2];rfl);subst this;simp
  cases hn
 ·split at hn
  ·rename_i hl
   injection hn with hn;subst hn
   simp only[V.live,cz]at hl
   have:=hv.2 (fun p hp=>by
    obtain⟨cs,hc⟩:=cl (hl p hp);obtain⟨e1,e2⟩:=tv hc
    exact⟨e1,_,e2,rfl⟩)
   subst this;simp
  cases hn
 cases hn
end
section
variable{P:Program}{B0 nt:Nat}{w0 w w':World}{G0 G G':fy}{s s':PS}{E E':Env}{a:Act}
def TK.Ss:TK→Value
 | .ptr=> .pointer none
 | .ft=> .slice none 0 0
 | .map=> .map none
 | .fn=> .nilFunc
 | .str=> .pointer none
theorem a0x{k:TK}{x:Operand}(h:abv k x=true)(a:Act):a.eval x=k.Ss:=by
 unfold abv at h;split at h<;>simp at h<;>subst h<;>rfl
theorem binOp_eql{k:TK}{v:Value}{t:TypeId}:binOp .eql t v k.Ss=(do pure (.bool (←aIy t v k.Ss)):Sem Value)∧binOp .neq t v k.Ss=(do pure (.bool (!(←aIy t v k.Ss))):Sem Value)∧
  binOp .eql t k.Ss v=(do pure (.bool (←aIy t k.Ss v)):Sem Value)∧binOp .neq t k.Ss v=(do pure (.bool (!(←aIy t k.Ss v))):Sem Value):=by
 unfold binOp;cases k<;>cases v<;>exact⟨rfl,rfl,rfl,rfl⟩
theorem aa1{k:TK}{t:TypeId}{d:TypeDesc}(hu:P.underlying t=some d)(hf:k.fits d=true){x:V}{b:Bool}(hn:isNil s k x=some b){v:Value}(hv:ij G E s x v):
  (aIy t v k.Ss).run P w= .ok b w∧(aIy t k.Ss v).run P w= .ok b w∧(∀c,v≠ .agg c)∧v≠ .nilIface:=by
 obtain⟨hp,hs,hm,hfn,aG5⟩:=a4v hn hv;unfold aIy aKm aKy;simp only[cb,underlying,run_program,bh,hu,eh]
 cases k with
 |str=>exact absurd rfl aG5
 |ptr=>
  obtain⟨a,rfl,rfl⟩:=hp rfl;cases d<;>simp[TK.fits]at hf;cases a<;>simp[TK.Ss]
 |ft=>
  obtain⟨a,l,c,rfl,rfl⟩:=hs rfl;cases d<;>simp[TK.fits]at hf;cases a<;>simp[TK.Ss]
 |map=>
  obtain⟨a,rfl,rfl⟩:=hm rfl;cases d<;>simp[TK.fits]at hf;cases a<;>simp[TK.Ss]
 |fn=>
  cases d<;>simp[TK.fits]at hf;rcases hfn rfl with ⟨rfl,rfl⟩|⟨f,y,z,rfl,rfl⟩<;>simp[TK.Ss]
theorem a4i(k:TK):(∀c,k.Ss≠ .agg c)∧k.Ss≠ .nilIface:=by cases k<;>simp[TK.Ss]
theorem af4{op:BinOp}{x y:Operand}{k:TK}{oa ob:me}{r:jv}(hc:a0f op x y k oa ob=some r){t:TypeId}{d:TypeDesc}(hu:P.underlying t=some d)(hf:k.fits d=true)
  (ha:ij G E s (oa.ev s) (a.eval x))(hb:ij G E s (ob.ev s) (a.eval y)){dst:Nat}{ids:List Nat}{e:lk}(he:r.og dst s=some (ids,e)):
  ∃z v,(do eqGuard op t x y (a.eval x) (a.eval y);binOp op t (a.eval x) (a.eval y):Sem Value).run P w= .ok z w∧ids=[]∧e= .val v∧ij G E s v z:=by
 unfold a0f at hc;split at hc
 ·rename_i hop;split at hc
  ·rename_i hy
   injection hc with hc
   subst hc;simp only[jv.og,ao]at he;obtain⟨b,hn,he⟩:=he
   injection he with h1 h2
   subst h1 h2;obtain⟨k1,k2,k3,k4⟩:=aa1 (P:=P) (w:=w) hu hf hn ha;rw[a0x hy a];simp only[cb,Qy t x y k3 k4,bh]
   refine⟨.bool (if decide (op= .neq)then !b else b),_,?_,by first|rfl|trivial,rfl,.bool⟩
   have k5:=(a4i k);rcases hop with rfl|rfl
   ·rw[binOp_eql.1];simp[k1]
   rw[binOp_eql.2.1];simp[k1]
  split at hc
  ·rename_i hx
   injection hc with hc
   subst hc;simp only[jv.og,ao]at he;obtain⟨b,hn,he⟩:=he
   injection he with h1 h2
   subst h1 h2;obtain⟨k1,k2,k3,k4⟩:=aa1 (P:=P) (w:=w) hu hf hn hb;rw[a0x hx a];have k5:=(a4i k);simp only[cb,Qy t x y k5.1 k5.2,bh]
   refine⟨.bool (if decide (op= .neq)then !b else b),_,?_,by first|rfl|trivial,rfl,.bool⟩
   rcases hop with rfl|rfl
   ·rw[binOp_eql.2.2.1];simp[k2]
   rw[binOp_eql.2.2.2];simp[k2]
  cases hc
 cases hc
theorem apr{op:UnOp}{x:me}{v:Value}(hv:ij G E s (x.ev s) v){e:a6t}{d:Nat}(he:(jv.un op x).og d s=some e):∃z y,(Op.unary op v).run P w= .ok z w∧e=lk.rz y∧ij G E s y z:=by
 simp only[jv.og]at he;split at he
 ·rename_i b hx;rw[hx]at hv
  injection he with he;subst he;cases hv;exact⟨_,_,rfl,rfl,.bool⟩
 ·rename_i k n hx;rw[hx]at hv
  injection he with he;subst he;cases hv;exact⟨_,_,rfl,rfl,.int⟩
 cases he
theorem aju{src dst:TypeId}{k k':IntKind}{d0:TypeDesc}(h0:P.underlying src=some d0)(h1:P.underlying dst=some (.int k))(n:Int):
  (convert src dst (.int k' n)).run P w= .ok (.int k (k.wrap n)) w:=by
 unfold convert;simp only[cb,underlying,run_program,bh,h0,h1,eh];cases d0<;>simp[Conv.intToInt]
theorem agd{src dst:TypeId}(h0:P.underlying src=some .string)(h1:P.underlying dst=some .string)(b:ByteArray):
  (convert src dst (.string b)).run P w= .ok (.string b) w:=by
 unfold convert;simp only[cb,underlying,run_program,bh,h0,h1,eh]
theorem a8i{vs:List D}{i:Nat}{x:D}(hi:vs[i]? =some x){v:Value}(hv:gj G (.Aa vs) v):∃u,(aJh v i).run P w= .ok u w∧gj G x u:=by
 cases hv with
 | @Aa _ us hl hh=>
  have hlt:i<us.size:=by have:=(aw.1 hi).1;omega
  refine⟨us[i],?_,hh i x _ hi (bd hlt)⟩;simp[aJh,bd hlt]
def LK.fits:LK→TypeDesc→Bool
 | .bool,.bool| .int,.int _| .str,.string=>true
 |_,_=>false
theorem asa{k:LK}{t:TypeId}{d:TypeDesc}(hu:P.underlying t=some d)(hd:k.fits d=true){x y:D}{b:Bool}(he:O2 k x y=some b){u v:Value}(hx:gj G x u)(hy:gj G y v)(n:Nat):
  (aKy (n+1) t u v).run P w= .ok b w:=by
 unfold aKy;simp only[cb,underlying,run_program,bh,hu,eh];unfold O2 at he;split at he
 ·split at he
  ·rename_i h;subst h
   injection he with he
   subst he;cases hx;cases hy;cases d<;>simp[LK.fits]at hd;simp
  cases he
 ·injection he with he
  subst he;cases hx;cases hy;cases d<;>simp[LK.fits]at hd;simp
 ·injection he with he
  subst he;cases hx;cases hy;cases d<;>simp[LK.fits]at hd;simp
 cases he
def Fa(g:Bool)(us:Array Value):Value:=if g then .agg us else us.getD 0 undef
def Row(G:fy)(xs:List D)(us:Array Value):Prop:=us.size=xs.length∧∀(i:Nat) (x:D) (u:Value),xs[i]? =some x→us[i]? =some u→gj G x u
theorem Row.sub{xs:List D}{us:Array Value}(h:Row G xs us)(off n:Nat)(hl:off+n≤xs.length):Row G ((xs.drop off).take n) (us.extract off (off+n)):=by
 obtain⟨h1,h2⟩:=h;refine⟨by simp;omega,fun i x u hx hu=>?_⟩;rw[jo]at hx;split at hx
 ·rw[oo]at hx;rw[a1p]at hu;split at hu
  ·exact h2 _ x u hx hu
  cases hu
 cases hx
theorem Kt{t:TypeId}{n off:Nat}{g:Bool}{us:Array Value}(hs:kn P t=some n)(hg:Ap P t=some g)(h1:g=true∨n=1)(hl:off+n≤us.size):
  (part t us off).run P w= .ok (Fa g (us.extract off (off+n))) w:=by
 unfold part Fa;simp only[cb,Z6 hg,bh]
 cases g with
 |true=>simp[qx hs]
 |false=>
  have hn1:n=1:=by simpa using h1
  subst hn1
  have hlt:off<us.size:=by omega
  have e:(us.extract off (off+1)).getD 0 undef=us[off]:=by
   rw[j8,a1p,bm (by omega)];simp[hlt]
  simp[bd hlt,e]
theorem Ql:∀{ks:List LK} {x y:List D} {b:Bool},As ks x y=some b→x.length=ks.length∧y.length=ks.length:=by
 intro ks
 induction ks with
 |nil=>intro x y b h;cases x<;>cases y<;>simp_all [As]
 |cons k ks ih=>
  intro x y b h
  cases x with
  |nil=>simp[As]at h
  |cons a x=>
   cases y with
   |nil=>simp[As]at h
   |cons c y=>
    simp only[As]at h;split at h
    ·rename_i p q h1 h2;obtain⟨k1,k2⟩:=ih h2;exact⟨by simp[k1],by simp[k2]⟩
    cases h
theorem Xq:∀{l m:List LK} {x y:List D} {b:Bool},As (l++m) x y=some b→∃p q,As l (x.take l.length) (y.take l.length)=some p∧As m (x.drop l.length) (y.drop l.length)=some q∧b=(p&&q):=by
 intro l
 induction l with
 |nil=>intro m x y b h;exact⟨true,b,by simp[As],by simpa using h,by simp⟩
 |cons k l ih=>
  intro m x y b h
  cases x with
  |nil=>simp[As]at h
  |cons a x=>
   cases y with
   |nil=>simp[As]at h
   |cons c y=>
    simp only[xz,As]at h;split at h
    ·rename_i p q h1 h2
     injection h with h
     obtain⟨p',q',e1,e2,e3⟩:=ih h2;refine⟨p&&p',q',by simp[As,h1,e1],by simpa using e2,by rw[←h,e3,Bool.and_assoc]⟩
    cases h
def ayu(P:Program)(G:fy)(w:World)(t:TypeId)(ks:List LK)(g:Bool)(m:Nat):Prop:=
 kn P t=some ks.length∧Ap P t=some g∧(g=true∨ks.length=1)∧
  ∀(us vs:Array Value) (xs ys:List D) (b:Bool),Row G xs us→Row G ys vs→As ks xs ys=some b→(aKy m t (Fa g us) (Fa g vs)).run P w= .ok b w
theorem acb{m:Nat}(us vs:Array Value){g0:TypeId→Option (List LK)}(ih:∀(t:TypeId) (l:List LK),g0 t=some l→∃g,ayu P G w t l g m):
  ∀(fs:List Field) (off:Nat) (l:List LK),Fz P g0 fs off=some l→∀(xs ys:List D) (b:Bool),Row G xs us→Row G ys vs→As l (xs.drop off) (ys.drop off)=some b→
  (aKp m us vs fs).run P w= .ok b w:=by
 intro fs
 induction fs with
 |nil=>
  intro off l hl xs ys b hx hy he;simp only[Fz,aj]at hl;subst hl
  have:b=true:=by
   cases h1:xs.drop off<;>cases h2:ys.drop off<;>simp_all [As]
  subst this;simp[aKp]
 |cons f r ihf=>
  intro off l hl xs ys b hx hy he;simp only[Fz]at hl;split at hl
  ·rename_i hn;split at hl
   ·rename_i lf hlf;split at hl
    ·rename_i hs;split at hl
     ·rename_i mr hmr
      injection hl with hl
      subst hl;obtain⟨g,k1,k2,k3,k4⟩:=ih _ _ hlf;obtain⟨p,q,e1,e2,e3⟩:=Xq he;obtain⟨l1,l2⟩:=Ql he;simp only[uv,db]at l1 l2;have hxl:=hx.1;have hyl:=hy.1;simp only[aKp];rw[bm hn.1,hn.2]
      have hz:off+lf.length≤xs.length∧off+lf.length≤ys.length:=by omega
      have r1:=k4 _ _ _ _ p (hx.sub off lf.length hz.1) (hy.sub off lf.length hz.2) e1;simp only[cb,Kt k1 k2 k3 (show off+lf.length≤us.size by omega),Kt k1 k2 k3 (show off+lf.length≤vs.size by omega),bh,r1];have r2:=ihf (off+lf.length) mr hmr xs ys q hx hy (by rw[←am3,←am3];exact e2)
      cases p with
      |false=>simp[e3]
      |true=>simp[e3,r2]
     cases hl
    cases hl
   cases hl
  cases hl
theorem anb{l:List LK}:∀{n:Nat} {x y:List D} {b:Bool},As (j5 n l).flatten x y=some b→x.length=n*l.length∧y.length=n*l.length:=by
 intro n x y b h;have:=Ql h;simpa using this
theorem afz{m:Nat}{t:TypeId}{l:List LK}{g:Bool}(h:ayu P G w t l g m)(h0:0<l.length)(us vs:Array Value)(xs ys:List D)(hx:Row G xs us)(hy:Row G ys vs):
  ∀(n i:Nat) (b:Bool),As (j5 n l).flatten (xs.drop (i*l.length)) (ys.drop (i*l.length))=some b→
  (Op.eqItems m t l.length us vs (ake i n)).run P w= .ok b w:=by
 intro n;obtain⟨k1,k2,k3,k4⟩:=h
 induction n with
 |zero=>
  intro i b he
  have:b=true:=by
   simp only[List.replicate_zero,aI8]at he;cases h1:xs.drop (i*l.length)<;>cases h2:ys.drop (i*l.length)<;>simp_all [As]
  subst this;simp[Op.eqItems]
 |succ n ih=>
  intro i b he;have hl:=anb he;rw[aJb,aut]at he;obtain⟨p,q,e1,e2,e3⟩:=Xq he;simp only[uv,ji,Bd]at hl;have hxl:=hx.1;have hyl:=hy.1
  have hz:i*l.length+l.length≤xs.length∧i*l.length+l.length≤ys.length:=by omega
  have r1:=k4 _ _ _ _ p (hx.sub (i*l.length) l.length hz.1) (hy.sub (i*l.length) l.length hz.2) e1;rw[aI6];simp only[Op.eqItems,cb,Kt k1 k2 k3 (show i*l.length+l.length≤us.size by omega),Kt k1 k2 k3 (show i*l.length+l.length≤vs.size by omega),bh,r1];have r2:=ih (i+1) q (by rw[ji,Bd,←am3,←am3];exact e2)
  cases p with
  |false=>simp[e3]
  |true=>simp[e3,r2]
theorem ay8:∀(n:Nat) (t:TypeId) (l:List LK),Be P n t=some l→∀m,n≤m→∃g,ayu P G w t l g m:=by
 intro n
 induction n with
 |zero=>intro t l h;cases h
 |succ n ih=>
  intro t l h m hm;obtain⟨m,rfl⟩:∃k,m=k+1:=⟨m-1,by omega⟩
  have single:∀(k:LK) (d:TypeDesc),P.underlying t=some d→k.fits d=true→kn P t=some 1→∃g,ayu P G w t [k] g (m+1):=by
   intro k d hu hd hs;refine⟨false,hs,?_,.inr rfl,fun us vs xs ys b hx hy he=>?_⟩
   ·unfold Ap;rw[hu];cases d<;>simp[LK.fits]at hd⊢
   obtain⟨l1,l2⟩:=Ql he
   match xs,ys,l1,l2 with
   |[x],[y],_,_=>
    simp only[As]at he;split at he
    ·rename_i p q h1 h2
     injection h2 with h2
     subst h2
     injection he with he
     simp only[Gy]at he;subst he
     have gx:us.getD 0 undef=us[0]'(by have:=hx.1;simp at this;omega):=by simp[Array.getD,hx.1]
     have gy:vs.getD 0 undef=vs[0]'(by have:=hy.1;simp at this;omega):=by simp[Array.getD,hy.1]
     simp only[Fa,fk,ee,gx,gy];exact asa hu hd h1 (hx.2 0 x _ rfl (bd _)) (hy.2 0 y _ rfl (bd _)) m
    cases he
  simp only[Be]at h;split at h
  ·rename_i hu;split at h
   ·rename_i hs;injection h with h;subst h;exact single .bool _ hu rfl hs
   cases h
  ·rename_i k hu;split at h
   ·rename_i hs;injection h with h;subst h;exact single .int _ hu rfl hs
   cases h
  ·rename_i hu;split at h
   ·rename_i hs;injection h with h;subst h;exact single .str _ hu rfl hs
   cases h
  ·rename_i len e hu;split at h
   ·rename_i le hle;split at h
    ·rename_i hs
     injection h with h
     subst h;obtain⟨g,hg⟩:=ih e le hle m (by omega);refine⟨true,by simpa using hs.2.2,by unfold Ap;rw[hu],.inl rfl,fun us vs xs ys b hx hy he=>?_⟩;simp only[Fa,dj]
     have hie:∃i,P.info? e=some i∧i.size=le.length:=by
      have:=hs.1;unfold kn at this;simpa[ao]using this
     obtain⟨i,hi,aGh⟩:=hie;rw[run_equalIn_array w m us vs hu hi]
     have hc:P.cellsOf e=le.length:=by simp[aEy,hi,aGh]
     rw[hc,aJ2];exact afz hg hs.2.1 us vs xs ys hx hy len 0 b (by simpa using he)
    cases h
   cases h
  ·rename_i fs hu;split at h
   ·rename_i re;split at h
    ·rename_i lf hlf;split at h
     ·rename_i hs
      injection h with h
      subst h;refine⟨true,hs,by unfold Ap;rw[hu],.inl rfl,fun us vs xs ys b hx hy he=>?_⟩;simp only[Fa,dj]
      have hf:P.fieldsOf t=fs:=by unfold Program.fieldsOf;rw[hu]
      rw[run_equalIn_struct w m t us vs (by rw[hf];exact hu) re,hf];exact acb us vs (fun t' l' h'=>ih t' l' h' m (by omega)) fs.toList 0 lf hlf xs ys b hx hy (by simpa using he)
     cases h
    cases h
   cases h
  cases h
end
section
variable{P:Program}{B0 nt:Nat}{w0 w w':World}{G0 G G':fy}{s s':PS}{E E':Env}{a:Act}
theorem Holds.append{c1 c2 c3:Array Value}{sz:Nat}{dd ys:List (List D)}(h1:Holds G E s c1 (.arr sz dd))(he:c1.size=dd.length*sz)(h2:Holds G E s c2 (.arr sz ys)):
  Holds G E s (c1++c2++c3) (.arr sz (dd++ys)):=by
 obtain⟨a1,a2,a3⟩:=h1;obtain⟨b1,b2,b3⟩:=h2;refine⟨by simp[ji];omega,fun i e hi=>?_,fun i e j x u hi hj hu=>?_⟩
 ·rw[N5]at hi;split at hi
  ·exact a2 i e hi
  exact b2 _ e hi
 rw[N5]at hi;split at hi
 ·rename_i hlt
  have hj':j<sz:=by have:=a2 i e hi;have:=(aw.1 hj).1;omega
  have hb:(i+1)*sz≤dd.length*sz:=fa _ hlt;rw[ji,Bd]at hb;refine a3 i e j x u hi hj ?_;rw[Array.append_assoc,Gw,bm (by omega)]at hu;exact hu
 rename_i hge;have hil:=(aw.1 hi).1
 have hj':j<sz:=by have:=b2 _ e hi;have:=(aw.1 hj).1;omega
 have hb:(i-dd.length+1)*sz≤ys.length*sz:=fa _ hil;rw[ji,Bd]at hb
 have hs:i*sz=dd.length*sz+(i-dd.length)*sz:=by rw[←ji];congr 1;omega
 refine b3 (i-dd.length) e j x u hi hj ?_;rw[Gw,bm (by rw[Sc];omega),Gw,al (by omega)]at hu;rw[←hu]
 congr 1
 omega
theorem a5y(h:j9 B0 w0 nt G0 s G E a w){y:V}{ys:List (List D)}{osz:Option Nat}{sz:Nat}(hd:qm s y=some (ys,osz))(hz:osz.getD sz=sz){v:Value}(hv:ij G E s y v):
  ∃(xb:Option Addr) (c:Nat) (news:List Value),v= .slice xb ys.length c∧news.length=ys.length*sz∧Holds G E s news.toArray (.arr sz ys)∧(∀u∈news,(ys.all fun e=>e.all D.one)=true→u.oneCell'=true)∧
   (l9 sz ys.length v).run P w= .ok news.toArray w∧(l9 sz ys.length v).run P w.drew= .ok news.toArray w.drew:=by
 have main:∀(b o c:Nat) (hs:∀(i:Nat) (e:List D),ys[i]? =some e→e.length=sz) (cell:Nat→Value),(∀i j,i<ys.length→j<sz→w.cell? ⟨b,o+i*sz+j,none⟩=some (cell (i*sz+j)))→
   (∀(i:Nat) (e:List D) (j:Nat) (x:D),ys[i]? =some e→e[j]? =some x→gj G x (cell (i*sz+j)))→v= .slice (some ⟨b,o,none⟩) ys.length c→
   ∃(xb:Option Addr) (c:Nat) (news:List Value),v= .slice xb ys.length c∧news.length=ys.length*sz∧Holds G E s news.toArray (.arr sz ys)∧(∀u∈news,(ys.all fun e=>e.all D.one)=true→u.oneCell'=true)∧
   (l9 sz ys.length v).run P w= .ok news.toArray w∧(l9 sz ys.length v).run P w.drew= .ok news.toArray w.drew:=by
  intro b o c hs cell Ke hrel hv
  have split:∀k,k<ys.length*sz→∃i j,i<ys.length∧j<sz∧k=i*sz+j:=by
   intro k hk
   have a1y:0<sz:=by
    rcases a74 sz with h0|h0
    ·rw[h0]at hk;simp at hk
    exact h0
   refine⟨k/sz,k%sz,(aIo a1y).2 hk,a73 _ a1y,?_⟩;rw[aK5];exact(Nat.div_add_mod k sz).symm
  have abz:∀k u,((dn (ys.length*sz)).map cell)[k]? =some u→k<ys.length*sz∧u=cell k:=by
   intro k u hu;rw[cw]at hu;by_cases hk:k<ys.length*sz
   ·rw[M5 hk]at hu;exact⟨hk,by simpa using hu.symm⟩
   rw[a6z (by simp;omega)]at hu;cases hu
  have afa:∀k u,((dn (ys.length*sz)).map cell)[k]? =some u→w.cell? ((⟨b,o,none⟩:Addr).add k)=some u:=by
   intro k u hu;obtain⟨hk,rfl⟩:=abz k u hu;obtain⟨i,j,hi,hj,rfl⟩:=split k hk;rw[Ei,←qj];exact Ke i j hi hj
  refine⟨_,c,(dn (ys.length*sz)).map cell,hv,by simp,⟨by simp,hs,fun i e j x u hi hj hu=>?_⟩,fun u hu Ae=>?_,?_,?_⟩
  ·obtain⟨_,rfl⟩:=abz _ u (by simpa using hu);exact hrel i e j x hi hj
  ·obtain⟨k,hk,rfl⟩:=iw.1 hu;obtain⟨i,j,hi,hj,rfl⟩:=split k (ep.1 hk);have he:ys[i]? =some ys[i]:=ax hi
   have hj':j<ys[i].length:=by rw[hs i _ he];exact hj
   refine(hrel i _ j _ he (ax hj')).aem ?_;exact cz.1 (cz.1 Ae _ (cy hi)) _ (cy hj')
  ·rw[hv];exact run_firstCells_some w sz ys.length _ ys.length c _ (by simp) afa
  rw[hv];exact run_firstCells_some w.drew sz ys.length _ ys.length c _ (by simp) afa
 have empty:∀(xb:Option Addr) (c:Nat),ys=[]→v= .slice xb 0 c→∃(xb:Option Addr) (c:Nat) (news:List Value),v= .slice xb ys.length c∧news.length=ys.length*sz∧Holds G E s news.toArray (.arr sz ys)∧(∀u∈news,(ys.all fun e=>e.all D.one)=true→u.oneCell'=true)∧
   (l9 sz ys.length v).run P w= .ok news.toArray w∧(l9 sz ys.length v).run P w.drew= .ok news.toArray w.drew:=by
  intro xb c hy hv;subst hy hv;refine⟨xb,c,[],rfl,by simp,⟨by simp,by simp,by simp⟩,by simp,?_,?_⟩
  ·cases xb with
   |none=>exact run_firstCells_none w sz 0 0 c
   |some b=>exact run_firstCells_some w sz 0 b 0 c [] (by simp) (by simp)
  cases xb with
  |none=>exact run_firstCells_none w.drew sz 0 0 c
  |some b=>exact run_firstCells_some w.drew sz 0 b 0 c [] (by simp) (by simp)
 unfold qm at hd;split at hd
 ·simp only[aj,br]at hd;obtain⟨rfl,rfl⟩:=hd;cases hv;exact empty none 0 rfl rfl
 ·simp only[aj,br]at hd;obtain⟨rfl,rfl⟩:=hd;cases hv;exact empty _ _ rfl rfl
 ·simp only[aj,br]at hd;obtain⟨rfl,rfl⟩:=hd;simp only[j6]at hz;subst hz
  cases hv with
  |V6=>exact empty none 0 rfl rfl
  |Xg=>exact empty _ _ rfl rfl
  | @ft _ _ b o c hc hs k1 k2=>
   refine main b o c hs (fun k=>(G.cv b (o+k)).getD undef) (fun i j hi hj=>?_) (fun i e j x he hx=>?_) rfl
   ·obtain⟨u,hu⟩:=jx.1 (k1 i j hi hj);rw[←qj,hu];exact h.gok.cv _ _ _ hu
   have hil:=(aw.1 he).1;have hjl:j<_:=(aw.1 hx).1;rw[hs i e he]at hjl;obtain⟨u,hu⟩:=jx.1 (k1 i j hil hjl);rw[←qj,hu];exact k2 i e j x u he hx hu
 ·split at hd
  ·rename_i sz' dd he;split at hd
   ·rename_i hl;simp only[aj,br]at hd;obtain⟨rfl,rfl⟩:=hd;simp only[j6]at hz;subst hz;obtain⟨e1,e2⟩:=xm he;obtain⟨_,k2⟩:=hv.2 e1 _ _ (vb e2);obtain⟨cap,c1,c2,rfl⟩:=k2 hl;subst hl;obtain⟨cells,et,hh,hn,hc,hw⟩:=h.xp e2;obtain⟨h5,h6,h7⟩:=hc
    have hlt:∀i j,i<dd.length→j<sz'→i*sz'+j<cells.size:=by
     intro i j hi hj;have:(i+1)*sz'≤dd.length*sz':=fa _ hi;rw[ji]at this;omega
    refine main _ 0 cap h6 (fun k=>(cells[k]?).getD undef) (fun i j hi hj=>?_) (fun i e j x he hx=>?_) rfl
    ·rw[fj,hw,bd (hlt i j hi hj)];rfl
    have hil:=(aw.1 he).1;have hjl:j<_:=(aw.1 hx).1;rw[h6 i e he]at hjl;refine h7 i e j x _ he hx ?_;rw[bd (hlt i j hil hjl)];rfl
   cases hd
  cases hd
 ·rename_i id av n o l;split at hd
  ·rename_i sz' dd he;split at hd
   ·rename_i hl;simp only[aj,br]at hd;obtain⟨rfl,rfl⟩:=hd;simp only[j6]at hz;subst hz;obtain⟨e1,e2⟩:=xm he;obtain⟨_,k2⟩:=hv.2.2 e1 _ _ (vb e2);obtain⟨C,cap,off,c1,c2,c3,c4,c5,rfl⟩:=k2 hl.1;obtain⟨hl1,hl2⟩:=hl;subst hl1
    have hlen:((dd.drop o).take l).length=l:=by simp;omega
    rcases a74 l with hl0|hl0
    ·subst hl0;exact empty _ _ (by simp) rfl
    have Wp:off=o*sz':=c5.resolve_left (fun h0=>absurd hl0 (by rw[h0]at c4;exact aL0.2 c4));subst Wp;obtain⟨cells,et,hh,hn,hc,hw⟩:=h.xp e2;obtain⟨h5,h6,h7⟩:=hc
    have hlt:∀i j,i<dd.length→j<sz'→i*sz'+j<cells.size:=by
     intro i j hi hj;have:(i+1)*sz'≤dd.length*sz':=fa _ hi;rw[ji]at this;omega
    have abz:∀(i:Nat) (e:List D),((dd.drop o).take l)[i]? =some e→dd[o+i]? =some e:=by
     intro i e hi;rw[jo]at hi;split at hi
     ·rwa[oo]at hi
     cases hi
    have aby:∀i j,o*sz'+(i*sz'+j)=(o+i)*sz'+j:=by intro i j;rw[ji];omega
    refine main _ (o*sz') cap (fun i e hi=>h6 _ e (abz i e hi)) (fun k=>(cells[o*sz'+k]?).getD undef) (fun i j hi hj=>?_) (fun i e j x he hx=>?_) (by rw[hlen])
    ·rw[hlen]at hi;have:=hlt (o+i) j (by omega) hj;rw[qj,hw,aby,bd this];rfl
    have he':=abz i e he;have hil:=(aw.1 he').1;have hjl:j<_:=(aw.1 hx).1;rw[h6 _ e he']at hjl;refine h7 (o+i) e j x _ he' hx ?_;rw[aby,bd (hlt _ j hil hjl)];rfl
   cases hd
  cases hd
 cases hd
theorem xv.aem{c:C}{u:Value}(h:xv G E s c u)(hc:c.one s=true):u.oneCell'=true:=by
 cases c with
 |d x=>exact gj.aem h hc
 |ref id av len=>
  simp only[C.one,V.live]at hc;split at hc
  ·rename_i sz n he;obtain⟨e1,e2⟩:=G5 he;obtain⟨_,k2⟩:=h.2 e1 sz n e2;obtain⟨cap,_,_,rfl⟩:=k2 (by simpa using hc);rfl
  cases hc
 |kj id av=>
  simp only[C.one,V.live]at hc;obtain⟨es,he⟩:=jx.1 hc;obtain⟨e1,e2⟩:=F3 he;have e:=h.2 e1 (by rw[e2];rfl);rw[e];rfl
 |ptr id av off=>
  simp only[C.one,V.live]at hc;obtain⟨cs,he⟩:=jx.1 hc;obtain⟨e1,e2⟩:=tv he;have e:=h.2 e1 ⟨_,e2,rfl⟩;rw[e];rfl
theorem Holds.ofD{cells:Array Value}{sz:Nat}{l:List (List D)}(h:Holds G E s cells (.arr sz l)):Holds G E s cells (.qq sz (l.map fun e=>e.map .d)):=h.elc (.inl ⟨l,rfl,rfl⟩)
theorem Holds.toD{cells:Array Value}{sz:Nat}{l:List (List D)}(h:Holds G E s cells (.qq sz (l.map fun e=>e.map .d))):Holds G E s cells (.arr sz l):=by
 obtain⟨h1,h2,h3⟩:=h;refine⟨by simpa using h1,fun i e he=>?_,fun i e j x u he hx hu=>?_⟩
 ·have:=h2 i (e.map .d) (by simp[he]);simpa using this
 exact h3 i (e.map .d) j (.d x) u (by simp[he]) (by simp[hx]) hu
theorem Holds.acy{c1 c2 c3:Array Value}{sz:Nat}{dd ys:List (List C)}(h1:Holds G E s c1 (.qq sz dd))(he:c1.size=dd.length*sz)(h2:Holds G E s c2 (.qq sz ys)):
  Holds G E s (c1++c2++c3) (.qq sz (dd++ys)):=by
 obtain⟨a1,a2,a3⟩:=h1;obtain⟨b1,b2,b3⟩:=h2;refine⟨by simp[ji];omega,fun i e hi=>?_,fun i e j x u hi hj hu=>?_⟩
 ·rw[N5]at hi;split at hi
  ·exact a2 i e hi
  exact b2 _ e hi
 rw[N5]at hi;split at hi
 ·rename_i hlt
  have hj':j<sz:=by have:=a2 i e hi;have:=(aw.1 hj).1;omega
  have hb:(i+1)*sz≤dd.length*sz:=fa _ hlt;rw[ji,Bd]at hb;refine a3 i e j x u hi hj ?_;rw[Array.append_assoc,Gw,bm (by omega)]at hu;exact hu
 rename_i hge;have hil:=(aw.1 hi).1
 have hj':j<sz:=by have:=b2 _ e hi;have:=(aw.1 hj).1;omega
 have hb:(i-dd.length+1)*sz≤ys.length*sz:=fa _ hil;rw[ji,Bd]at hb
 have hs:i*sz=dd.length*sz+(i-dd.length)*sz:=by rw[←ji];congr 1;omega
 refine b3 (i-dd.length) e j x u hi hj ?_;rw[Gw,bm (by rw[Sc];omega),Gw,al (by omega)]at hu;rw[←hu]
 congr 1
 omega
theorem atf(h:j9 B0 w0 nt G0 s G E a w){y:V}{ys:List (List C)}{osz:Option Nat}{sz:Nat}(hd:Yr s y=some (ys,osz))(hz:osz.getD sz=sz){v:Value}(hv:ij G E s y v):
  ∃(xb:Option Addr) (c:Nat) (news:List Value),v= .slice xb ys.length c∧news.length=ys.length*sz∧Holds G E s news.toArray (.qq sz ys)∧((ys.all fun e=>e.all (C.one s))=true→∀u∈news,u.oneCell'=true)∧
   (l9 sz ys.length v).run P w= .ok news.toArray w∧(l9 sz ys.length v).run P w.drew= .ok news.toArray w.drew:=by
 have azz:∀{l:List (List D)},qm s y=some (l,osz)→ys=l.map (fun e=>e.map .d)→
   ∃(xb:Option Addr) (c:Nat) (news:List Value),v= .slice xb ys.length c∧news.length=ys.length*sz∧Holds G E s news.toArray (.qq sz ys)∧((ys.all fun e=>e.all (C.one s))=true→∀u∈news,u.oneCell'=true)∧
   (l9 sz ys.length v).run P w= .ok news.toArray w∧(l9 sz ys.length v).run P w.drew= .ok news.toArray w.drew:=by
  intro l hl e;subst e;obtain⟨xb,c,news,h1,h2,h3,h4,h5,h6⟩:=a5y (P:=P) h hl hz hv;refine⟨xb,c,news,by simpa using h1,by simpa using h2,h3.ofD,fun ho u hu=>h4 u hu ?_,by simpa using h5,by simpa using h6⟩;simp only[List.all_map,cz,Function.comp_apply]at ho⊢;exact fun e he x hx=>ho e he x hx
 cases y with
 |d z=>
  cases z with
  |cq=>
   simp only[Yr,aj,br]at hd;obtain⟨rfl,rfl⟩:=hd;exact azz (l:=[]) rfl rfl
  |Np=>
   simp only[Yr,aj,br]at hd;obtain⟨rfl,rfl⟩:=hd;exact azz (l:=[]) rfl rfl
  |ft sz' l=>
   simp only[Yr,aj,br]at hd;obtain⟨rfl,rfl⟩:=hd;exact azz (l:=l) rfl rfl
  |_=>cases hd
 |ref id av len=>
  simp only[Yr]at hd;split at hd
  ·rename_i sz' dd he;split at hd
   ·rename_i hl;simp only[aj,br]at hd;obtain⟨rfl,rfl⟩:=hd;simp only[j6]at hz;subst hz;obtain⟨e1,b,e2,e3,e4⟩:=Ju he;obtain⟨_,k2⟩:=hv.2 e1 _ _ ((vb e2).trans e3);obtain⟨cap,c1,c2,rfl⟩:=k2 hl;subst hl;obtain⟨cells,et,hh,hn,hc,hw⟩:=h.xp e2;obtain⟨h5,h6,h7⟩:=hc.elc e4
    have afa:∀(w':World),(∀o,w'.cell? ⟨E.b id,o,none⟩=cells[o]?)→(l9 sz' dd.length (.slice (some ⟨E.b id,0,none⟩) dd.length cap)).run P w'= .ok (cells.toList.take (dd.length*sz')).toArray w':=by
     intro w' hw';refine run_firstCells_some w' sz' dd.length _ _ cap _ (by simp;omega) fun j v hj=>?_;rw[jo]at hj;split at hj
     ·rw[Ei,fj,hw'];simpa using hj
     cases hj
    refine⟨_,cap,cells.toList.take (dd.length*sz'),rfl,by simp;omega,⟨by simp;omega,h6,fun i e j c u hi hj hu=>?_⟩,fun ho u hu=>?_,afa w hw,afa w.drew fun o=>by rw[World.cell?_drew,hw]⟩
    ·rw[zh,jo]at hu;split at hu
     ·exact h7 i e j c u hi hj (by simpa using hu)
     cases hu
    obtain⟨k,hk⟩:=aJ3 hu;rw[jo]at hk;split at hk
    ·rename_i hlt
     have a1y:0<sz':=by
      rcases a74 sz' with h0|h0
      ·rw[h0]at hlt;simp at hlt
      exact h0
     have hi:k/sz'<dd.length:=(aIo a1y).2 hlt;have hj:k%sz'<sz':=a73 _ a1y;have he':dd[k/sz']? =some dd[k/sz']:=ax hi
     have hj':k%sz'<dd[k/sz'].length:=by rw[h6 _ _ he'];exact hj
     have hkk:k/sz'*sz'+k%sz'=k:=by rw[aK5];exact Nat.div_add_mod k sz'
     have hr:=h7 _ _ _ _ u he' (ax hj') (by rw[hkk];simpa using hk);exact hr.aem (cz.1 (cz.1 ho _ (cy hi)) _ (cy hj'))
    cases hk
   cases hd
  cases hd
 |_=>cases hd
theorem Tj(xb:Option Addr)(n c:Nat)(w:World):(Builtin.lenOf (.slice xb n c)).run P w= .ok n w:=rfl
theorem a6n{t u e ty:TypeId}{i:TypeInfo}{z:Value}{eu:TypeId}(ht:P.underlying t=some (.slice e))(hu:P.underlying u=some (.slice eu))(hi:P.info? e=some i)(hz:i.zero=some z){args:Array Value}{Ej:Array TypeId}
  {base:Option Addr}{Og a1t n c:Nat}{xb:Option Addr}(ha0:args[0]? =some (.slice base Og a1t))(ha1:args[1]? =some (.slice xb n c))(h0:Ej[0]? =some t)(h1:Ej[1]? =some u)
  {aCt news:List Value}(hro:(l9 i.size Og (.slice base Og a1t)).run P w.drew= .ok aCt.toArray w.drew)(hrn:(l9 i.size n (.slice xb n c)).run P w.drew= .ok news.toArray w.drew)
  (hg:a1t<Og+n)(hb:(Og+n)*i.bytes≤2^47)(hbp:0<i.bytes):
  (y9 Ej ty args).run P w= .ok (.slice (some ⟨w.heap.size,0,none⟩) (Og+n) (grownCap w (Og+n) a1t e))
   (w.drew.alloc (.cells (aCt.toArray++news.toArray++kq z.cells (grownCap w (Og+n) a1t e-(Og+n))) e)):=by
 have hn:¬(Og+n≤a1t):=by omega
 have hle:Og+n≤2^47:=ie (Nat.le_mul_of_pos_right _ hbp) hb
 have aBl:¬(9223372036854775807<((Og:Int)+(n:Int))):=by omega
 have aBm:¬(281474976710656<aJ7 (Og+n) a1t*i.bytes):=by
  have:=growslice_fits (need:=Og+n) (old:=a1t) (bytes:=i.bytes) (by omega) (by omega);omega
 unfold y9;rw[ha0,ha1,h0,h1];simp[run_underlying ht,run_underlying hu,sizeOf,typeInfo,zeroValue,hi,hz,Tj,hn,aBl,aBm,Question.forced,hrn,hro,newRow,grownCap]
 congr 2
 apply Array.ext';simp[oq]
theorem a1e{t u e ty:TypeId}{i:TypeInfo}{eu:TypeId}(ht:P.underlying t=some (.slice e))(hu:P.underlying u=some (.slice eu))(hi:P.info? e=some i){args:Array Value}{Ej:Array TypeId}
  {g Og a1t n c:Nat}{xb:Option Addr}(ha0:args[0]? =some (.slice (some ⟨g,0,none⟩) Og a1t))(ha1:args[1]? =some (.slice xb n c))(h0:Ej[0]? =some t)(h1:Ej[1]? =some u)
  {news:List Value}{cur:Array Value}{et:TypeId}(hg:w.heap[g]? =some (.cells cur et (0,0)))(hrn:(l9 i.size n (.slice xb n c)).run P w= .ok news.toArray w)(Ae:∀u∈news,u.oneCell'=true)
  (a56:Og+n≤a1t)(O3:Og*i.size+news.length≤cur.size):
  (y9 Ej ty args).run P w= .ok (.slice (some ⟨g,0,none⟩) (Og+n) a1t) (w.setRow g (cur.toList.take (Og*i.size)++news++cur.toList.drop (Og*i.size+news.length)).toArray):=by
 have re:=run_storeCells_at P g (Og*i.size) et news 0 cur w hg (by simpa using O3) Ae;simp only[Bw]at re;unfold y9;rw[ha0,ha1,h0,h1];simp[run_underlying ht,run_underlying hu,sizeOf,typeInfo,hi,Tj,a56,hrn,Ei,re]
theorem a1f{t u e ty:TypeId}{i:TypeInfo}{eu:TypeId}(ht:P.underlying t=some (.slice e))(hu:P.underlying u=some (.slice eu))(hi:P.info? e=some i){args:Array Value}{Ej:Array TypeId}
  {base:Option Addr}{c:Nat}{xb:Option Addr}(ha0:args[0]? =some (.slice base 0 0))(ha1:args[1]? =some (.slice xb 0 c))(h0:Ej[0]? =some t)(h1:Ej[1]? =some u)
  (hrn:(l9 i.size 0 (.slice xb 0 c)).run P w= .ok #[] w):
  (y9 Ej ty args).run P w= .ok (.slice base 0 0) w:=by
 unfold y9;rw[ha0,ha1,h0,h1];cases base<;>simp[run_underlying ht,run_underlying hu,sizeOf,typeInfo,hi,Tj,hrn,storeCells]
end
section
variable{P:Program}{B0 nt:Nat}{w0 w w':World}{G0 G G':fy}{s s':PS}{E E':Env}{a:Act}
def qt(P:Program)(B0 nt:Nat)(w0:World)(G0:fy)(a:Act)(w:World)(dst:Option Nat)(run:Result Next)(s':PS):Prop:=
 ∃(n:Next) (v:Value) (w':World) (G':fy) (E':Env) (st:PS) (x:V),run= .ok n w'∧(n= .value v∨(n= .skip∧v=undef))∧j9 B0 w0 nt G0 st G' E' a w'∧ij G' E' st x v∧s'=st.put dst x
theorem qt.val{run:Result Next}{v:Value}{x:V}{dst:Option Nat}(h:j9 B0 w0 nt G0 s G E a w)(hr:run= .ok (.value v) w)(hv:ij G E s x v):qt P B0 nt w0 G0 a w dst run (lk.app dst s (.val x)):=
 ⟨_,v,w,G,E,s,x,hr,.inl rfl,h,hv,rfl⟩
theorem Av{id sz len n:Nat}{b:B}{cap:Nat}{g:Nat}(hb:s'.da id=some b)(hd:b.Cz=some (sz,n))(hE:E'.b id=g)(hn:E'.n id=cap*sz)(hl:n=len)(hc:len≤cap):
  ij G' E' s' (.ref id (s'.av id) len) (.slice (some ⟨g,0,none⟩) len cap):=by
 refine⟨ay _,fun _ sz' n' va=>?_⟩;rw[vb hb,hd]at va;simp only[aj,br]at va;obtain⟨rfl,rfl⟩:=va;exact⟨by omega,fun _=>⟨cap,hn,hc,by rw[hE]⟩⟩
theorem a0g(h:j9 B0 w0 nt G0 s G E a w){t u e ty:TypeId}{i:TypeInfo}{z:Value}{eu:TypeId}(ht:P.underlying t=some (.slice e))(hu:P.underlying u=some (.slice eu))(hi:P.info? e=some i)(hz:i.zero=some z)
  (hbp:0<i.bytes)(hzz:z.cells.size=i.size){args:Array Value}{Ej:Array TypeId}{base xb:Option Addr}{c m:Nat}{ys:List (List C)}{news:List Value}
  (ha0:args[0]? =some (.slice base 0 0))(ha1:args[1]? =some (.slice xb m c))(h0:Ej[0]? =some t)(h1:Ej[1]? =some u)(hm:m=ys.length)
  (hnl:news.length=ys.length*i.size)(hnh:Holds G E s news.toArray (.qq i.size ys))(hr2:(l9 i.size m (.slice xb m c)).run P w.drew= .ok news.toArray w.drew)
  (hne:ys.length≠0)(hb:ys.length*i.bytes≤2^47)(id:Nat){nb:B}(hd:nb.Cz=some (i.size,ys.length))(hnb:∀cells,Holds G E s cells (.qq i.size ys)→Holds G E s cells nb):
  ∃v w' E',(y9 Ej ty args).run P w= .ok v w'∧j9 B0 w0 nt G0 {s with da:=lb s.da id (some nb),av:=lb s.av id (s.av id+1)} G E' a w'∧
   ij G E' {s with da:=lb s.da id (some nb),av:=lb s.av id (s.av id+1)} (.ref id (s.av id+1) ys.length) v∧
   E'.m=E.m∧∀(g:Nat) (en:Array MapEntry) (cl:Nat),w.heap[g]? =some (Obj.map en cl)→w'.heap[g]? =some (Obj.map en cl):=by
 subst hm
 have hro:(l9 i.size 0 (.slice base 0 0)).run P w.drew= .ok ([]:List Value).toArray w.drew:=by
  cases base with
  |none=>exact run_firstCells_none w.drew i.size 0 0 0
  |some b=>exact run_firstCells_some w.drew i.size 0 b 0 0 [] (by simp) (by simp)
 have run:=a6n (ty:=ty) ht hu hi hz ha0 ha1 h0 h1 hro hr2 (by omega) (by rw[fj];exact hb) hbp;simp only[fj]at run
 have To:Holds G E s (([]:List Value).toArray++news.toArray++kq z.cells (grownCap w ys.length 0 e-ys.length)) (.qq i.size ys):=by
  have:=Holds.acy (c1:= #[]) (c3:=kq z.cells (grownCap w ys.length 0 e-ys.length)) (dd:=[]) (⟨by simp,by simp,by simp⟩:Holds G E s #[] (.qq i.size [])) (by simp) hnh;simpa using this
 have hf:=h.drew.new id nb _ e (hnb _ To);have hge:=grownCap_ge w ys.length 0 e;refine⟨_,_,_,run,hf,?_,rfl,fun g en cl hg=>(Ax _ _ _ (ig.1 hg).1).trans hg⟩;have:=Av (G':=G) (s':={s with da:=lb s.da id (some nb),av:=lb s.av id (s.av id+1)})
  (E':={E with b:=lb E.b id w.drew.heap.size,n:=lb E.n id (([]:List Value).toArray++news.toArray++kq z.cells (grownCap w ys.length 0 e-ys.length)).size}) (id:=id) (sz:=i.size) (len:=ys.length) (cap:=grownCap w ys.length 0 e) (g:=w.heap.size)
  (ck _ _ _) hd (ck _ _ _) (by
   show lb E.n id _ id=_;rw[ck];simp only[Sc,W0,ed,fj,size_zeroCells,hnl,hzz];rw[←ji]
   congr 1
   omega) rfl hge
 have hv:lb s.av id (s.av id+1) id=s.av id+1:=ck _ _ _;simpa[hv]using this
theorem a6o(h:j9 B0 w0 nt G0 s G E a w){t u e ty:TypeId}{i:TypeInfo}{z:Value}{eu:TypeId}(ht:P.underlying t=some (.slice e))(hu:P.underlying u=some (.slice eu))(hi:P.info? e=some i)(hz:i.zero=some z)
  (hbp:0<i.bytes)(hzz:z.cells.size=i.size){args:Array Value}{Ej:Array TypeId}{vx:Value}{xb:Option Addr}{c m:Nat}{ys:List (List C)}{news:List Value}
  (ha0:args[0]? =some vx)(ha1:args[1]? =some (.slice xb m c))(h0:Ej[0]? =some t)(h1:Ej[1]? =some u)(hm:m=ys.length)
  (hnl:news.length=ys.length*i.size)(hnh:Holds G E s news.toArray (.qq i.size ys))(Bc:∀u∈news,u.oneCell'=true)
  (hr1:(l9 i.size m (.slice xb m c)).run P w= .ok news.toArray w)(hr2:(l9 i.size m (.slice xb m c)).run P w.drew= .ok news.toArray w.drew)
  {id av:Nat}{dd:List (List C)}(hle:s.elc id av=some (i.size,dd))(hx:ij G E s (.ref id av dd.length) vx)(hb:(dd.length+ys.length)*i.bytes≤2^47)
  {nb:B}(hd:nb.Cz=some (i.size,dd.length+ys.length))(hnb:∀cells,Holds G E s cells (.qq i.size (dd++ys))→Holds G E s cells nb)(hiv:nb.isVar=false):
  ∃v w' E',(y9 Ej ty args).run P w= .ok v w'∧j9 B0 w0 nt G0 {s with da:=lb s.da id (some nb)} G E' a w'∧
   ij G E' {s with da:=lb s.da id (some nb)} (.ref id av (dd.length+ys.length)) v∧
   E'.m=E.m∧∀(g:Nat) (en:Array MapEntry) (cl:Nat),w.heap[g]? =some (Obj.map en cl)→w'.heap[g]? =some (Obj.map en cl):=by
 subst hm;obtain⟨e1,b,e2,e3,e4⟩:=Ju hle;obtain⟨_,k2⟩:=hx.2 e1 _ _ ((vb e2).trans e3);obtain⟨cap,c1,c2,rfl⟩:=k2 rfl;obtain⟨cells,et,hh,hn,hc,hw⟩:=h.xp e2;obtain⟨h5,h6,h7⟩:=hc.elc e4
 have hbv:b.isVar=false:=by rcases e4 with ⟨_,rfl,_⟩|rfl<;>rfl
 have htk:Holds G E s (cells.toList.take (dd.length*i.size)).toArray (.qq i.size dd):=by
  refine⟨by simp;omega,h6,fun k e j x u hk hj hu=>h7 k e j x u hk hj ?_⟩;rw[zh,jo]at hu;split at hu
  ·simpa using hu
  cases hu
 have aB0:(cells.toList.take (dd.length*i.size)).toArray.size=dd.length*i.size:=by simp;omega
 by_cases a56:dd.length+ys.length≤cap
 ·have O3:dd.length*i.size+news.length≤cells.size:=by
   refine ie ?_ hn;rw[c1,hnl,←ji];exact fa _ a56
  have run:=a1e (ty:=ty) ht hu hi ha0 ha1 h0 h1 hh hr1 Bc a56 O3
  have hh2:Holds G E s (cells.toList.take (dd.length*i.size)++news++cells.toList.drop (dd.length*i.size+news.length)).toArray (.qq i.size (dd++ys)):=by
   have:=Holds.acy (c3:=(cells.toList.drop (dd.length*i.size+news.length)).toArray) htk aB0 hnh;simpa using this
  have hal:Alike b nb:=⟨hbv.trans hiv.symm,fun sz' n' h'=>by
   rw[hd]at h';simp only[aj,br]at h';obtain⟨rfl,rfl⟩:=h'
   exact⟨_,e3,by omega⟩⟩
  have hf:=h.set e2 hal (A0.setRow hh _) (by simp;omega) (hnb _ hh2);refine⟨_,_,E,run,hf,?_,rfl,fun g en cl hg=>?_⟩;rotate_left
  ·refine((A0.setRow hh _).other g fun e=>?_).trans hg;rw[e,hh]at hg;cases hg
  subst e1;exact Av (s':={s with da:=lb s.da id (some nb)}) (ck _ _ _) hd rfl c1 rfl a56
 have a1y:0<ys.length:=by omega
 have hro:(l9 i.size dd.length (.slice (some ⟨E.b id,0,none⟩) dd.length cap)).run P w.drew= .ok (cells.toList.take (dd.length*i.size)).toArray w.drew:=by
  refine run_firstCells_some w.drew i.size dd.length _ _ cap _ (by simp;omega) fun j v hj=>?_;rw[jo]at hj;split at hj
  ·rw[Ei,fj,World.cell?_drew,hw];simpa using hj
  cases hj
 have run:=a6n (ty:=ty) ht hu hi hz ha0 ha1 h0 h1 hro hr2 (by omega) hb hbp;have hh2:Holds G E s ((cells.toList.take (dd.length*i.size)).toArray++news.toArray++kq z.cells (grownCap w (dd.length+ys.length) cap e-(dd.length+ys.length))) (.qq i.size (dd++ys)):=Holds.acy htk aB0 hnh;have hf:=h.drew.aAe e2 e3 hd (by omega) _ e (hnb _ hh2);have hge:=grownCap_ge w (dd.length+ys.length) cap e;refine⟨_,_,_,run,hf,?_,rfl,fun g en cl hg=>(Ax _ _ _ (ig.1 hg).1).trans hg⟩;subst e1;refine Av (s':={s with da:=lb s.da id (some nb)}) (cap:=grownCap w (dd.length+ys.length) cap e) (ck _ _ _) hd (ck _ _ _) ?_ rfl hge;show lb E.n id _ id=_;rw[ck];simp only[Sc,aB0,W0,size_zeroCells,hnl,hzz];rw[←ji,←ji]
 congr 1
 omega
theorem Holds.aHr{cells:Array Value}{sz m:Nat}{dd:List (List D)}(h:Holds G E s cells (.arr sz dd)):Holds G E s (cells.toList.take (m*sz)).toArray (.arr sz (dd.take m)):=by
 obtain⟨h1,h2,h3⟩:=h
 have hl:(dd.take m).length*sz≤(cells.toList.take (m*sz)).length:=by
  have:(dd.take m).length*sz≤dd.length*sz:=fa _ (av3 _ _);have:(dd.take m).length*sz≤m*sz:=fa _ (List.length_take_le _ _)
  simp only[dw,qa]at*
  omega
 refine⟨by simpa using hl,fun i e hi=>?_,fun i e j x u hi hj hu=>?_⟩
 ·rw[jo]at hi;split at hi
  ·exact h2 i e hi
  cases hi
 rw[jo]at hi;split at hi
 ·rw[zh,jo]at hu;split at hu
  ·exact h3 i e j x u hi hj (by simpa using hu)
  cases hu
 cases hi
theorem Holds.aEi{cells:Array Value}{sz m:Nat}{dd:List (List D)}(h:Holds G E s cells (.arr sz dd)):Holds G E s (cells.toList.drop (m*sz)).toArray (.arr sz (dd.drop m)):=by
 obtain⟨h1,h2,h3⟩:=h;refine⟨?_,fun i e hi=>?_,fun i e j x u hi hj hu=>?_⟩
 ·simp only[uv,W0,qa,Nat.sub_mul];omega
 ·rw[oo]at hi;exact h2 _ e hi
 rw[oo]at hi;rw[zh,oo]at hu;refine h3 (m+i) e j x u hi hj ?_
 have e1:(m+i)*sz+j=m*sz+(i*sz+j):=by rw[ji];omega
 rw[e1];simpa using hu
theorem Holds.apy{cells:Array Value}{sz k:Nat}{dd ys:List (List D)}{news:List Value}(h:Holds G E s cells (.arr sz dd))(hl:k+ys.length≤dd.length)(hnl:news.length=ys.length*sz)(hn:Holds G E s news.toArray (.arr sz ys)):
  Holds G E s (cells.toList.take (k*sz)++news++cells.toList.drop (k*sz+news.length)).toArray (.arr sz (dd.take k++ys++dd.drop (k+ys.length))):=by
 have hc:k*sz≤cells.size:=by
  have:k*sz≤dd.length*sz:=fa _ (by omega);have:=h.1;omega
 have h1:=(h.aHr (m:=k)).append (c3:= #[]) (by simp only[W0,dw,qa];rw[akd hc,akd (by omega)]) hn;have h2:=h.aEi (m:=k+ys.length);have h3:=h1.append (c3:= #[]) (by simp only[Sc,W0,dw,qa,db,hnl];rw[akd hc,akd (by omega),ji];rfl) h2
 have e:k*sz+news.length=(k+ys.length)*sz:=by rw[hnl,ji]
 rw[e];simpa using h3
theorem a6p(h:j9 B0 w0 nt G0 s G E a w){t u e ty:TypeId}{i:TypeInfo}{z:Value}{eu:TypeId}(ht:P.underlying t=some (.slice e))(hu:P.underlying u=some (.slice eu))(hi:P.info? e=some i)(hz:i.zero=some z)
  (hbp:0<i.bytes)(hzz:z.cells.size=i.size){args:Array Value}{Ej:Array TypeId}{x y:V}{vx vy:Value}(ha0:args[0]? =some vx)(ha1:args[1]? =some vy)(h0:Ej[0]? =some t)(h1:Ej[1]? =some u)
  (hx:ij G E s x vx)(hy:ij G E s y vy){d:Nat}{dst:Option Nat}{ids:List Nat}{ef:lk}(he:Q5 s d i.size i.bytes x y=some (ids,ef)):
  qt P B0 nt w0 G0 a w dst (((y9 Ej ty args).run P w).andThen fun v w=> .ok (.value v) w) (ef.app dst (s.ta ids)):=by
 unfold Q5 at he;split at he
 ·rename_i ys osz ast;split at he
  ·rename_i hcond;obtain⟨asj,Ae⟩:=hcond;obtain⟨xb,c,news,rfl,hnl,hnh,Bc,hr1,hr2⟩:=atf (P:=P) h ast asj hy;split at he
   ·cases hx;split at he
    ·rename_i h0';simp only[aj,lk.rz,br]at he;obtain⟨rfl,rfl⟩:=he;have hys:ys=[]:=ix h0';subst hys;have asl:news=[]:=ix (by simpa using hnl);subst asl;have run:=a1f (ty:=ty) ht hu hi ha0 ha1 h0 h1 hr1;rw[run];exact qt.val h rfl gj.cq
    rename_i h0';split at he
    ·rename_i hb;simp only[aj,br]at he;obtain⟨rfl,rfl⟩:=he;obtain⟨v,w',E',k1,k2,k3,_⟩:=a0g (ty:=ty) h ht hu hi hz hbp hzz ha0 ha1 h0 h1 rfl hnl hnh hr2 h0' hb d (nb:= .qq i.size ys) rfl (fun _ q=>q);rw[k1];exact⟨_,v,w',G,E',_,_,rfl,.inl rfl,k2,k3,rfl⟩
    cases he
   ·rename_i id av n0;split at he
    ·rename_i sz' dd hle;split at he
     ·rename_i hc;simp only[aj,br]at he;obtain⟨rfl,rfl⟩:=he;obtain⟨rfl,rfl,hb⟩:=hc;obtain⟨v,w',E',k1,k2,k3,_⟩:=a6o (ty:=ty) h ht hu hi hz hbp hzz ha0 ha1 h0 h1 rfl hnl hnh (Bc Ae) hr1 hr2 hle hx hb (nb:= .qq i.size (dd++ys)) (by simp[B.Cz]) (fun _ q=>q) rfl;rw[k1];exact⟨_,v,w',G,E',_,_,rfl,.inl rfl,k2,k3,rfl⟩
     cases he
    cases he
   cases he
  cases he
 cases he
theorem auk{ys:List (List D)}(h:(ys.all fun e=>e.all D.one)=true):((ys.map fun e=>e.map C.d).all fun e=>e.all (C.one s))=true:=by
 simp only[cz,iw]at h⊢;rintro e ⟨e',he',rfl⟩ c hc;obtain⟨x,hx,rfl⟩:=iw.1 hc;exact h e' he' x hx
theorem apd(h:j9 B0 w0 nt G0 s G E a w){t u e ty:TypeId}{i:TypeInfo}{z:Value}{eu:TypeId}(ht:P.underlying t=some (.slice e))(hu:P.underlying u=some (.slice eu))(hi:P.info? e=some i)(hz:i.zero=some z)
  (B6:0<i.size)(hbp:0<i.bytes)(hzz:z.cells.size=i.size){args:Array Value}{Ej:Array TypeId}{x y:me}{vx vy:Value}(ha0:args[0]? =some vx)(ha1:args[1]? =some vy)(h0:Ej[0]? =some t)(h1:Ej[1]? =some u)
  (hx:ij G E s (x.ev s) vx)(hy:ij G E s (y.ev s) vy){d:Nat}{dst:Option Nat}{ids:List Nat}{ef:lk}(he:(jv.app i.size i.bytes x y).og d s=some (ids,ef)):
  qt P B0 nt w0 G0 a w dst (((y9 Ej ty args).run P w).andThen fun v w=> .ok (.value v) w) (ef.app dst (s.ta ids)):=by
 simp only[jv.og]at he;split at he
 ·rename_i ys osz ast;split at he
  ·rename_i asj;obtain⟨xb,c,news,rfl,hnl,hnh,Bc,hr1,hr2⟩:=a5y (P:=P) h ast asj hy;split at he
   ·rename_i hxe;rw[hxe]at hx;cases hx;split at he
    ·rename_i h0';simp only[aj,lk.rz,br]at he;obtain⟨rfl,rfl⟩:=he;have hys:ys=[]:=ix h0';subst hys;have asl:news=[]:=ix (by simpa using hnl);subst asl;have run:=a1f (ty:=ty) ht hu hi ha0 ha1 h0 h1 hr1;rw[run];exact qt.val h rfl gj.cq
    rename_i h0';split at he
    ·rename_i hb;simp only[aj,br]at he;obtain⟨rfl,rfl⟩:=he;obtain⟨v,w',E',k1,k2,k3,_⟩:=a0g (ty:=ty) h ht hu hi hz hbp hzz (ys:=ys.map fun e=>e.map .d) ha0 ha1 h0 h1 (by simp) (by simpa using hnl) hnh.ofD hr2 (by simpa using h0') (by simpa using hb) d (nb:= .arr i.size ys) (by simp[B.Cz]) (fun _ q=>q.toD);rw[k1];simp only[ag]at k3;exact⟨_,v,w',G,E',_,_,rfl,.inl rfl,k2,k3,rfl⟩
    cases he
   ·rename_i id av n0 hxe;rw[hxe]at hx;split at he
    ·rename_i sz' dd hle;split at he
     ·rename_i hc;simp only[aj,br]at he;obtain⟨rfl,rfl⟩:=he;obtain⟨Ae,rfl,rfl,hb⟩:=hc;obtain⟨v,w',E',k1,k2,k3,_⟩:=a6o (ty:=ty) h ht hu hi hz hbp hzz (ys:=ys.map fun e=>e.map .d) ha0 ha1 h0 h1 (by simp) (by simpa using hnl) hnh.ofD (fun u hu=>Bc u hu Ae) hr1 hr2 (a5z hle) (by simpa using hx) (by simpa using hb)
       (nb:= .arr i.size (dd++ys)) (by simp[B.Cz]) (fun _ q=>Holds.toD (by simpa using q)) rfl
      rw[k1];simp only[ag]at k3;exact⟨_,v,w',G,E',_,_,rfl,.inl rfl,k2,k3,rfl⟩
     cases he
    exact a6p h ht hu hi hz hbp hzz ha0 ha1 h0 h1 hx hy he
   ·rename_i id av n o k hxe;rw[hxe]at hx;split at he
    ·rename_i sz' dd hle;split at he
     ·rename_i hc;simp only[aj,br]at he;obtain⟨rfl,rfl⟩:=he;obtain⟨Ae,rfl,hl1,rfl,hl2⟩:=hc;obtain⟨e1,e2⟩:=xm hle;obtain⟨hn0,_,k2⟩:=hx;obtain⟨_,k3⟩:=k2 e1 _ _ (vb e2);obtain⟨C,cap,off,c1,c2,c3,c4,c5,rfl⟩:=k3 hl1;obtain⟨hn1,hn2⟩:=hn0
      have afg:cap≠0:=fun h0=>by rw[h0]at c2;exact aL0.2 c2 (by rw[Bw];exact hn2)
      have Wp:off=0:=by rw[c5.resolve_left afg,aly]
      subst Wp;obtain⟨cells,et,hh,hn,hc,hw⟩:=h.xp e2;have aI3:cap*i.size≤C*i.size:=fa _ (by omega);have hk':(k+ys.length)*i.size≤cap*i.size:=fa _ (by omega)
      have O3:k*i.size+news.length≤cells.size:=by
       rw[hnl,←ji];omega
      have run:=a1e (ty:=ty) ht hu hi ha0 ha1 h0 h1 hh hr1 (fun u hu=>Bc u hu Ae) (by omega) O3;have hh2:=hc.apy (k:=k) (ys:=ys) (news:=news) (by omega) hnl hnh
      have hlen:(dd.take k++ys++dd.drop (k+ys.length)).length=dd.length:=by simp;omega
      have hal:Alike (.arr i.size dd) (.arr i.size (dd.take k++ys++dd.drop (k+ys.length))):=Alike.arr (by omega);have hf:=h.set e2 hal (A0.setRow hh _) (by simp;omega) hh2;rw[run];refine⟨_,_,_,G,E,_,.win id av n 0 (k+ys.length),rfl,.inl rfl,hf,⟨⟨by omega,hn2⟩,aJl e1.symm,fun _ sz' m hd=>?_⟩,rfl⟩;simp only[PS.Cz,ck,Of,B.Cz,aj,br]at hd;obtain⟨rfl,rfl⟩:=hd;exact⟨by omega,fun _=>⟨C,cap,0,c1,c2,c3,by omega,.inr (aly _).symm,rfl⟩⟩
     cases he
    cases he
   cases he
  cases he
 exact a6p h ht hu hi hz hbp hzz ha0 ha1 h0 h1 hx hy he
end
section
variable{P:Program}{B0 nt:Nat}{w0 w w':World}{G0 G G':fy}{s s':PS}{E E':Env}{a:Act}
theorem at6(off:Nat):∀(l:List Value) (k:Nat) (cells:Array Value) (m:Nat),off+k+l.length≤cells.size→
  ((l.zipIdx k).foldl (fun cs p=>cs.setIfInBounds (off+p.2) p.1) cells).size=cells.size∧
  ((l.zipIdx k).foldl (fun cs p=>cs.setIfInBounds (off+p.2) p.1) cells)[m]? =if off+k≤m∧m<off+k+l.length then l[m-off-k]? else cells[m]? :=by
 intro l
 induction l with
 |nil=>intro k cells m h;simp;intro h1 h2;omega
 |cons v l ih=>
  intro k cells m h;simp only[List.zipIdx_cons,qe,ca]at h⊢;obtain⟨i1,i2⟩:=ih (k+1) (cells.setIfInBounds (off+k) v) m (by simp;omega);refine⟨by rw[i1];simp,?_⟩;rw[i2];by_cases h1:off+(k+1)≤m∧m<off+(k+1)+l.length
  ·rw[bm h1,bm (by omega)]
   have:m-off-k=(m-off-(k+1))+1:=by omega
   rw[this,gl]
  rw[al h1];by_cases h2:m=off+k
  ·subst h2;rw[bm (by omega),T5,bm (by omega)]
   have:off+k-off-k=0:=by omega
   rw[this];rfl
  rw[al (by omega),W3 (by omega)]
theorem aj5(v:Value)(off:Nat)(cells:Array Value)(h:off+v.cells.size≤cells.size):
  v.cells.zipIdx.foldl (fun cs (p:Value×Nat)=>cs.setIfInBounds (off+p.2) p.1) cells=(patch cells.toList off v.cells.toList).toArray:=by
 have hz:v.cells.zipIdx.foldl (fun cs (p:Value×Nat)=>cs.setIfInBounds (off+p.2) p.1) cells=(v.cells.toList.zipIdx 0).foldl (fun cs p=>cs.setIfInBounds (off+p.2) p.1) cells:=by
  rw[←Array.foldl_toList];simp
 rw[hz]
 have hl:off+v.cells.toList.length≤cells.toList.length:=by simpa using h
 apply Array.ext_getElem?;intro m
 have e:(patch cells.toList off v.cells.toList).toArray[m]? =(patch cells.toList off v.cells.toList)[m]? :=by simp
 rw[(at6 off v.cells.toList 0 cells m (by simpa using h)).2,e,Dh _ _ _ hl];simp
def Nh(G:fy)(E:Env)(s:PS)(cs:List C)(us:Array Value):Prop:=us.size=cs.length∧∀(i:Nat) (c:C) (u:Value),cs[i]? =some c→us[i]? =some u→xv G E s c u
theorem Nh.patch{cs xs:List C}{us vs:Array Value}{off:Nat}(h:Nh G E s cs us)(hx:Nh G E s xs vs)(hl:off+xs.length≤cs.length):Nh G E s (patch cs off xs) (patch us.toList off vs.toList).toArray:=by
 obtain⟨a1,a2⟩:=h;obtain⟨b1,b2⟩:=hx
 have hv:off+vs.toList.length≤us.toList.length:=by simp;omega
 refine⟨by simp[qc _ _ _ hv,qc _ _ _ hl,a1],fun i c u hc hu=>?_⟩;rw[Dh _ _ _ hl]at hc;rw[zh,Dh _ _ _ hv]at hu;simp only[qa,b1]at hu;split at hc
 ·rename_i hin;rw[bm hin]at hu;exact b2 _ c u hc (by simpa using hu)
 rename_i hin;rw[al hin]at hu;exact a2 i c u hc (by simpa using hu)
theorem Yp{place:Nat→Option (Nat×Nat)}{ev:Operand→Value}:∀{l:List (Nat×Operand)} {ps:List (Nat×Nat×List C)} {cs out:List C} {us:Array Value},
  ps.length=l.length→(∀(i:Nat) (p:Nat×Operand) (q:Nat×Nat×List C),l[i]? =some p→ps[i]? =some q→place p.1=some (q.1,q.2.1)∧Nh G E s q.2.2 (ev p.2).cells)→
  Ly cs ps=some out→Nh G E s cs us→∃vs,Instr.fill place us (l.map fun p=>(p.1,ev p.2))=some vs∧Nh G E s out vs:=by
 intro l
 induction l with
 |nil=>
  intro ps cs out us hl hp hf hr
  cases ps with
  |nil=>simp only[Ly,aj]at hf;subst hf;exact⟨us,rfl,hr⟩
  |cons _ _=>simp at hl
 |cons p l ih=>
  intro ps cs out us hl hp hf hr
  cases ps with
  |nil=>simp at hl
  |cons q ps=>
   obtain⟨o,n,xs⟩:=q;simp only[Ly]at hf;split at hf
   ·rename_i hc;obtain⟨k1,k2⟩:=hp 0 p (o,n,xs) rfl rfl;simp only at k1 k2;simp only[gf,Instr.fill,k1];have B6:=k2.1;have hus:=hr.1;rw[al (by simp;omega)];rw[aj5 _ _ _ (by omega)];exact ih (by simpa using hl) (fun i p' q' h1 h2=>hp (i+1) p' q' (by simpa using h1) (by simpa using h2)) hf (hr.patch k2 (by omega))
   cases hf
theorem al7{cs:List C}{us:Array Value}(h:Nh G E s cs us):ij G E s (mkv true cs) (.agg us):=by
 unfold mkv
 cases hd:Om cs with
 |some ds=>
  have e:=R9 hd;subst e;exact gj.agg (by simpa using h.1) fun i x v hx hv=>h.2 i (.d x) v (by simp[hx]) hv
 |none=>exact Eu.2 ⟨us,rfl,h.1,h.2⟩
theorem atl:∀{l:List Value} {ds:List D},ag6 l=some ds→∀(w0 w:World) (h:j9 B0 w0 nt G0 s G E a w),l.length=ds.length∧∀(i:Nat) (x:D) (v:Value),ds[i]? =some x→l[i]? =some v→gj G x v:=by
 intro l ds hd w0 w h
 have hv:X1 (.agg l.toArray)=some (.agg ds):=by simp[X1,hd]
 have:=h.ev (x:= .const (.agg l.toArray)) (o:= .c (.agg ds)) (by simp[ur,hv])
 cases this with
 |agg hl hh=>exact⟨by simpa using hl,fun i x v hx hv=>hh i x v hx (by simpa using hv)⟩
theorem Fi{t:TypeId}{z:List D}(hz:Fj P t=some z)(h:j9 B0 w0 nt G0 s G E a w):∃v,(P.info? t).bind (·.zero)=some v∧(∀w,(zeroValue t).run P w= .ok v w)∧Nh G E s (z.map .d) v.cells:=by
 unfold Fj at hz;split at hz
 ·rename_i v hv;obtain⟨k1,k2⟩:=atl hz w0 w h;refine⟨v,hv,fun w=>?_,by simpa using k1,fun i c u hc hu=>?_⟩
  ·cases hi:P.info? t with
   |none=>rw[hi]at hv;cases hv
   |some i=>
    rw[hi]at hv;simp only[Of]at hv;simp[zeroValue,typeInfo,hi,hv]
  simp only[cw,ao]at hc;obtain⟨x,hx,rfl⟩:=hc;exact k2 i x u hx (by simpa using hu)
 cases hz
theorem Zi(h:j9 B0 w0 nt G0 s G E a w){get:Nat→Operand→Option (Nat×Nat)}:
  ∀{l:List (Nat×Operand)} {qs:List (Nat×Nat×me)} {ps:List (Nat×Nat×List C)},qs.length=l.length→
   (∀(i:Nat) (p:Nat×Operand) (q:Nat×Nat×me),l[i]? =some p→qs[i]? =some q→get p.1 p.2=some (q.1,q.2.1)∧ur p.2=some q.2.2)→Jk s qs=some ps→
   ps.length=l.length∧∀(i:Nat) (p:Nat×Operand) (q:Nat×Nat×List C),l[i]? =some p→ps[i]? =some q→get p.1 p.2=some (q.1,q.2.1)∧Nh G E s q.2.2 (a.eval p.2).cells:=by
 intro l
 induction l with
 |nil=>
  intro qs ps hl _ hp
  cases qs with
  |nil=>simp only[Jk,aj]at hp;subst hp;simp
  |cons _ _=>simp at hl
 |cons p l ih=>
  intro qs ps hl hq hp
  cases qs with
  |nil=>simp at hl
  |cons q qs=>
   obtain⟨o,n,x⟩:=q;simp only[Jk]at hp;split at hp
   ·rename_i cs ps' h1 h2
    injection hp with hp
    subst hp;obtain⟨i1,i2⟩:=ih (by simpa using hl) (fun i p' q' a b=>hq (i+1) p' q' (by simpa using a) (by simpa using b)) h2;refine⟨by simp[i1],fun i p' q' hp' hq'=>?_⟩
    cases i with
    |zero=>
     simp at hp' hq';subst hp' hq';obtain⟨k1,k2⟩:=hq 0 p (o,n,x) rfl rfl;obtain⟨c1,c2⟩:=R6 h1 (h.ev k2);exact⟨k1,c1,c2⟩
    |succ i=>simp at hp' hq';exact i2 i p' q' hp' hq'
   cases hp
theorem aft{fs:Array Field}:∀{l:List (Nat×Operand)} {qs:List (Nat×Nat×me)},a05 P fs l=some qs→qs.length=l.length∧
  ∀(i:Nat) (p:Nat×Operand) (q:Nat×Nat×me),l[i]? =some p→qs[i]? =some q→(∃f,fs[p.1]? =some f∧f.offset=q.1∧kn P f.type=some q.2.1)∧ur p.2=some q.2.2:=by
 intro l
 induction l with
 |nil=>intro qs h;simp only[a05,aj]at h;subst h;simp
 |cons p l ih=>
  intro qs h;obtain⟨j,x⟩:=p;simp only[a05]at h;split at h
  ·rename_i f o l' h1 h2 h3;split at h
   ·rename_i n hn
    injection h with h
    subst h;obtain⟨i1,i2⟩:=ih h3;refine⟨by simp[i1],fun i p' q' hp' hq'=>?_⟩
    cases i with
    |zero=>simp at hp' hq';subst hp' hq';exact⟨⟨f,h1,rfl,hn⟩,h2⟩
    |succ i=>simp at hp' hq';exact i2 i p' q' hp' hq'
   cases h
  cases h
theorem U1{n:Nat}:∀{l:List (Nat×Operand)} {qs:List (Nat×Nat×me)},Q4 n l=some qs→qs.length=l.length∧
  ∀(i:Nat) (p:Nat×Operand) (q:Nat×Nat×me),l[i]? =some p→qs[i]? =some q→(p.1*n=q.1∧n=q.2.1)∧ur p.2=some q.2.2:=by
 intro l
 induction l with
 |nil=>intro qs h;simp only[Q4,aj]at h;subst h;simp
 |cons p l ih=>
  intro qs h;obtain⟨j,x⟩:=p;simp only[Q4]at h;split at h
  ·rename_i o l' h2 h3
   injection h with h
   subst h;obtain⟨i1,i2⟩:=ih h3;refine⟨by simp[i1],fun i p' q' hp' hq'=>?_⟩
   cases i with
   |zero=>simp at hp' hq';subst hp' hq';exact⟨⟨rfl,rfl⟩,h2⟩
   |succ i=>simp at hp' hq';exact i2 i p' q' hp' hq'
  cases h
theorem aez{fs:Array Field}(hall:∀f∈fs.toList,∃n,kn P f.type=some n)(w:World):
  (fs.mapM fun(f:Field)=>(do pure (f.offset,←sizeOf f.type):Sem (Nat×Nat))).run P w= .ok (fs.map fun f=>(f.offset,P.cellsOf f.type)) w:=by
 have key:∀(l:List Field),(∀f∈l,∃n,kn P f.type=some n)→(l.mapM fun(f:Field)=>(do pure (f.offset,←sizeOf f.type):Sem (Nat×Nat))).run P w= .ok (l.map fun f=>(f.offset,P.cellsOf f.type)) w:=by
  intro l
  induction l with
  |nil=>intro _;simp
  |cons f l ih=>
   intro hl;obtain⟨n,hn⟩:=hl f (by simp)
   have hc:P.cellsOf f.type=n:=by
    unfold kn at hn;unfold aEy;rw[hn];rfl
   rw[List.mapM_cons];simp only[cb,qx hn,bh,eh,ih (fun f hf=>hl f (by simp[hf])),gf,hc]
 have:=key fs.toList hall;rw[aal,aKo,this];simp only[bh]
 congr 1
 apply Array.ext';simp
theorem acr(h:j9 B0 w0 nt G0 s G E a w){t:TypeId}{fs:Array Field}{ps:Array (Nat×Operand)}{z:List D}{qs:List (Nat×Nat×me)}(hu:P.underlying t=some (.struct fs))(hz:Fj P t=some z)
  (hall:fs.toList.all (fun f=>(kn P f.type).isSome)=true)(hq:a05 P fs ps.toList=some qs){pc:List (Nat×Nat×List C)}{cs:List C}(hp:Jk s qs=some pc)(hf:Ly (z.map .d) pc=some cs):
  ∃us,(aKe t (ps.map fun(p:Nat×Operand)=>(p.1,a.eval p.2))).run P w= .ok (.agg us) w∧Nh G E s cs us:=by
 obtain⟨zv,hzv,hzr,hzc⟩:=Fi hz h;obtain⟨q1,q2⟩:=aft hq;have B6:∀f∈fs.toList,∃n,kn P f.type=some n:=fun f hf=>jx.1 (cz.1 hall f hf)
 have Ke:∀f n,kn P f=some n→P.cellsOf f=n:=by
  intro f n hn;unfold kn at hn;unfold aEy;rw[hn];rfl
 obtain⟨r1,r2⟩:=Zi h (get:=fun j _=>(fs[j]?).map fun f=>(f.offset,P.cellsOf f.type)) q1 (fun i p q hp hq=>by
  obtain⟨⟨f,hf1,hf2,hf3⟩,hc⟩:=q2 i p q hp hq
  exact⟨by simp[hf1,hf2,Ke _ _ hf3],hc⟩) hp
 obtain⟨vs,hv1,hv2⟩:=Yp (place:=fun j=>(fs.map fun f=>(f.offset,P.cellsOf f.type))[j]?) (ev:=a.eval) r1 (fun i p q hp hq=>by
  obtain⟨k1,k2⟩:=r2 i p q hp hq
  exact⟨by simpa using k1,k2⟩) hf hzc
 refine⟨vs,?_,hv2⟩;unfold aKe;simp only[cb,hzr,bh,underlying,run_program,hu,eh,aez B6]
 have e:(ps.map fun(p:Nat×Operand)=>(p.1,a.eval p.2)).toList=ps.toList.map fun p=>(p.1,a.eval p.2):=by simp
 rw[e,hv1];rfl
theorem acs(h:j9 B0 w0 nt G0 s G E a w){t e:TypeId}{len n:Nat}{ps:Array (Nat×Operand)}{z:List D}{qs:List (Nat×Nat×me)}(hu:P.underlying t=some (.array len e))(hz:Fj P t=some z)
  (hn:kn P e=some n)(hq:Q4 n ps.toList=some qs){pc:List (Nat×Nat×List C)}{cs:List C}(hp:Jk s qs=some pc)(hf:Ly (z.map .d) pc=some cs):
  ∃us,(aKe t (ps.map fun(p:Nat×Operand)=>(p.1,a.eval p.2))).run P w= .ok (.agg us) w∧Nh G E s cs us:=by
 obtain⟨zv,hzv,hzr,hzc⟩:=Fi hz h;obtain⟨q1,q2⟩:=U1 hq
 obtain⟨r1,r2⟩:=Zi h (get:=fun j _=>some (j*n,n)) q1 (fun i p q hp hq=>by
  obtain⟨⟨h1,h2⟩,hc⟩:=q2 i p q hp hq
  exact⟨by simp[h1,←h2],hc⟩) hp
 obtain⟨vs,hv1,hv2⟩:=Yp (place:=fun j=>some (j*n,n)) (ev:=a.eval) r1 (fun i p q hp hq=>by
  obtain⟨k1,k2⟩:=r2 i p q hp hq
  exact⟨by simpa using k1,k2⟩) hf hzc
 refine⟨vs,?_,hv2⟩;unfold aKe;simp only[cb,hzr,bh,underlying,run_program,hu,eh,qx hn]
 have e:(ps.map fun(p:Nat×Operand)=>(p.1,a.eval p.2)).toList=ps.toList.map fun p=>(p.1,a.eval p.2):=by simp
 rw[e,hv1];rfl
theorem ank{α β:Type}(f:α→β)(l:List α)(off:Nat)(xs:List α):(patch l off xs).map f=patch (l.map f) off (xs.map f):=by
 simp[patch,Gx,aus]
theorem ay6:∀{ps:List (Nat×Nat×List D)} {cs out:List D},Vu cs ps=some out→Ly (cs.map .d) (ps.map fun p=>(p.1,p.2.1,p.2.2.map .d))=some (out.map .d):=by
 intro ps
 induction ps with
 |nil=>intro cs out h;simp only[Vu,aj]at h;subst h;rfl
 |cons p ps ih=>
  intro cs out h;obtain⟨o,n,xs⟩:=p;simp only[Vu]at h;split at h
  ·rename_i hc;simp only[gf,Ly,ag];rw[bm hc,←ank];exact ih h
  cases h
theorem ac9:∀{ps:List (Nat×Nat×List D)} {cs out:List D},Vu cs ps=some out→out.length=cs.length:=by
 intro ps
 induction ps with
 |nil=>intro cs out h;simp only[Vu,aj]at h;subst h;rfl
 |cons p ps ih=>
  intro cs out h;obtain⟨o,n,xs⟩:=p;simp only[Vu]at h;split at h
  ·rename_i hc;rw[ih h,qc _ _ _ (by omega)]
  cases h
theorem ahy(h:j9 B0 w0 nt G0 s G E a w)(hle:G.le G'):
  ∀{l:List (Nat×Operand)} {qs:List (Nat×Nat×me)} {ps:List (Nat×Nat×List D)} {ids:List Nat},qs.length=l.length→
   (∀(i:Nat) (p:Nat×Operand) (q:Nat×Nat×me),l[i]? =some p→qs[i]? =some q→ur p.2=some q.2.2)→Nz s qs=some (ps,ids)→(∀id∈ids,Z1 G' G E s id)→
   ps.length=l.length∧∀(i:Nat) (p:Nat×Operand) (q0:Nat×Nat×me) (q:Nat×Nat×List D),l[i]? =some p→qs[i]? =some q0→ps[i]? =some q→q.1=q0.1∧q.2.1=q0.2.1∧Nh G' E s (q.2.2.map .d) (a.eval p.2).cells:=by
 intro l
 induction l with
 |nil=>
  intro qs ps ids hl _ hp _
  cases qs with
  |nil=>simp only[Nz,aj,br]at hp;obtain⟨rfl,rfl⟩:=hp;simp
  |cons _ _=>simp at hl
 |cons p l ih=>
  intro qs ps ids hl hq hp hg
  cases qs with
  |nil=>simp at hl
  |cons q qs=>
   obtain⟨o,n,x⟩:=q;simp only[Nz]at hp;split at hp
   ·rename_i cs l' j h1 h2;split at hp
    ·rename_i ds i h3;simp only[aj,br]at hp;obtain⟨rfl,rfl⟩:=hp;obtain⟨i1,i2⟩:=ih (by simpa using hl) (fun i p' q' a b=>hq (i+1) p' q' (by simpa using a) (by simpa using b)) h2 (fun id hid=>hg id (V3 _ hid));refine⟨by simp[i1],fun k p' q0 q' hp' hq0 hq'=>?_⟩
     cases k with
     |zero=>
      simp at hp' hq0 hq';subst hp' hq0 hq';obtain⟨c1,c2⟩:=R6 h1 (h.ev (hq 0 p (o,n,x) rfl rfl));obtain⟨d1,d2⟩:=a9d (G:=G) (G':=G') (E:=E) h3;refine⟨rfl,rfl,by simp[c1,d1],fun m c u hc hu=>?_⟩;simp only[cw,ao]at hc;obtain⟨y,hy,rfl⟩:=hc
      have hm:m<cs.length:=by have:=(aw.1 hy).1;omega
      have hcm:cs[m]? =some cs[m]:=ax hm;exact d2 hle (fun id hid=>hg id (aae _ hid)) m _ y u hcm hy (c2 m _ u hcm hu)
     |succ k=>simp at hp' hq0 hq';exact i2 k p' q0 q' hp' hq0 hq'
    cases hp
   cases hp
theorem a6i{α:Type}(sz:Nat):∀(n:Nat) (l:List α),l.length=n*sz→(chunks sz n l).length=n∧∀i e,(chunks sz n l)[i]? =some e→e.length=sz∧∀j,j<sz→e[j]? =l[i*sz+j]? :=by
 intro n
 induction n with
 |zero=>intro l _;simp[chunks]
 |succ n ih=>
  intro l hl;rw[ji,Bd]at hl;obtain⟨i1,i2⟩:=ih (l.drop sz) (by simp;omega);refine⟨by simp[chunks,i1],fun i e he=>?_⟩
  cases i with
  |zero=>
   simp only[chunks,dm,aj]at he;subst he;refine⟨by simp;omega,fun j hj=>?_⟩;rw[jo,bm hj,aly,fj]
  |succ i=>
   simp only[chunks,gl]at he;obtain⟨k1,k2⟩:=i2 i e he;refine⟨k1,fun j hj=>?_⟩;rw[k2 j hj,oo,ji,Bd]
   congr 1
   omega
theorem a8m(h:j9 B0 w0 nt G0 s G E a w){z:List D}{zv:Value}(hz:Nh G E s (z.map .d) zv.cells){n:Nat}(h0:0<z.length):
  Nh G E s (((j5 n z).flatten).map .d) ((aKv (n*z.length)).map (zv.cells[· %zv.cells.size]!)):=by
 obtain⟨h1,h2⟩:=hz;simp only[ag]at h1;refine⟨by simp,fun i c u hc hu=>?_⟩
 have hi:i<n*z.length:=by
  have:=(aw.1 hc).1;simpa using this
 have asr:∀(n i:Nat),i<n*z.length→((j5 n z).flatten)[i]? =z[i%z.length]? :=by
  intro n
  induction n with
  |zero=>intro i hi;simp at hi
  |succ n ih=>
   intro i hi;rw[aJb,aut,N5];rw[ji,Bd]at hi;split
   ·rename_i hlt;rw[aab hlt]
   rename_i hge;rw[ih (i-z.length) (by omega)]
   congr 1
   conv=>rhs;rw[show i=(i-z.length)+z.length by omega]
   rw[Nat.add_mod_right]
 rw[cw,asr n i hi]at hc;simp only[X9,avb,hi,dj,ir,aj]at hu;have hm:i%z.length<z.length:=a73 _ h0
 have hm':i%zv.cells.size<zv.cells.size:=by rw[h1];exact hm
 rw[h1]at hu;refine h2 (i%z.length) c u (by rw[cw];exact hc) ?_;rw[←hu,getElem!_pos _ _ (by rw[h1];exact hm)];exact bd _
end
end Go.PI
