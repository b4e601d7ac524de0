/- A part of the proof for HistoryNames: PA to PS10. Printed from longer texts. -/
import Derived.Calls
import Derived.Orders
import Derived.Below
import Derived.Laws.Cells
import Derived.Laws.CopyRow
import Derived.Laws.Tables
import Derived.Laws.StructEq
import Derived.ChangeKeysEq
import Derived.Laws.AppendOwn
set_option linter.all false
set_option maxHeartbeats 64000000
open And renaming intro→aLt
open Array renaming eq_empty_of_size_eq_zero→Xv,getD_eq_getD_getElem?→jd,getElem?_append→Hi,getElem?_eq_getElem→bh,getElem?_eq_some_iff→iu,getElem?_extract→a2p,getElem?_map→Xu,getElem?_range→avq,getElem?_setIfInBounds_ne→Wq,getElem?_setIfInBounds_self→Ts,length_toList→qu,mapM_eq_mapM_toList→ab7,range→aLe,replicate→Ns,size_append→T4
open BitVec renaming ofInt→aFw
open Bool renaming and_true→Hj,false_eq_true→fw,true_and→u9
open Eq renaming refl→gp,trans→fc
open Go.Builtin renaming append_→yw,firstCells→lq,len_→aKv,nextslicecap→aJt,zeroCells→lj
open Go.Instr renaming build→aKy,extract→aK2,index→aL8,indexAt→aIx,loadAt→aKu,storeAt→aFp,sureAddr→aD5
open Go.IntKind renaming i64→ab,signed→aKc,wrap→Q0
open Go.Op renaming bytesLess→amn,eqFields→aLa,equal→aJj,equalIn→aLh,maxDepth→aL6
open Go.Program renaming cellsOf→aFk
open Go.Region renaming binds→aJh,ready→Ic
open Go.Result renaming andThen_ok→bm
open Go.RowKit.Below renaming refl→aLl
open Go.Sem renaming run_bind→cn,run_map→aL9,run_pure→ep
open Go.Value renaming pointer→aKo
open Go.World renaming cell?→aKw,cell?_of_block→aJf
open List renaming all_eq_true→dj,append_assoc→po,cons_append→yv,drop_drop→amv,drop_eq_getElem_cons→jj,eq_nil_of_length_eq_zero→j1,flatten_cons→avf,flatten_nil→aIu,foldl_cons→Aq,getElem?_append→Nv,getElem?_cons_succ→i7,getElem?_cons_zero→dv,getElem?_drop→og,getElem?_eq_getElem→ax,getElem?_eq_none→a88,getElem?_eq_some_iff→aw,getElem?_map→cy,getElem?_of_mem→aJp,getElem?_range→Mt,getElem?_set→so,getElem?_take→jv,getElem?_toArray→Ab,getElem_mem→df,length→Gz,length_append→db,length_cons→cj,length_drop→yu,length_map→ag,length_nil→du,length_set→Ie,length_take→er,length_take_le'→avl,map_congr_left→Dd,map_cons→dr,map_drop→aA9,map_take→Lr,mem_append_left→ab0,mem_append_right→Vn,mem_cons→fb,mem_map→gr,mem_of_getElem?→jw,mem_range→ez,mem_singleton→Tc,not_mem_nil→l8,range→dt,range'→al6,range'_succ→aIr,range_eq_range'→aJn,replicate→jb,replicate_succ→aJx,size_toArray→Wo
open Nat renaming add_assoc→rv,add_mul→jn,add_zero→Af,div_lt_iff_lt_mul→aJ9,eq_zero_or_pos→a8b,le_of_eq→aK6,le_of_lt→aKq,le_refl→ay,le_trans→ij,lt_or_gt_of_ne→amq,min_eq_left→aax,mod_eq_of_lt→aaw,mod_lt→a8a,mul_comm→aKp,mul_le_mul_right→fh,not_lt→aLj,one_mul→Bt,zero_add→gd,zero_mul→amp
open Option renaming bind_some→Pa,getD_some→jc,isSome_iff_exists→ke,map→aLg,map_eq_some_iff→aq,map_some→ir
open Option.some renaming injEq→ak
open Prod.mk renaming injEq→cd
namespace Go.PI
open Go Go.RowKit
theorem al{c:Prop}{h:Decidable c}(hnc:¬c){α:Sort _}{t e:α}:ite c t e=e:=if_neg hnc
theorem bd{c:Prop}{h:Decidable c}(hc:c){α:Sort _}{t e:α}:ite c t e=t:=if_pos hc
theorem cz{α:Sort _}{h:Decidable True}(t e:α):ite True t e=t:=if_pos trivial
theorem bn{α:Sort _}{h:Decidable False}(t e:α):ite False t e=e:=if_neg id
theorem fg{α:Type _}[BEq α][ReflBEq α](a:α):(a==a)=true:=BEq.rfl
inductive D where
 |int (k:IntKind) (n:Int)
 |bool (b:Bool)
 |str (s:ByteArray)
 |ck
 |gz (sz:Nat) (l:List (List D))
 |Of
 |agg (cs:List D)
 |Ar (vs:List D)
 |Wz
 |uw (cells:List D) (off:Nat)
 |Ir
 |map (es:List (D×D))
 |oq (f:Nat) (j2:List D)
 |xd
 |any
 deriving Inhabited
structure gq where
 cv:Nat→Nat→Option Value
 mv:Nat→Option (List (Value×Value))
inductive i6(G:gq):D→Value→Prop
 |int {k n}:i6 G (.int k n) (.int k n)
 |bool {b}:i6 G (.bool b) (.bool b)
 |str {s}:i6 G (.str s) (.string s)
 |ck:i6 G .ck (.slice none 0 0)
 |gz {sz:Nat} {l:List (List D)} {b o c:Nat} (hc:l.length≤c) (hs:∀(i:Nat) (e:List D),l[i]? =some e→e.length=sz)
   (h1:∀i j,i<l.length→j<sz→(G.cv b (o+i*sz+j)).isSome)
   (h2:∀(i:Nat) (e:List D) (j:Nat) (x:D) (v:Value),l[i]? =some e→e[j]? =some x→G.cv b (o+i*sz+j)=some v→i6 G x v):
   i6 G (.gz sz l) (.slice (some ⟨b,o,none⟩) l.length c)
 |Vq {sz:Nat}:i6 G (.gz sz []) (.slice none 0 0)
 |Y2 {sz:Nat} {a:Addr} {c:Nat}:i6 G (.gz sz []) (.slice (some a) 0 c)
 |Of {a:Addr} {c:Nat}:i6 G .Of (.slice (some a) 0 c)
 |agg {cs:List D} {vs:Array Value} (hl:vs.size=cs.length) (h:∀(i:Nat) (x:D) (v:Value),cs[i]? =some x→vs[i]? =some v→i6 G x v):i6 G (.agg cs) (.agg vs)
 |Ar {cs:List D} {vs:Array Value} (hl:vs.size=cs.length) (h:∀(i:Nat) (x:D) (v:Value),cs[i]? =some x→vs[i]? =some v→i6 G x v):i6 G (.Ar cs) (.tuple vs)
 |Wz:i6 G .Wz (.pointer none)
 |uw {cells:List D} {b o off:Nat} (h1:∀j,j<cells.length→(G.cv b (o+j)).isSome)
   (h2:∀(j:Nat) (x:D) (v:Value),cells[j]? =some x→G.cv b (o+j)=some v→i6 G x v):i6 G (.uw cells off) (.pointer (some ⟨b,o+off,none⟩))
 |Ir:i6 G .Ir (.map none)
 |map {es:List (D×D)} {r:Nat} {fs:List (Value×Value)} (h0:G.mv r=some fs) (hl:fs.length=es.length)
   (h1:∀(i:Nat) (e:D×D) (f:Value×Value),es[i]? =some e→fs[i]? =some f→i6 G e.1 f.1)
   (h2:∀(i:Nat) (e:D×D) (f:Value×Value),es[i]? =some e→fs[i]? =some f→i6 G e.2 f.2):i6 G (.map es) (.map (some r))
 |oq {f:Nat} {j2:List D} {vs:Array Value} (hl:vs.size=j2.length) (h:∀(i:Nat) (x:D) (v:Value),j2[i]? =some x→vs[i]? =some v→i6 G x v):i6 G (.oq f j2) (.func (.func f) #[] vs)
 |xd:i6 G .xd .nilFunc
 |any {v}:i6 G .any v
structure gq.le(G G':gq):Prop where
 cv:∀b o v,G.cv b o=some v→G'.cv b o=some v
 mv:∀b es,G.mv b=some es→G'.mv b=some es
theorem gq.la(G:gq):G.le G:=⟨fun _ _ _ h=>h,fun _ _ h=>h⟩
theorem gq.a0q{A B C:gq}(h:A.le B)(k:B.le C):A.le C:=⟨fun b o v x=>k.cv b o v (h.cv b o v x),fun b es x=>k.mv b es (h.mv b es x)⟩
theorem i6.mono{G G':gq}(hG:G.le G'){x:D}{v:Value}(h:i6 G x v):i6 G' x v:=by
 induction h with
 |int=>exact .int
 |bool=>exact .bool
 |str=>exact .str
 |ck=>exact .ck
 | @gz sz l b o c hc hs h1 h2 ih=>
  refine .gz hc hs (fun i j hi hj=>?_) (fun i e j x v he hx hv=>?_)
  ·obtain⟨v,hv⟩:=ke.1 (h1 i j hi hj);rw[hG.cv _ _ _ hv];rfl
  have hil:i<l.length:=(aw.1 he).1
  have hjl:j<sz:=by have:=hs i e he;have:=(aw.1 hx).1;omega
  obtain⟨u,hu⟩:=ke.1 (h1 i j hil hjl);have:=hG.cv _ _ _ hu;rw[this]at hv
  injection hv with hv
  exact ih i e j x v he hx (hv▸hu)
 |Vq=>exact .Vq
 |Y2=>exact .Y2
 |Of=>exact .Of
 |agg hl _ ih=>exact .agg hl ih
 |Ar hl _ ih=>exact .Ar hl ih
 |Wz=>exact .Wz
 | @uw cells b o off h1 h2 ih=>
  refine .uw (fun j hj=>?_) (fun j x v hx hv=>?_)
  ·obtain⟨v,hv⟩:=ke.1 (h1 j hj);rw[hG.cv _ _ _ hv];rfl
  obtain⟨u,hu⟩:=ke.1 (h1 j (aw.1 hx).1);have:=hG.cv _ _ _ hu;rw[this]at hv
  injection hv with hv
  exact ih j x v hx (hv▸hu)
 |Ir=>exact .Ir
 |map h0 hl _ _ ih1 ih2=>exact .map (hG.mv _ _ h0) hl ih1 ih2
 |oq hl _ ih=>exact .oq hl ih
 |xd=>exact .xd
 |any=>exact .any
def D.scalar:D→Bool
 | .int .. | .bool _| .str _| .ck| .Wz| .Ir| .xd| .any=>true
 |_=>false
def D.flat:D→Bool
 | .agg cs=>cs.all D.scalar
 | .Ar vs=>vs.all fun| .agg cs=>cs.all D.scalar|x=>x.scalar
 |x=>x.scalar
theorem i6.scalar{G G':gq}{x:D}{v:Value}(hx:x.scalar=true)(h:i6 G x v):i6 G' x v:=by
 cases h<;>first|(simp[D.scalar]at hx;done)|constructor
theorem i6.aFg{G G':gq}{cs:List D}{v:Value}(hx:cs.all D.scalar=true)(h:i6 G (.agg cs) v):i6 G' (.agg cs) v:=by
 cases h with
 |agg hl h=>exact .agg hl fun i x v hi hv=>(h i x v hi hv).scalar (dj.1 hx x (jw hi))
theorem i6.flat{G G':gq}{x:D}{v:Value}(hx:x.flat=true)(h:i6 G x v):i6 G' x v:=by
 cases x with
 |agg cs=>exact h.aFg (by simpa[D.flat]using hx)
 |Ar vs=>
  cases h with
  |Ar hl h=>
   refine .Ar hl fun i x v hi hv=>?_;have hm:=h i x v hi hv;have hx':=dj.1 (by simpa only[D.flat]using hx) x (jw hi)
   cases x with
   |agg cs=>exact hm.aFg (by simpa using hx')
   |_=>exact hm.scalar (by simpa using hx')
 |_=>exact h.scalar (by simpa[D.flat]using hx)
structure GOk(G:gq)(w:World):Prop where
 cv:∀b o v,G.cv b o=some v→w.cell? ⟨b,o,none⟩=some v
 mv:∀b es,G.mv b=some es→∃ents clock,w.heap[b]? =some (.map ents clock)∧ents.toList.map (fun e=>(e.key,e.val))=es
theorem GOk.lt{G:gq}{w:World}(h:GOk G w){b o:Nat}{v:Value}(hc:G.cv b o=some v):b<w.heap.size:=
 World.block_lt_of_cell? _ _ (h.cv b o v hc)
theorem GOk.ltm{G:gq}{w:World}(h:GOk G w){b:Nat}{es}(hc:G.mv b=some es):b<w.heap.size:=by
 obtain⟨_,_,hh,_⟩:=h.mv b es hc;exact(iu.1 hh).1
theorem GOk.below{G:gq}{w w':World}(h:GOk G w)(hb:Below w.heap.size w w'):GOk G w' where
 cv b o v hc:=(hb.cell (p:=⟨b,o,none⟩) (h.lt hc)).trans (h.cv b o v hc)
 mv b es hc:=by
  obtain⟨ents,clock,hh,he⟩:=h.mv b es hc;exact⟨ents,clock,(hb.block b (h.ltm hc)).trans hh,he⟩
def gq.same(G G':gq)(n:Nat):Prop:=(∀b o,b<n→G'.cv b o=G.cv b o)∧∀b,b<n→G'.mv b=G.mv b
structure Bel(Q:Prop)(B:Nat)(w w':World):Prop extends Below B w w' where
 drawn:Q→w.drawn≤w'.drawn
theorem Bel.refl{Q:Prop}(B:Nat)(w:World):Bel Q B w w:=⟨aLl _ _,fun _=>ay _⟩
theorem Bel.trans{Q:Prop}{B:Nat}{a b c:World}(h:Bel Q B a b)(k:Bel Q B b c):Bel Q B a c:=⟨h.toBelow.trans k.toBelow,fun q=>ij (h.drawn q) (k.drawn q)⟩
theorem Bel.mono{Q:Prop}{B B':Nat}{w w':World}(h:Bel Q B w w')(hB:B'≤B):Bel Q B' w w':=⟨h.toBelow.mono hB,h.drawn⟩
theorem Bel.M8{Q Q':Prop}{B:Nat}{w w':World}(h:Bel Q B w w')(hQ:Q'→Q):Bel Q' B w w':=⟨h.toBelow,fun q=>h.drawn (hQ q)⟩
theorem Bel.drew{Q:Prop}{B:Nat}{a w:World}(h:Bel Q B a w):Bel Q B a w.drew:=⟨h.toBelow.drew,fun q=>Nat.le_succ_of_le (h.drawn q)⟩
theorem Bel.alloc{Q:Prop}{B:Nat}{a w:World}(h:Bel Q B a w)(hB:B≤w.heap.size)(o:Obj):Bel Q B a (w.alloc o):=⟨h.toBelow.alloc hB o,h.drawn⟩
def zf(P:Program)(f:Nat):Bool:=
 match P.funcs[f]? with
 |some fn=>fn.name != "runtime.NumGoroutine"&&fn.body.isSome
 |none=>false
def iz(P:Program)(f:Nat)(args:List D)(r:D):Prop:=
 zf P f=true∧∀(G:gq) (w:World) (vs:Array Value),GOk G w→vs.size=args.length→(∀(i:Nat) (x:D) (v:Value),args[i]? =some x→vs[i]? =some v→i6 G x v)→
  Calls P f vs w fun e w'=>∃v G',e= .returned v∧G.le G'∧G.same G' w.heap.size∧GOk G' w'∧Bel True w.heap.size w w'∧i6 G' r v
def a7x(P:Program)(f:Nat)(args:List D)(R:D→Prop):Prop:=
 zf P f=true∧∀(G:gq) (w:World) (vs:Array Value),GOk G w→vs.size=args.length→(∀(i:Nat) (x:D) (v:Value),args[i]? =some x→vs[i]? =some v→i6 G x v)→
  Calls P f vs w fun e w'=>∃v G' r,e= .returned v∧R r∧G.le G'∧G.same G' w.heap.size∧GOk G' w'∧Bel True w.heap.size w w'∧i6 G' r v
theorem iz.toR{P:Program}{f:Nat}{args:List D}{r:D}(h:iz P f args r):a7x P f args (· =r):=
 ⟨h.1,fun G w vs h1 h2 h3=>(h.2 G w vs h1 h2 h3).mono fun _ _ ⟨v,G',k1,k2⟩=>⟨v,G',r,k1,rfl,k2⟩⟩
inductive C where
 |d (x:D)
 |ref (id av len:Nat)
 |l9 (id av:Nat)
 |ptr (id av off:Nat)
 deriving Inhabited
inductive V where
 |d (x:D)
 |ref (id av len:Nat)
 |l9 (id av:Nat)
 |ie (id av off:Nat)
 |Hw (id av ln i off:Nat)
 |oq (f:Nat) (ids:List (Nat×Nat))
 |agg (cs:List C)
 |Ar (cs:List C)
 |Kr (id av len n:Nat)
 |Hx (id av n a:Nat)
 |win (id av n o l:Nat)
 |no
 deriving Inhabited
def C.toV:C→V
 | .d x=> .d x
 | .ref i v l=> .ref i v l
 | .l9 i v=> .l9 i v
 | .ptr i v o=> .ie i v o
inductive B where
 |arr (sz:Nat) (dm:List (List D))
 |qi (sz:Nat) (dm:List (List C))
 |loc (cs:List C)
 |Sd (n:Nat)
 deriving Inhabited
def B.isVar:B→Bool
 | .arr .. =>false
 | .qi .. =>false
 |_=>true
def B.De:B→Option (Nat×Nat)
 | .arr sz dm=>some (sz,dm.length)
 | .qi sz dm=>some (sz,dm.length)
 |_=>none
structure PS where
 tmp:Nat→V
 dc:Nat→Option B
 av:Nat→Nat
 mp:Nat→Option (List (D×C))
 base:Nat:=0
 ctx:Nat→V×Value:=fun _=>(.no,.tuple #[])
def PS.De(s:PS)(id:Nat):Option (Nat×Nat):=(s.dc id).bind B.De
def l7{α:Type}(f:Nat→α)(i:Nat)(v:α):Nat→α:=fun j=>if j=i then v else f j
theorem cu{α:Type}(f:Nat→α)(i:Nat)(v:α):l7 f i v i=v:=by simp[l7]
theorem gj{α:Type}(f:Nat→α)(i j:Nat)(v:α)(h:j≠i):l7 f i v j=f j:=by simp[l7,h]
theorem aj{α:Type}(f:Nat→α)(i j:Nat)(v:α):l7 f i v j=if j=i then v else f j:=rfl
structure Env where
 b:Nat→Nat
 n:Nat→Nat
 m:Nat→Nat
def iw(G:gq)(E:Env)(s:PS):V→Value→Prop
 | .d x,v=>i6 G x v
 | .ref id av len,v=>av≤s.av id∧(s.av id=av→∀sz n,s.De id=some (sz,n)→len≤n∧(n=len→
   ∃cap,E.n id=cap*sz∧len≤cap∧v= .slice (some ⟨E.b id,0,none⟩) len cap))
 | .l9 id av,v=>av≤s.av id∧(s.av id=av→(s.mp id).isSome→v= .map (some (E.m id)))
 | .ie id av off,v=>av≤s.av id∧(s.av id=av→(∃b,s.dc id=some b∧b.isVar=true)→v= .pointer (some ⟨E.b id,off,none⟩))
 | .Hw id av ln i off,v=>av≤s.av id∧(s.av id=av→∀sz n,s.De id=some (sz,n)→ln≤n∧(n=ln→v= .pointer (some ⟨E.b id,i*sz+off,none⟩)))
 | .oq f ids,v=>(∀p∈ids,p.2≤s.av p.1)∧((∀p∈ids,s.av p.1=p.2∧∃b,s.dc p.1=some b∧b.isVar=true)→
   v= .func (.func f) #[] (ids.map fun p=>aKo (some ⟨E.b p.1,0,none⟩)).toArray)
 | .agg cs,v=>∃vs:Array Value,v= .agg vs∧vs.size=cs.length∧∀(i:Nat) (c:C) (u:Value),cs[i]? =some c→vs[i]? =some u→
   match c with
   | .d x=>i6 G x u
   | .ref id av len=>av≤s.av id∧(s.av id=av→∀sz n,s.De id=some (sz,n)→len≤n∧(n=len→
     ∃cap,E.n id=cap*sz∧len≤cap∧u= .slice (some ⟨E.b id,0,none⟩) len cap))
   | .l9 id av=>av≤s.av id∧(s.av id=av→(s.mp id).isSome→u= .map (some (E.m id)))
   | .ptr id av off=>av≤s.av id∧(s.av id=av→(∃b,s.dc id=some b∧b.isVar=true)→u= .pointer (some ⟨E.b id,off,none⟩))
 | .Ar cs,v=>∃vs:Array Value,v= .tuple vs∧vs.size=cs.length∧∀(i:Nat) (c:C) (u:Value),cs[i]? =some c→vs[i]? =some u→
   match c with
   | .d x=>i6 G x u
   | .ref id av len=>av≤s.av id∧(s.av id=av→∀sz n,s.De id=some (sz,n)→len≤n∧(n=len→
     ∃cap,E.n id=cap*sz∧len≤cap∧u= .slice (some ⟨E.b id,0,none⟩) len cap))
   | .l9 id av=>av≤s.av id∧(s.av id=av→(s.mp id).isSome→u= .map (some (E.m id)))
   | .ptr id av off=>av≤s.av id∧(s.av id=av→(∃b,s.dc id=some b∧b.isVar=true)→u= .pointer (some ⟨E.b id,off,none⟩))
 | .Kr id av len _,v=>av≤s.av id∧(s.av id=av→(∃b,s.dc id=some b∧b.isVar=true)→v= .slice (some ⟨E.b id,0,none⟩) len len)
 | .Hx id av n a,v=>a≤n∧av≤s.av id∧(s.av id=av→∀sz m,s.De id=some (sz,m)→n≤m∧(m=n→(∃cap,E.n id=cap*sz∧n≤cap)∧v= .slice (some ⟨E.b id,0,none⟩) a a))
 | .win id av n o l,v=>(o+l≤n∧0<n)∧av≤s.av id∧(s.av id=av→∀sz m,s.De id=some (sz,m)→n≤m∧(m=n→
   ∃C cap off,E.n id=C*sz∧n≤o+cap∧o+cap≤C∧l≤cap∧(cap=0∨off=o*sz)∧v= .slice (some ⟨E.b id,off,none⟩) l cap))
 | .no,_=>True
def yq(G:gq)(E:Env)(s:PS)(c:C)(u:Value):Prop:=iw G E s c.toV u
theorem F4{G:gq}{E:Env}{s:PS}{cs:List C}{v:Value}:
  iw G E s (.agg cs) v↔∃vs:Array Value,v= .agg vs∧vs.size=cs.length∧∀(i:Nat) (c:C) (u:Value),cs[i]? =some c→vs[i]? =some u→yq G E s c u:=by
 constructor
 ·rintro⟨vs,h1,h2,h3⟩;refine⟨vs,h1,h2,fun i c u hc hu=>?_⟩;have:=h3 i c u hc hu;cases c<;>exact this
 rintro⟨vs,h1,h2,h3⟩;refine⟨vs,h1,h2,fun i c u hc hu=>?_⟩;have:=h3 i c u hc hu;cases c<;>exact this
theorem Kk{G:gq}{E:Env}{s:PS}{cs:List C}{v:Value}:
  iw G E s (.Ar cs) v↔∃vs:Array Value,v= .tuple vs∧vs.size=cs.length∧∀(i:Nat) (c:C) (u:Value),cs[i]? =some c→vs[i]? =some u→yq G E s c u:=by
 constructor
 ·rintro⟨vs,h1,h2,h3⟩;refine⟨vs,h1,h2,fun i c u hc hu=>?_⟩;have:=h3 i c u hc hu;cases c<;>exact this
 rintro⟨vs,h1,h2,h3⟩;refine⟨vs,h1,h2,fun i c u hc hu=>?_⟩;have:=h3 i c u hc hu;cases c<;>exact this
def Tb(G:gq)(E:Env)(s:PS)(B0:Nat)(w:World)(id:Nat)(b:B):Prop:=
 B0≤E.b id∧(∀o,G.cv (E.b id) o=none)∧∃cells et,w.heap[E.b id]? =some (.cells cells et (0,0))∧E.n id≤cells.size∧
  match b with
  | .arr sz dm=>dm.length*sz≤cells.size∧(∀(i:Nat) (e:List D),dm[i]? =some e→e.length=sz)∧
    ∀(i:Nat) (e:List D) (j:Nat) (x:D) (u:Value),dm[i]? =some e→e[j]? =some x→cells[i*sz+j]? =some u→i6 G x u
  | .qi sz dm=>dm.length*sz≤cells.size∧(∀(i:Nat) (e:List C),dm[i]? =some e→e.length=sz)∧
    ∀(i:Nat) (e:List C) (j:Nat) (x:C) (u:Value),dm[i]? =some e→e[j]? =some x→cells[i*sz+j]? =some u→yq G E s x u
  | .loc cs=>cs.length=cells.size∧∀(j:Nat) (c:C) (u:Value),cs[j]? =some c→cells[j]? =some u→yq G E s c u
  | .Sd n=>n=cells.size
def a19(ents:Array MapEntry)(clock:Nat):Prop:=
 (∀(i:Nat) (x:MapEntry),ents[i]? =some x→x.born<clock)∧∀(i j:Nat) (x y:MapEntry),ents[i]? =some x→ents[j]? =some y→x.born=y.born→i=j
def Plain(c:Nat→V×Value):Prop:=∀i v,c i=(.no,v)→v= .tuple #[]
def Nt(x:V×Value)(B:Nat)(w:World):Prop:=
 ∀(b:Nat) (cs:Array Value),x=(.no,.agg #[.pointer (some ⟨b,0,none⟩),.agg cs])→b<B∧∃T fz,w.heap[b]? =some (.cells cs T fz)
theorem Nt.below{x:V×Value}{B:Nat}{w w':World}(h:Nt x B w)(e:B=w.heap.size){Q:Prop}(hb:Bel Q B w w'):Nt x w'.heap.size w':=by
 intro b cs hx;obtain⟨h1,T,fz,h2⟩:=h b cs hx;have h3:=hb.size;exact⟨by omega,T,fz,(hb.block b h1).trans h2⟩
theorem Nt.nil{B:Nat}{w:World}:Nt (.no,.tuple #[]) B w:=fun b cs h=>by cases h
structure jf(B0:Nat)(w0:World)(nt:Nat)(G0:gq)(s:PS)(G:gq)(E:Env)(a:Act)(w:World):Prop where
 size:a.tmps.size=nt
 defers:a.defers=[]
 base:B0=w0.heap.size
 below:Bel (Plain s.ctx) B0 w0 w
 gok:GOk G w
 gle:G0.le G
 J4:G0.same G B0
 tmp:∀t,iw G E s (s.tmp t) (a.tmps.getD t undef)
 dc:∀id b,s.dc id=some b→Tb G E s B0 w id b
 inj:∀i j bi bj,s.dc i=some bi→s.dc j=some bj→i≠j→E.b i≠E.b j
 mp:∀id es,s.mp id=some es→B0≤E.m id∧G.mv (E.m id)=none∧∃ents clock,w.heap[E.m id]? =some (.map ents clock)∧
  ents.size=es.length∧(∀(i:Nat) (e:D×C) (x:MapEntry),es[i]? =some e→ents[i]? =some x→i6 G e.1 x.key∧yq G E s e.2 x.val)∧a19 ents clock
 Rg:∀i j bi bj,s.mp i=some bi→s.mp j=some bj→i≠j→E.m i≠E.m j
 ctx:∀i,iw G E s (s.ctx i).1 (s.ctx i).2
 tb:∀i,Nt (s.ctx i) B0 w0
inductive nk where
 |t (n:Nat)
 |c (x:D)
 deriving Inhabited
inductive TK where
 |str|gz|map|ptr|fn
 deriving DecidableEq,Inhabited
inductive LK where
 |int|bool|str
 deriving DecidableEq,Inhabited
inductive KK where
 |one (k:LK)
 |row (ks:List LK)
 deriving Inhabited
inductive jy where
 |ji (x:nk)
 |pick (c a b:nk)
 |alloc (zero:List D)
 |box (n:Nat) (x:nk)
 |load (n:Nat) (agg:Bool) (x:nk)
 |store (n:Nat) (a x:nk)
 |Yn (x:nk)
 |D4 (off:Nat) (x:nk)
 |xe (len n:Nat) (x i:nk)
 |xm (n:Nat) (x i:nk)
 |a0d (x i:nk)
 |a0t (off n:Nat) (agg:Bool) (x:nk)
 |len (k:TK) (x:nk)
 |bin (op:BinOp) (x y:nk)
 |eqs (ks:List LK) (neg:Bool) (x y:nk)
 |K2 (k:TK) (neg:Bool) (x:nk)
 |beq (neg:Bool) (x y:nk)
 |un (op:UnOp) (x:nk)
 |conv (k:IntKind) (x:nk)
 |a29 (x:nk)
 |build (zero:List D) (parts:List (Nat×Nat×nk))
 |yy (im:Bool) (n sz:Nat) (zero:List D) (parts:List (Nat×Nat×nk))
 |app (sz bytes:Nat) (x y:nk)
 |a0x (n sz:Nat) (zero:List D) (parts:List (Nat×Nat×nk))
 |a0r (kk:KK) (sz bytes:Nat) (x k y:nk) (ts:List Nat)
 |a3o (sz bytes:Nat) (zero:List D) (x y:nk)
 |ade (x:nk)
 |adn (len n:Nat) (x:nk)
 |Hx (n:Nat) (x j k:nk)
 |Oe (n:Nat) (x j:nk)
 |Nx (n:Nat) (x:nk) (lo hi mx:Option nk)
 |trim (x:nk)
 |clr (z:List D) (x:nk)
 |bad
 |slice (n:Nat) (x:nk) (lo hi:Option nk)
 |Hq
 |lookup (kk:KK) (zero:D) (x i:nk) (ok:Bool)
 |X0 (kk:KK) (x k v:nk)
 |Mh (f:Nat) (j2:List nk)
 |ext (x:nk) (i:Nat)
 |Ep (mx:Bool) (x y:nk)
 |call (f:Nat) (args:List nk)
 |xy (f:nk) (args:List nk)
 |A9 (n:Nat)
 |init (g n:Nat) (x:nk)
 |slice3 (n:Nat) (x j k:nk)
 |a2t (len n:Nat) (agg:Bool) (x i:nk)
 |zg (f:Nat) (args:List nk)
 |Wj (f:Nat) (args:List nk)
 |No (f:nk) (args:List nk)
 |qz (f:Nat) (args:List nk)
 |P4 (f:nk) (args:List nk)
 deriving Inhabited
structure RI where
 dst:Option Nat
 op:jy
 guard:Option (Nat×Bool)
 after:List Nat
 deriving Inhabited
inductive dn where
 |skip
 |region (ops:List RI) (draw:Bool) (xc:List Nat)
 |seq (a b:dn)
 |cond (c:nk) (a b:dn)
 |block (id:Nat) (c:dn)
 |loop (c:dn)
 |freeze
 |a6m (ops:List RI)
 |both (a b:dn)
 |exit (id:Nat)
 |ret
 deriving Inhabited
def nk.ev(s:PS):nk→V
 | .t n=>s.tmp n
 | .c x=> .d x
structure Mem where
 dc:Nat→Option B
 av:Nat→Nat
 mp:Nat→Option (List (D×C))
def PS.mem(s:PS):Mem:=⟨s.dc,s.av,s.mp⟩
def PS.j6(s:PS)(m:Mem):PS:={s with dc:=m.dc,av:=m.av,mp:=m.mp}
inductive mc where
 |val (v:V)
 |new (v:V) (id:Nat) (b:B)
 |set (id:Nat) (b:B)
 |grow (v:V) (id:Nat) (b:B)
 |a2s (v:V) (id:Nat)
 |Zu (id:Nat) (es:List (D×C))
 |init (v:V) (t id:Nat) (cs:List C)
 |Iy (id:Nat) (b:B) (id2:Nat) (b2:B)
 |cut (v:V) (id:Nat) (b:B)
 |mem (m:Mem) (v:V)
abbrev a7y:=List Nat×mc
def mc.tj(v:V):a7y:=([],.val v)
def Lo:List C→Option (List D)
 |[]=>some []
 | .d x::r=>match Lo r with|some l=>some (x::l)|none=>none
 |_::_=>none
def mkv(agg:Bool)(cs:List C):V:=
 match agg,Lo cs,cs with
 |true,some ds,_=> .d (.agg ds)
 |true,none,cs=> .agg cs
 |false,_,[c]=>c.toV
 |false,_,_=> .no
def mkd(agg:Bool)(ds:List D):V:=
 match agg,ds with
 |true,ds=> .d (.agg ds)
 |false,[x]=> .d x
 |false,_=> .no
def D.one:D→Bool
 | .agg _| .Ar _| .any=>false
 |_=>true
def patch{α:Type}(l:List α)(off:Nat)(xs:List α):List α:=l.take off++xs++l.drop (off+xs.length)
def PS.dm(s:PS)(id av:Nat):Option (Nat×List (List D)):=
 if s.av id=av then match s.dc id with
  |some (.arr sz dm)=>some (sz,dm)
  |_=>none
 else none
def PS.cs(s:PS)(id av:Nat):Option (List C):=
 if s.av id=av then match s.dc id with
  |some (.loc cs)=>some cs
  |_=>none
 else none
def PS.ents(s:PS)(id av:Nat):Option (List (D×C)):=
 if s.av id=av then s.mp id else none
def PS.Jb(s:PS)(id av:Nat):Option (Nat×Nat):=
 if s.av id=av then match s.dc id with
  |some b=>b.De
  |none=>none
 else none
def PS.elc(s:PS)(id av:Nat):Option (Nat×List (List C)):=
 if s.av id=av then match s.dc id with
  |some (.arr sz dm)=>some (sz,dm.map (·.map .d))
  |some (.qi sz dm)=>some (sz,dm)
  |_=>none
 else none
def a2g:List (List C)→Option (List (List D))
 |[]=>some []
 |e::r=>match Lo e,a2g r with
  |some x,some l=>some (x::l)
  |_,_=>none
def Yl:B→B
 | .qi sz dm=>match a2g dm with
  |some ds=> .arr sz ds
  |none=> .qi sz dm
 |b=>b
def V.live(s:PS):V→Bool
 | .d _=>true
 | .ref id av len=>match s.Jb id av with
  |some (_,n)=>n==len
  |none=>false
 | .l9 id av=>(s.ents id av).isSome
 | .ie id av _=>(s.cs id av).isSome
 | .Hw id av ln _ _=>match s.Jb id av with
  |some (_,n)=>n==ln
  |none=>false
 | .oq _ ids=>ids.all fun p=>(s.cs p.1 p.2).isSome
 | .agg _=>true
 | .Ar _=>true
 | .Kr id av _ _=>(s.cs id av).isSome
 | .Hx id av m _=>match s.Jb id av with
  |some (_,n)=>n==m
  |none=>false
 | .win id av m _ _=>match s.Jb id av with
  |some (_,n)=>n==m
  |none=>false
 | .no=>false
def C.one(s:PS):C→Bool
 | .d x=>x.one
 | .ref i v l=>(V.ref i v l).live s
 | .l9 i v=>(V.l9 i v).live s
 | .ptr i v o=>(V.ie i v o).live s
def V.cells(s:PS):V→Option (List C)
 | .d (.agg ds)=>some (ds.map .d)
 | .d (.Ar _)=>none
 | .d .any=>none
 | .d x=>some [.d x]
 | .ref i v l=>match s.Jb i v with
  |some (_,n)=>if n=l then some [.ref i v l]else none
  |none=>none
 | .l9 i v=>match s.ents i v with
  |some _=>some [.l9 i v]
  |none=>none
 | .ie i v o=>match s.cs i v with
  |some _=>some [.ptr i v o]
  |none=>none
 | .agg cs=>some cs
 |_=>none
def C4(s:PS)(n:Nat)(agg:Bool):V→Option V
 | .ie id av off=>match s.cs id av with
  |some cs=>if off+n≤cs.length then some (mkv agg ((cs.drop off).take n))else none
  |none=>none
 | .Hw id av ln i off=>match s.dm id av with
  |some (_,dm)=>match dm[i]? with
   |some e=>if dm.length=ln∧off+n≤e.length then some (mkd agg ((e.drop off).take n))else none
   |none=>none
  |none=>match s.elc id av with
   |some (_,dm)=>match dm[i]? with
    |some e=>if dm.length=ln∧off+n≤e.length then some (mkv agg ((e.drop off).take n))else none
    |none=>none
   |none=>none
 | .d (.uw cells off)=>if off+n≤cells.length then some (mkd agg ((cells.drop off).take n))else none
 |_=>none
def F2(s:PS)(n:Nat)(xs:List C)(id av ln i off:Nat):Option a7y:=
 match s.elc id av with
 |some (sz,dm)=>match dm[i]? with
  |some e=>if xs.all (C.one s)=true∧dm.length=ln∧xs.length=n∧off+n≤e.length then some ([],.set id (.qi sz (dm.set i (patch e off xs))))else none
  |none=>none
 |none=>none
def za(s:PS)(n:Nat)(xs:List C):V→Option a7y
 | .ie id av off=>match s.cs id av with
  |some cs=>if xs.all (C.one s)=true∧xs.length=n∧off+n≤cs.length then some ([],.set id (.loc (patch cs off xs)))else none
  |none=>none
 | .Hw id av ln i off=>match s.dm id av with
  |some (sz,dm)=>match dm[i]?,Lo xs with
   |some e,some ds=>if xs.all (C.one s)=true∧dm.length=ln∧ds.length=n∧off+n≤e.length then some ([],.set id (.arr sz (dm.set i (patch e off ds))))else none
   |_,_=>F2 s n xs id av ln i off
  |none=>F2 s n xs id av ln i off
 |_=>none
def yk(s:PS)(n:Nat):V→V→Option a7y
 | .Hx id av m j,.ie id2 aAi off=>match s.dc id,s.cs id2 aAi with
  |some (.arr sz dm),some cs=>if n=1∧s.av id=av∧dm.length=m∧off+1≤cs.length then some ([],.Iy id (.arr sz (dm.take j)) id2 (.loc (patch cs off [.ref id (av+1) j])))else none
  |some (.qi sz dm),some cs=>if n=1∧s.av id=av∧dm.length=m∧off+1≤cs.length then some ([],.Iy id (.qi sz (dm.take j)) id2 (.loc (patch cs off [.ref id (av+1) j])))else none
  |_,_=>none
 |_,_=>none
def Rs(s:PS)(off:Nat):V→Option V
 | .ie id av o=>match s.cs id av with
  |some _=>some (.ie id av (o+off))
  |none=>none
 | .Hw id av ln i o=>match s.Jb id av with
  |some (_,n)=>if n=ln then some (.Hw id av ln i (o+off))else none
  |none=>none
 | .d (.uw cells o)=>some (.d (.uw cells (o+off)))
 |_=>none
def Ke(s:PS)(n:Nat)(i:Int):V→Option V
 | .ref id av len=>match s.Jb id av with
  |some (sz,m)=>if sz=n∧m=len∧0≤i∧i<len then some (.Hw id av len i.toNat 0)else none
  |none=>none
 | .d (.gz sz l)=>if 0≤i∧sz=n then match l[i.toNat]? with
   |some e=>some (.d (.uw e 0))
   |none=>none
  else none
 | .Kr id av len sz=>if(s.cs id av).isSome=true∧sz=n∧0≤i∧i<len then some (.ie id av (i.toNat*n))else none
 |_=>none
def P0(s:PS):TK→V→Option Int
 | .gz,.d (.gz _ l)=>some l.length
 | .gz,.d .ck=>some 0
 | .gz,.d .Of=>some 0
 | .str,.d (.str b)=>some b.size
 | .map,.d .Ir=>some 0
 | .map,.d (.map es)=>some es.length
 | .gz,.ref id av len=>match s.Jb id av with
  |some (_,n)=>if n=len then some len else none
  |none=>none
 | .map,.l9 id av=>match s.ents id av with
  |some es=>some es.length
  |none=>none
 | .gz,.win id av m _ l=>match s.Jb id av with
  |some (_,n)=>if n=m then some l else none
  |none=>none
 | .gz,.Kr id av len _=>if(s.cs id av).isSome=true then some len else none
 |_,_=>none
def ala(op:BinOp)(a b:ByteArray):Option D:=
 match op with
 | .eql=>some (.bool (a.toList==b.toList))
 | .neq=>some (.bool !(a.toList==b.toList))
 | .lss=>some (.bool (amn a.toList b.toList))
 | .leq=>some (.bool (amn a.toList b.toList||a.toList==b.toList))
 | .gtr=>some (.bool !(amn a.toList b.toList||a.toList==b.toList))
 | .geq=>some (.bool !(amn a.toList b.toList))
 | .add=>if a.size+b.size≤2^40 then some (.str (a++b))else none
 |_=>none
def a1r(op:BinOp)(k:IntKind)(a b:Int):Option D:=
 match op with
 | .add=>some (.int k (k.wrap (a+b)))
 | .sub=>some (.int k (k.wrap (a-b)))
 | .mul=>some (.int k (k.wrap (a*b)))
 | .quo=>if b=0 then none else some (.int k (k.wrap (a.tdiv b)))
 | .rem=>if b=0 then none else some (.int k (a.tmod b))
 | .and=>some (.int k (k.wrap (aFw k.bits a&&&aFw k.bits b).toNat))
 | .or=>some (.int k (k.wrap (aFw k.bits a|||aFw k.bits b).toNat))
 | .xor=>some (.int k (k.wrap (aFw k.bits a^^^aFw k.bits b).toNat))
 | .andNot=>some (.int k (k.wrap (aFw k.bits a&&& ~~~aFw k.bits b).toNat))
 | .eql=>some (.bool (a==b))
 | .neq=>some (.bool (a !=b))
 | .lss=>some (.bool (a<b))
 | .leq=>some (.bool (a≤b))
 | .gtr=>some (.bool (a>b))
 | .geq=>some (.bool (a≥b))
 | .shl=>if b<0 then none else some (.int k (k.wrap (a*2^(min b.toNat k.bits))))
 | .shr=>if b<0 then none else some (.int k (a.fdiv (2^(min b.toNat k.bits))))
def a9i(op:BinOp):D→D→Option D
 | .int k a,.int k' b=>if op= .shl∨op= .shr∨k=k' then a1r op k a b else none
 | .str a,.str b=>ala op a b
 |_,_=>none
def Ow:LK→D→D→Option Bool
 | .int,.int k a,.int k' b=>if k=k' then some (a==b)else none
 | .str,.str a,.str b=>some (a==b)
 | .bool,.bool a,.bool b=>some (a==b)
 |_,_,_=>none
def Bc:List LK→List D→List D→Option Bool
 |[],[],[]=>some true
 |k::ks,a::x,b::y=>match Ow k a b,Bc ks x y with
  |some p,some q=>some (p&&q)
  |_,_=>none
 |_,_,_=>none
def Ez:KK→D→D→Option Bool
 | .one k,a,b=>Ow k a b
 | .row ks,.agg x,.agg y=>Bc ks x y
 |_,_,_=>none
def isNil(s:PS):TK→V→Option Bool
 | .gz,.d .ck=>some true
 | .gz,.d .Of=>some false
 | .gz,.d (.gz _ (_::_))=>some false
 | .gz,.ref i v l=>if(V.ref i v l).live s then some false else none
 | .ptr,.d .Wz=>some true
 | .ptr,.d (.uw ..)=>some false
 | .ptr,.ie i v o=>if(V.ie i v o).live s then some false else none
 | .ptr,.Hw i v l j o=>if(V.Hw i v l j o).live s then some false else none
 | .map,.d .Ir=>some true
 | .map,.d (.map _)=>some false
 | .map,.l9 i v=>if(V.l9 i v).live s then some false else none
 | .fn,.d .xd=>some true
 | .fn,.d (.oq ..)=>some false
 | .fn,.oq f ids=>if(V.oq f ids).live s then some false else none
 |_,_=>none
def Zb:List (D×C)→Option (List (D×D))
 |[]=>some []
 |(k,.d x)::r=>match Zb r with
  |some l=>some ((k,x)::l)
  |none=>none
 |_::_=>none
def Qs(s:PS):C→Option (D×List Nat)
 | .d x=>some (x,[])
 | .ref id av len=>match s.dm id av with
  |some (sz,dm)=>if dm.length=len then some (.gz sz dm,[id])else none
  |none=>none
 | .l9 id av=>match s.ents id av with
  |some es=>(Zb es).map fun ds=>(.map ds,[id])
  |none=>none
 | .ptr .. =>none
def Pn(s:PS):List C→Option (List D×List Nat)
 |[]=>some ([],[])
 |c::r=>match Qs s c,Pn s r with
  |some (x,i),some (l,j)=>some (x::l,i++j)
  |_,_=>none
def Mo:List C→List (Nat×Nat×List C)→Option (List C)
 |cells,[]=>some cells
 |cells,(off,n,xs)::r=>if xs.length=n∧off+n≤cells.length then Mo (patch cells off xs) r else none
def Wh:List D→List (Nat×Nat×List D)→Option (List D)
 |cells,[]=>some cells
 |cells,(off,n,xs)::r=>if xs.length=n∧off+n≤cells.length then Wh (patch cells off xs) r else none
def K0(s:PS):List (Nat×Nat×nk)→Option (List (Nat×Nat×List C))
 |[]=>some []
 |(o,n,x)::r=>match(x.ev s).cells s,K0 s r with
  |some cs,some l=>some ((o,n,cs)::l)
  |_,_=>none
def Oq(s:PS):List (Nat×Nat×nk)→Option (List (Nat×Nat×List D)×List Nat)
 |[]=>some ([],[])
 |(o,n,x)::r=>match(x.ev s).cells s,Oq s r with
  |some cs,some (l,j)=>match Pn s cs with
   |some (ds,i)=>some ((o,n,ds)::l,i++j)
   |none=>none
  |_,_=>none
def chunks{α:Type}(sz:Nat):Nat→List α→List (List α)
 |0,_=>[]
 |n+1,l=>l.take sz::chunks sz n (l.drop sz)
def qh(s:PS):V→Option (List (List D)×Option Nat)
 | .d .ck=>some ([],none)
 | .d .Of=>some ([],none)
 | .d (.gz sz l)=>some (l,some sz)
 | .ref id av len=>match s.dm id av with
  |some (sz,dm)=>if dm.length=len then some (dm,some sz)else none
  |none=>none
 | .win id av n o l=>match s.dm id av with
  |some (sz,dm)=>if dm.length=n∧o+l≤n then some ((dm.drop o).take l,some sz)else none
  |none=>none
 |_=>none
def Pq:KK→D→Bool
 | .one _,_=>true
 | .row ks,.agg xs=>xs.length==ks.length
 |_,_=>false
def Hs{α:Type}(kk:KK)(k:D):List (D×α)→Option (Option α)
 |[]=>if Pq kk k=true then some none else none
 |(a,b)::r=>match Ez kk k a with
  |some true=>some (some b)
  |some false=>Hs kk k r
  |none=>none
def Nh{α:Type}(kk:KK)(k:D)(v:α):List (D×α)→Option (List (D×α))
 |[]=>if Pq kk k=true then some [(k,v)]else none
 |(a,b)::r=>match Ez kk k a with
  |some true=>some ((k,v)::r)
  |some false=>(Nh kk k v r).map ((a,b):: ·)
  |none=>none
def Vr(s:PS):Option nk→Option (Option Nat)
 |none=>some none
 |some x=>match x.ev s with
  | .d (.int _ k)=>if 0≤k then some (some k.toNat)else none
  |_=>none
def Re(s:PS)(n:Nat):Option nk→Option Nat
 |none=>some n
 |some x=>match x.ev s with
  | .d (.int _ k)=>if 0≤k then some k.toNat else none
  |_=>none
def T8(s:PS)(n a:Nat):V→Option a7y
 | .d (.gz sz l)=>if sz=n∧a≤l.length then some (mc.tj (.d (if a=0∧l≠[]then .Of else .gz sz (l.take a))))else none
 | .d .Of=>if a=0 then some (mc.tj (.d .Of))else none
 | .d .ck=>if a=0 then some (mc.tj (.d .ck))else none
 | .ref id av n0=>match s.dm id av with
  |some (sz,dm)=>if sz=n∧dm.length=n0∧a≤n0 then some ([],.cut (.ref id (s.av id+1) a) id (.arr sz (dm.take a)))else none
  |none=>none
 |_=>none
def Cy(s:PS):V→Option (List (D×C))
 | .d .Ir=>some []
 | .d (.map es)=>some (es.map fun e=>(e.1,.d e.2))
 | .l9 id av=>s.ents id av
 |_=>none
def mkt(cs:List C):V:=
 match Lo cs with
 |some ds=> .d (.Ar ds)
 |none=> .Ar cs
def V.ent(s:PS):V→Option C
 | .d x=>some (.d x)
 | .ref i v l=>if(V.ref i v l).live s then some (.ref i v l)else none
 | .l9 i v=>if(V.l9 i v).live s then some (.l9 i v)else none
 | .ie i v o=>if(V.ie i v o).live s then some (.ptr i v o)else none
 |_=>none
def a73(s:PS)(id av m l:Nat)(lo hi mx:Option nk):Option V:=
 match Vr s lo,Re s l hi,Re s m mx with
 |some i,some j,some k=>if i.getD 0≤j∧j≤m∧k=m∧(hi=none→mx=none)then some (.win id av m (i.getD 0) (j-i.getD 0))else none
 |_,_,_=>none
def Za(s:PS):V→Option (List (List C)×Option Nat)
 | .d .ck=>some ([],none)
 | .d .Of=>some ([],none)
 | .d (.gz sz l)=>some (l.map (·.map .d),some sz)
 | .ref id av len=>match s.elc id av with
  |some (sz,dm)=>if dm.length=len then some (dm,some sz)else none
  |none=>none
 |_=>none
def Qz(s:PS)(d sz bytes:Nat)(x y:V):Option a7y:=
 match Za s y with
 |some (ys,osz)=>if osz.getD sz=sz∧(ys.all fun e=>e.all (C.one s))=true then match x with
   | .d .ck=>if ys.length=0 then some (mc.tj (.d .ck))else if ys.length*bytes≤2^47 then some ([],.new (.ref d (s.av d+1) ys.length) d (.qi sz ys))else none
   | .ref id av n0=>match s.elc id av with
    |some (sz',dm)=>if sz'=sz∧dm.length=n0∧(n0+ys.length)*bytes≤2^47 then some ([],.grow (.ref id av (n0+ys.length)) id (.qi sz (dm++ys)))else none
    |none=>none
   |_=>none
  else none
 |none=>none
def jy.p9(d:Nat)(s:PS):jy→Option a7y
 | .ji x=>some (mc.tj (x.ev s))
 | .pick c a b=>match c.ev s with
  | .d (.bool true)=>some (mc.tj (a.ev s))
  | .d (.bool false)=>some (mc.tj (b.ev s))
  |_=>none
 | .alloc zero=>some ([],.new (.ie d (s.av d+1) 0) d (.loc (zero.map .d)))
 | .box n x=>match(x.ev s).cells s with
  |some cs=>if cs.length=n then some ([],.new (.ie d (s.av d+1) 0) d (.loc cs))else none
  |none=>none
 | .load n agg x=>(C4 s n agg (x.ev s)).map mc.tj
 | .store n a x=>match(x.ev s).cells s with
  |some cs=>za s n cs (a.ev s)
  |none=>yk s n (x.ev s) (a.ev s)
 | .Yn x=>match isNil s .ptr (x.ev s),isNil s .fn (x.ev s)with
  |some false,_=>some (mc.tj (x.ev s))
  |_,some false=>some (mc.tj (x.ev s))
  |_,_=>none
 | .D4 off x=>(Rs s off (x.ev s)).map mc.tj
 | .xe ln n x i=>match i.ev s with
  | .d (.int _ k)=>if 0≤k∧k<ln then(Rs s (k.toNat*n) (x.ev s)).map mc.tj else none
  |_=>none
 | .xm n x i=>match i.ev s with
  | .d (.int _ k)=>(Ke s n k (x.ev s)).map mc.tj
  |_=>none
 | .a0d x i=>match x.ev s,i.ev s with
  | .d (.str b),.d (.int _ k)=>match(if 0≤k then b[k.toNat]? else none)with
   |some u=>some (mc.tj (.d (.int .u8 u.toNat)))
   |none=>none
  |_,_=>none
 | .a0t off n agg x=>match x.ev s with
  | .d (.agg ds)=>if off+n≤ds.length then some (mc.tj (mkd agg ((ds.drop off).take n)))else none
  | .agg cs=>if off+n≤cs.length then some (mc.tj (mkv agg ((cs.drop off).take n)))else none
  |_=>none
 | .len k x=>(P0 s k (x.ev s)).map fun n=>mc.tj (.d (.int ab n))
 | .bin op x y=>match x.ev s,y.ev s with
  | .d a,.d b=>(a9i op a b).map fun r=>mc.tj (.d r)
  |_,_=>none
 | .eqs ks neg x y=>match x.ev s,y.ev s with
  | .d (.agg a),.d (.agg b)=>(Bc ks a b).map fun r=>mc.tj (.d (.bool (if neg then !r else r)))
  |_,_=>none
 | .beq neg x y=>match x.ev s,y.ev s with
  | .d (.bool a),.d (.bool b)=>some (mc.tj (.d (.bool (if neg then !(a==b)else a==b))))
  |_,_=>none
 | .K2 k neg x=>(isNil s k (x.ev s)).map fun r=>mc.tj (.d (.bool (if neg then !r else r)))
 | .un op x=>match op,x.ev s with
  | .not,.d (.bool b)=>some (mc.tj (.d (.bool !b)))
  | .neg,.d (.int k n)=>some (mc.tj (.d (.int k (k.wrap (0-n)))))
  |_,_=>none
 | .conv k x=>match x.ev s with
  | .d (.int _ n)=>some (mc.tj (.d (.int k (k.wrap n))))
  |_=>none
 | .a29 x=>match x.ev s with
  | .d (.str b)=>some (mc.tj (.d (.str b)))
  |_=>none
 | .build zero parts=>match K0 s parts with
  |some ps=>match Mo (zero.map .d) ps with
   |some cs=>some (mc.tj (mkv true cs))
   |none=>none
  |none=>none
 | .yy im n sz zero parts=>match Oq s parts with
  |some (ps,ids)=>match Wh ((jb n zero).flatten) ps with
   |some ds=>match im,ids with
    |true,[]=>some (mc.tj (.d (.gz sz (chunks sz n ds))))
    |true,_=>none
    |false,ids=>some (ids,.new (.ref d (s.av d+1) n) d (.arr sz (chunks sz n ds)))
   |none=>none
  |none=>none
 | .app sz bytes x y=>match qh s (y.ev s)with
  |some (ys,osz)=>if osz.getD sz=sz then match x.ev s with
    | .d .ck=>if ys.length=0 then some (mc.tj (.d .ck))else if ys.length*bytes≤2^47 then some ([],.new (.ref d (s.av d+1) ys.length) d (.arr sz ys))else none
    | .ref id av n0=>match s.dm id av with
     |some (sz',dm)=>if(ys.all fun e=>e.all D.one)=true∧sz'=sz∧dm.length=n0∧(n0+ys.length)*bytes≤2^47 then some ([],.grow (.ref id av (n0+ys.length)) id (.arr sz (dm++ys)))else none
     |none=>Qz s d sz bytes (.ref id av n0) (y.ev s)
    | .win id av n o k=>match s.dm id av with
     |some (sz',dm)=>if(ys.all fun e=>e.all D.one)=true∧sz'=sz∧dm.length=n∧o=0∧k+ys.length≤n then some ([],.grow (.win id av n 0 (k+ys.length)) id (.arr sz (dm.take k++ys++dm.drop (k+ys.length))))else none
     |none=>none
    |_=>none
   else none
  |none=>Qz s d sz bytes (x.ev s) (y.ev s)
 | .a0x n sz zero parts=>match K0 s parts with
  |some ps=>match Mo (((jb n zero).flatten).map .d) ps with
   |some cs=>if cs.all (C.one s)=true then some ([],.new (.ref d (s.av d+1) n) d (.qi sz (chunks sz n cs)))else none
   |none=>none
  |none=>none
 | .Oe n x j=>match x.ev s,j.ev s with
  | .ref id av m,.d (.int _ k)=>match s.dm id av with
   |some (sz,dm)=>if sz=n∧dm.length=m∧0≤k∧k≤m then some ([],.cut (.ref id (s.av id+1) k.toNat) id (.arr sz (dm.take k.toNat)))else none
   |none=>none
  | .d .ck,.d (.int _ k)=>if k=0 then some (mc.tj (.d .ck))else none
  |_,_=>none
 | .a0r .. =>none
 | .bad=>none
 | .Nx n x lo hi mx=>match x.ev s with
  | .ref id av m=>if 0<m∧s.Jb id av=some (n,m)then(a73 s id av m m lo hi mx).map mc.tj else none
  | .win id av m o l=>if o=0∧s.Jb id av=some (n,m)then(a73 s id av m l lo hi mx).map mc.tj else none
  |_=>none
 | .trim x=>match x.ev s with
  | .win id av n o l=>match s.dm id av with
   |some (sz,dm)=>if dm.length=n∧o=0 then some ([],.cut (.ref id (s.av id+1) l) id (.arr sz (dm.take l)))else none
   |none=>none
  |_=>none
 | .clr z x=>match x.ev s with
  | .win id av n o l=>match s.dm id av with
   |some (sz,dm)=>if dm.length=n∧z.length=sz∧z.all D.one=true then some ([],.set id (.arr sz (dm.take o++jb l z++dm.drop (o+l))))else none
   |none=>none
  |_=>none
 | .a3o sz bytes zero x y=>match x.ev s,y.ev s with
  | .d .ck,.d (.int _ k)=>if 0<k∧k*bytes≤2^47 then some ([],.new (.ref d (s.av d+1) k.toNat) d (.arr sz (jb k.toNat zero)))else none
  |_,_=>none
 | .ade x=>match x.ev s with
  | .d .ck=>some (mc.tj (.d (.int ab 0)))
  |_=>none
 | .adn ln n x=>match x.ev s with
  | .ie id av 0=>match s.cs id av with
   |some cs=>if cs.length=ln*n then some (mc.tj (.Kr id av ln n))else none
   |none=>none
  |_=>none
 | .Hx n x j k=>match x.ev s,j.ev s,k.ev s with
  | .ref id av m,.d (.int _ a),.d (.int _ b)=>if a=b∧0≤a∧a≤m∧s.Jb id av=some (n,m)then some (mc.tj (.Hx id av m a.toNat))else none
  |_,_,_=>none
 | .slice n x lo hi=>match x.ev s,Vr s lo with
  | .d (.gz sz l),some i=>match Re s l.length hi with
   |some j=>if sz=n∧i.getD 0≤j∧j≤l.length then some (mc.tj (.d (.gz sz ((l.take j).drop (i.getD 0)))))else none
   |none=>none
  | .d .ck,some i=>match Re s 0 hi with
   |some j=>if i.getD 0=0∧j=0 then some (mc.tj (.d .ck))else none
   |none=>none
  |_,_=>none
 | .Hq=>some ([],.a2s (.l9 d (s.av d+1)) d)
 | .lookup kk zero x i ok=>match Cy s (x.ev s),i.ev s with
  |some es,.d k=>match Hs kk k es with
   |some r=>some (mc.tj (if ok then mkt [r.getD (.d zero),.d (.bool r.isSome)]else(r.getD (.d zero)).toV))
   |none=>none
  |_,_=>none
 | .X0 kk x k v=>match x.ev s,k.ev s,(v.ev s).ent s with
  | .l9 id av,.d k,some v=>match s.ents id av with
   |some es=>(Nh kk k v es).map fun es'=>([],.Zu id es')
   |none=>none
  |_,_,_=>none
 | .Mh f j2=>match j2 with
  |[.t a]=>match s.tmp a with
   | .ie id av 0=>some (mc.tj (.oq f [(id,av)]))
   | .d x=>some (mc.tj (.d (.oq f [x])))
   |_=>none
  |[.t a,.t b]=>match s.tmp a,s.tmp b with
   | .ie id av 0,.ie id' a8e 0=>some (mc.tj (.oq f [(id,av),(id',a8e)]))
   | .d x,.d y=>some (mc.tj (.d (.oq f [x,y])))
   |_,_=>none
  |[]=>some (mc.tj (.d (.oq f [])))
  |_=>none
 | .ext x i=>match x.ev s with
  | .d (.Ar vs)=>(vs[i]?).map fun x=>mc.tj (.d x)
  | .Ar cs=>(cs[i]?).map fun c=>mc.tj c.toV
  |_=>none
 | .Ep mx x y=>match x.ev s,y.ev s with
  | .d (.int k a),.d (.int _ b)=>some (mc.tj (.d (.int k (if mx then(if b>a then b else a)else(if b<a then b else a)))))
  |_,_=>none
 | .call .. =>none
 | .xy .. =>none
 | .A9 n=>some ([],.new (.ie d (s.av d+1) 0) d (.Sd n))
 | .init g n x=>match s.tmp g,s.dc (s.base+g),(x.ev s).cells s with
  | .ie id av 0,some (.Sd m),some cs=>if id=s.base+g∧s.av (s.base+g)=av∧m=n∧cs.length=n∧cs.all (C.one s)=true then some ([],.init (.ie (s.base+g) (s.av (s.base+g)+1) 0) g (s.base+g) cs)else none
  |_,_,_=>none
 | .slice3 n x j k=>match j.ev s,k.ev s with
  | .d (.int _ a),.d (.int _ b)=>if a=b∧0≤a then T8 s n a.toNat (x.ev s)else none
  |_,_=>none
 | .a2t ln n agg x i=>match x.ev s,i.ev s with
  | .d (.agg ds),.d (.int _ k)=>if 0≤k∧k<ln∧k.toNat*n+n≤ds.length then some (mc.tj (mkd agg ((ds.drop (k.toNat*n)).take n)))else none
  |_,_=>none
 | .zg .. =>none
 | .Wj .. =>none
 | .No .. =>none
 | .qz .. =>none
 | .P4 .. =>none
def PS.put(s:PS)(d:Option Nat)(v:V):PS:={s with tmp:=match d with|some d=>l7 s.tmp d v|none=>s.tmp}
def PS.uu:List Nat→PS→PS
 |[],s=>s
 |i::r,s=>PS.uu r {s with dc:=l7 s.dc i none,mp:=l7 s.mp i none}
def C.xc(s:PS)(ids:List Nat):C→C
 | .d x=> .d x
 | .ref id av len=>if id∈ids then match s.dm id av with
   |some (sz,dm)=>if dm.length=len then .d (.gz sz dm)else .ref id av len
   |none=> .ref id av len
  else .ref id av len
 | .l9 id av=>if id∈ids then match(s.ents id av).bind Zb with
   |some es=> .d (.map es)
   |none=> .l9 id av
  else .l9 id av
 | .ptr id av off=> .ptr id av off
def V.xc(s:PS)(ids:List Nat):V→V
 | .ref id av len=>(C.xc s ids (.ref id av len)).toV
 | .l9 id av=>(C.xc s ids (.l9 id av)).toV
 | .agg cs=>mkv true (cs.map (C.xc s ids))
 | .Ar cs=> .Ar (cs.map (C.xc s ids))
 |v=>v
def PS.xc(s:PS)(ids:List Nat):PS:=
 match ids with
 |[]=>s
 |ids=>PS.uu ids {s with
   tmp:=fun t=>(s.tmp t).xc s ids
   dc:=fun i=>match s.dc i with
    |some (.loc cs)=>some (.loc (cs.map (C.xc s ids)))
    |some (.qi sz dm)=>some (Yl (.qi sz (dm.map fun e=>e.map (C.xc s ids))))
    |b=>b
   mp:=fun i=>(s.mp i).map fun es=>es.map fun e=>(e.1,C.xc s ids e.2)}
def mc.app(d:Option Nat)(s:PS):mc→PS
 | .val v=>s.put d v
 | .new v id b=>PS.put {s with dc:=l7 s.dc id (some b),av:=l7 s.av id (s.av id+1)} d v
 | .set id b=>PS.put {s with dc:=l7 s.dc id (some b)} d .no
 | .Iy id b id2 b2=>PS.put {s with dc:=l7 (l7 s.dc id (some b)) id2 (some b2),av:=l7 s.av id (s.av id+1)} d .no
 | .grow v id b=>PS.put {s with dc:=l7 s.dc id (some b)} d v
 | .a2s v id=>PS.put {s with mp:=l7 s.mp id (some []),av:=l7 s.av id (s.av id+1)} d v
 | .Zu id es=>PS.put {s with mp:=l7 s.mp id (some es)} d .no
 | .init v t id cs=>{s with tmp:=l7 s.tmp t v,dc:=l7 s.dc id (some (.loc cs)),av:=l7 s.av id (s.av id+1)}
 | .cut v id b=>PS.put {s with dc:=l7 s.dc id (some b),av:=l7 s.av id (s.av id+1)} d v
 | .mem m v=>(s.j6 m).put d v
def O1{α:Type}:List (Option α)→Option (List α)
 |[]=>some []
 |x::r=>match x,O1 r with
  |some x,some l=>some (x::l)
  |_,_=>none
def deep(s:PS):Nat→C→Option D
 |_,.d x=>some x
 |0,_=>none
 |n+1,.ref id av len=>match s.elc id av with
  |some (sz,dm)=>if dm.length=len then(O1 (dm.map fun e=>O1 (e.map (deep s n)))).map (.gz sz)else none
  |none=>none
 |n+1,.l9 id av=>match s.ents id av with
  |some es=>(O1 (es.map fun e=>(deep s n e.2).map fun x=>(e.1,x))).map .map
  |none=>none
 |_,.ptr .. =>none
def oh(s:PS):C→Option D
 | .d x=>some x
 | .ref id av len=>match s.dm id av with
  |some (sz,dm)=>if dm.length=len then some (.gz sz dm)else none
  |none=>deep s 6 (.ref id av len)
 | .l9 id av=>deep s 6 (.l9 id av)
 | .ptr .. =>none
def ju(s:PS):List C→Option (List D)
 |[]=>some []
 |c::r=>match oh s c,ju s r with
  |some x,some l=>some (x::l)
  |_,_=>none
def snap(s:PS):V→Option D
 | .d x=>some x
 | .ref id av len=>match s.dm id av with
  |some (sz,dm)=>if dm.length=len then some (.gz sz dm)else none
  |none=>deep s 6 (.ref id av len)
 | .l9 id av=>deep s 6 (.l9 id av)
 | .ie id av off=>match s.cs id av with
  |some cs=>(ju s cs).map fun ds=> .uw ds off
  |none=>none
 | .oq f [(id,av)]=>match s.cs id av with
  |some cs=>(ju s cs).map fun ds=> .oq f [.uw ds 0]
  |none=>none
 | .oq f [(id,av),(id',a8e)]=>match s.cs id av,s.cs id' a8e with
  |some cs,some cs'=>match ju s cs,ju s cs' with
   |some ds,some ds'=>some (.oq f [.uw ds 0,.uw ds' 0])
   |_,_=>none
  |_,_=>none
 | .agg cs=>(ju s cs).map .agg
 | .Kr id av len n=>match s.cs id av with
  |some cs=>match ju s cs with
   |some ds=>if ds.length=len*n∧0<n then some (.gz n (chunks n len ds))else none
   |none=>none
  |none=>none
 |_=>none
def Hk(s:PS):List V→Option (List D)
 |[]=>some []
 |v::r=>match snap s v,Hk s r with
  |some x,some l=>some (x::l)
  |_,_=>none
def V.isD:V→Bool
 | .d _=>true
 |_=>false
def P7(P:Program)(c:Nat→V×Value)(f:Nat)(args:List D)(r:D):Prop:=
 zf P f=true∧∀(G:gq) (w:World) (vs:Array Value),(∀(i:Nat) (d:D) (v:Value),c i=(V.d d,v)→i6 G d v)→(∀i,Nt (c i) w.heap.size w)→GOk G w→vs.size=args.length→(∀(i:Nat) (x:D) (v:Value),args[i]? =some x→vs[i]? =some v→i6 G x v)→
  Calls P f vs w fun e w'=>∃v G',e= .returned v∧G.le G'∧G.same G' w.heap.size∧GOk G' w'∧Bel (Plain c) w.heap.size w w'∧i6 G' r v
theorem iz.toC{P:Program}{c:Nat→V×Value}{f:Nat}{args:List D}{r:D}(h:iz P f args r):P7 P c f args r:=⟨h.1,fun G w vs _ _ hG hl hr=>(h.2 G w vs hG hl hr).mono fun _ _ ⟨v,G',h1,h2,h3,h4,h5,h6⟩=>⟨v,G',h1,h2,h3,h4,h5.M8 fun _=>trivial,h6⟩⟩
def Ey(P:Program)(f:Nat)(args:List V)(j2:List D)(own:Bool)(d:Option Nat)(s:PS)(K:PS→Prop):Prop:=
 ∃ds r,Hk s args=some ds∧P7 P s.ctx f (ds++j2) r∧(r.flat=true∨(own=false∧args.all V.isD=true))∧K (s.put d (.d r))
structure Aa(s s':PS)(i av:Nat):Prop where
 dm:s'.dm i av=s.dm i av
 cs:s'.cs i av=s.cs i av
 ents:s'.ents i av=s.ents i av
 elc:s'.elc i av=s.elc i av
 Jb:s'.Jb i av=s.Jb i av
 dp:∀n c,(∃l,c= .ref i av l)∨c= .l9 i av→deep s' n c=deep s n c
def I0(s s':PS):C→Prop
 | .d _=>True
 | .ref i av _=>Aa s s' i av
 | .l9 i av=>Aa s s' i av
 | .ptr i av _=>Aa s s' i av
def Rz(s s':PS)(i av:Nat):Prop:=Aa s s' i av∧∀cs,s.cs i av=some cs→∀c∈cs,I0 s s' c
def Ja(s s':PS):V→Prop
 | .d _=>True
 | .ref i av _=>Aa s s' i av
 | .l9 i av=>Aa s s' i av
 | .ie i av _=>Rz s s' i av
 | .Hw i av _ _ _=>Aa s s' i av
 | .oq _ ids=>∀p∈ids,Rz s s' p.1 p.2
 | .agg cs=>∀c∈cs,I0 s s' c
 | .Ar cs=>∀c∈cs,I0 s s' c
 | .Kr i av _ _=>Rz s s' i av
 | .Hx i av _ _=>Aa s s' i av
 | .win i av _ _ _=>Aa s s' i av
 | .no=>True
def qm(P:Program)(f:Nat)(m:Mem)(args:List V)(m':Mem)(r:V):Prop:=
 zf P f=true∧∀(s:PS) (B0:Nat) (w0:World) (nt:Nat) (G0 G:gq) (E:Env) (a:Act) (w:World) (vs:Array Value),s.mem=m→jf B0 w0 nt G0 s G E a w→vs.size=args.length→
  (∀(i:Nat) (x:V) (v:Value),args[i]? =some x→vs[i]? =some v→iw G E s x v)→
  Calls P f vs w fun e w'=>∃v G' E',e= .returned v∧jf B0 w0 nt G0 (s.j6 m') G' E' a w'∧iw G' E' (s.j6 m') r v
def aqe(P:Program)(f:Nat)(s:PS)(args:List V)(r:D):Prop:=
 ∀s2:PS,(∀x∈args,Ja s s2 x)→qm P f s2.mem args s2.mem (.d r)
def Df(P:Program)(f:Nat)(s:PS)(args:List V)(R:Mem→V→Prop):Prop:=
 zf P f=true∧∀(B0:Nat) (w0:World) (nt:Nat) (G0 G:gq) (E:Env) (a:Act) (w:World) (vs:Array Value),jf B0 w0 nt G0 s G E a w→vs.size=args.length→
  (∀(i:Nat) (x:V) (v:Value),args[i]? =some x→vs[i]? =some v→iw G E s x v)→
  Calls P f vs w fun e w'=>∃v G' E' m' r,e= .returned v∧R m' r∧jf B0 w0 nt G0 (s.j6 m') G' E' a w'∧iw G' E' (s.j6 m') r v
def PS.a0u(s:PS)(ts:List Nat):PS:={s with tmp:=fun t=>if t∈ts then .no else s.tmp t}
def am6(s:PS)(id:Nat)(kk:KK)(sz bytes:Nat)(x k y:V)(ts:List Nat)(s':PS):Prop:=
 s.dc id=none∧s.mp id=none∧∃m av key es ys osz,x= .l9 m av∧k= .d key∧s.ents m av=some es∧qh s y=some (ys,osz)∧osz.getD sz=sz∧ys≠[]∧(ys.all fun e=>e.all D.one)=true∧es.length<2^30∧
  ((Hs kk key es=some none∧ys.length*bytes≤2^47∧∃es',Nh kk key (.ref id (s.av id+1) ys.length) es=some es'∧
    s'=PS.a0u {s with dc:=l7 s.dc id (some (.arr sz ys)),av:=l7 s.av id (s.av id+1),mp:=l7 s.mp m (some es')} ts)∨
   (∃i v0 n0 dm,Hs kk key es=some (some (.ref i v0 n0))∧s.dm i v0=some (sz,dm)∧dm.length=n0∧(n0+ys.length)*bytes≤2^47∧∃es',Nh kk key (.ref i v0 (n0+ys.length)) es=some es'∧
    s'=PS.a0u {s with dc:=l7 s.dc i (some (.arr sz (dm++ys))),mp:=l7 s.mp m (some es')} ts))
def H6(P:Program)(o:RI)(s:PS)(K:PS→Prop):Prop:=
 match o.op with
 | .a0r kk sz bytes x k y ts=>∃id s',am6 s id kk sz bytes (x.ev s) (k.ev s) (y.ev s) ts s'∧K (s'.put o.dst .no)
 | .qz f args=>∃R,Df P f s (args.map (·.ev s)) R∧∀m' r,R m' r→K ((s.j6 m').put o.dst r)
 | .P4 f args=>match f.ev s with
  | .d (.oq g j2)=>∃R,Df P g s (args.map (·.ev s)++j2.map .d) R∧∀m' r,R m' r→K ((s.j6 m').put o.dst r)
  |_=>False
 | .zg f args=>∃m' r,qm P f s.mem (args.map (·.ev s)) m' r∧K ((s.j6 m').put o.dst r)
 | .Wj f args=>∃r,aqe P f s (args.map (·.ev s)) r∧K (s.put o.dst (.d r))
 | .No f args=>match f.ev s with
  | .d (.oq g j2)=>∃m' r,qm P g s.mem (args.map (·.ev s)++j2.map .d) m' r∧K ((s.j6 m').put o.dst r)
  |_=>False
 | .call f args=>Ey P f (args.map (·.ev s)) [] false o.dst s K
 | .xy f args=>match snap s (f.ev s)with
  |some (.oq g j2)=>Ey P g (args.map (·.ev s)) j2 (!(f.ev s).isD) o.dst s K
  |_=>False
 |op=>match op.p9 (s.base+o.dst.getD 0) s with
  |some (ids,e)=>K (e.app o.dst (s.uu ids))
  |none=>False
def wanted(o:RI)(s:PS):Option Bool:=
 match o.guard with
 |none=>some true
 |some (t,b)=>match s.tmp t with
  | .d (.bool c)=>some (c==b)
  | .d (.Ar [])=>some false
  |_=>none
def lk(P:Program):List RI→PS→(PS→Prop)→Prop
 |[],s,K=>K s
 |o::r,s,K=>match wanted o s with
  |some true=>H6 P o s fun s'=>lk P r s' K
  |some false=>lk P r (s.put o.dst (.d (.Ar []))) K
  |none=>False
def RI.ql(o:RI):List Nat:=
 match o.op with
 | .alloc _| .box .. | .Hq| .A9 _=>o.dst.toList
 | .init g .. =>[g]
 |_=>[]
def ql(ops:List RI):List Nat:=ops.flatMap RI.ql
def sh(b:Nat)(l:List Nat):List Nat:=l.map (b+ ·)
def kq(P:Program):dn→(Exit→PS→Prop)→PS→Prop
 | .skip,Q,s=>Q .normal s
 | .region ops draw fz,Q,s=>lk P ops (if draw=true then(s.xc (sh s.base fz)).uu (sh s.base (ql ops))else s.xc (sh s.base fz)) (Q .normal)
 | .seq a b,Q,s=>kq P a (fun e s'=>match e with| .normal=>kq P b Q s'|e=>Q e s') s
 | .cond c a b,Q,s=>match c.ev s with
  | .d (.bool x)=>if x then kq P a Q s else kq P b Q s
  |_=>False
 | .block id c,Q,s=>kq P c (fun e s'=>match e with| .exit i=>if i=id then Q .normal s' else Q (.exit i) s'|e=>Q e s') s
 | .loop c,Q,s=>∃(I:PS→Prop) (m:PS→Nat),I s∧∀s',I s'→kq P c (fun e s''=>match e with| .normal=>I s''∧m s''<m s'|e=>Q e s'') s'
 | .freeze,Q,s=>∃ids,Q .normal (s.xc ids)
 | .a6m l,Q,s=>∃I:(Nat→Bool)→PS→Prop,I (fun _=>false) s∧∀A s',I A s'→
   ((∀i,i<l.length→A i=true)→Q .normal s')∧∀i o,l[i]? =some o→A i=false→(∀j∈o.after,A j=true)→lk P [o] s' (I (l7 A i true))
 | .both a b,Q,s=>kq P a Q s∧kq P b Q s
 | .exit id,Q,s=>Q (.exit id) s
 | .ret,Q,s=>Q .ret s
def Ye(s:PS):V→Option D
 | .d x=>some x
 | .ref id av len=>(Qs s (.ref id av len)).map (·.1)
 | .l9 id av=>(Qs s (.l9 id av)).map (·.1)
 | .agg cs=>(Pn s cs).map fun p=> .agg p.1
 |_=>none
inductive J0 where
 |tmp (t:Nat)
 |cell (t n:Nat) (agg:Bool)
 deriving Inhabited
def ain(s:PS):J0→Option D
 | .tmp t=>Ye s (s.tmp t)
 | .cell t n agg=>match C4 s n agg (s.tmp t)with
  |some v=>Ye s v
  |none=>none
def a1j(s:PS):List J0→Option (List D)
 |[]=>some []
 |r::l=>match ain s r,a1j s l with
  |some x,some xs=>some (x::xs)
  |_,_=>none
def Yc(s:PS)(l:List J0):Option D:=
 match l with
 |[r]=>ain s r
 |l=>(a1j s l).map .Ar
def V.toC:V→Option C
 | .d x=>some (.d x)
 | .ref i v l=>some (.ref i v l)
 | .l9 i v=>some (.l9 i v)
 | .ie i v o=>some (.ptr i v o)
 |_=>none
def sq(s:PS):J0→Option V
 | .tmp t=>some (s.tmp t)
 | .cell t n agg=>C4 s n agg (s.tmp t)
def Jh(s:PS):List J0→Option (List C)
 |[]=>some []
 |r::l=>match(sq s r).bind V.toC,Jh s l with
  |some x,some xs=>some (x::xs)
  |_,_=>none
def pa(s:PS)(l:List J0):Option V:=
 match l with
 |[r]=>sq s r
 |l=>(Jh s l).map .Ar
def a4b:Value→Option D
 | .int k n=>some (.int k n)
 | .bool b=>some (.bool b)
 | .string s=>some (.str s)
 | .slice none 0 0=>some .ck
 | .pointer none=>some .Wz
 | .map none=>some .Ir
 | .nilFunc=>some .xd
 | .func (.func f) a b=>if a.size=0∧b.size=0 then some (.oq f [])else none
 |_=>none
def ah0:List Value→Option (List D)
 |[]=>some []
 |v::r=>match a4b v,ah0 r with
  |some x,some l=>some (x::l)
  |_,_=>none
def Xm:Value→Option D
 | .agg cs=>(ah0 cs.toList).map .agg
 |v=>a4b v
def x8:Operand→Option nk
 | .tmp t=>some (.t t)
 | .const v=>(Xm v).map .c
 | .func f=>some (.c (.oq f []))
 | .global _=>none
def J7:List Operand→Option (List nk)
 |[]=>some []
 |x::r=>match x8 x,J7 r with
  |some a,some l=>some (a::l)
  |_,_=>none
section
variable(P:Program)
def lg(t:TypeId):Option Nat:=(P.info? t).map (·.size)
def B9(t:TypeId):Option Bool:=
 match P.underlying t with
 |some (.struct _)|some (.array _ _)=>some true
 |some _=>some false
 |none=>none
def Fw(t:TypeId):Option (List D):=
 match(P.info? t).bind (·.zero)with
 |some v=>ah0 v.cells.toList
 |none=>none
def Gf(g:TypeId→Option (List LK)):List Field→Nat→Option (List LK)
 |[],_=>some []
 |f::r,off=>if f.name≠ "_"∧f.offset=off then match g f.type with
   |some l=>if lg P f.type=some l.length∧0<l.length then match Gf g r (off+l.length)with
     |some m=>some (l++m)
     |none=>none
    else none
   |none=>none
  else none
def Bu:Nat→TypeId→Option (List LK)
 |0,_=>none
 |n+1,t=>match P.underlying t with
  |some .bool=>if lg P t=some 1 then some [.bool]else none
  |some (.int _)=>if lg P t=some 1 then some [.int]else none
  |some .string=>if lg P t=some 1 then some [.str]else none
  |some (.array len e)=>match Bu n e with
   |some l=>if lg P e=some l.length∧0<l.length∧lg P t=some (len*l.length)then some (jb len l).flatten else none
   |none=>none
  |some (.struct fs)=>if P.stoodInHeld t=false then match Gf P (Bu n) fs.toList 0 with
    |some l=>if lg P t=some l.length then some l else none
    |none=>none
   else none
  |_=>none
def R5(t:TypeId):Option KK:=
 match Bu P 8 t,B9 P t with
 |some [k],some false=>some (.one k)
 |some ks,some true=>some (.row ks)
 |_,_=>none
def ach(k:TK):Operand→Bool
 | .const (.pointer none)=>k= .ptr
 | .const (.slice none 0 0)=>k= .gz
 | .const (.map none)=>k= .map
 | .const .nilFunc=>k= .fn
 |_=>false
def a14(op:BinOp)(x y:Operand)(k:TK)(a b:nk):Option jy:=
 if op= .eql∨op= .neq then
  if ach k y then some (.K2 k (op= .neq) a)else if ach k x then some (.K2 k (op= .neq) b)else none
 else none
def a0s(fs:Array Field):List (Nat×Operand)→Option (List (Nat×Nat×nk))
 |[]=>some []
 |(i,x)::r=>match fs[i]?,x8 x,a0s fs r with
  |some f,some a,some l=>match lg P f.type with
   |some n=>some ((f.offset,n,a)::l)
   |none=>none
  |_,_,_=>none
def Qy(n:Nat):List (Nat×Operand)→Option (List (Nat×Nat×nk))
 |[]=>some []
 |(i,x)::r=>match x8 x,Qy n r with
  |some a,some l=>some ((i*n,n,a)::l)
  |_,_=>none
structure Ann where
 imm:List Nat:=[]
 xc:List (Nat×List Nat):=[]
 ce:List Nat:=[]
 cf:List Nat:=[]
 cr:List Nat:=[]
 kp:List Nat:=[]
 cv:List Nat:=[]
 dyn:List Nat:=[]
 od:List Nat:=[]
 ga:List Nat:=[]
def a7o:Option Operand→Option (Option nk)
 |none=>some none
 |some v=>(x8 v).map some
def Sw(kp cv:Bool)(t:TypeId)(x:Operand)(lo hi mx:Option Operand):Option jy:=
 match P.underlying t with
 |some (.slice e)=>if kp=true then(match lg P e,x8 x,a7o lo,a7o hi,a7o mx with
  |some n,some x,some lo,some hi,some mx=>some (.Nx n x lo hi mx)
  |_,_,_,_,_=>none)else match lg P e,x8 x,mx with
  |some n,some x,none=>match cv,lo,hi with
   |true,none,some j=>(x8 j).map fun j=> .Oe n x j
   |_,lo,hi=>match a7o lo,a7o hi with
    |some lo,some hi=>some (.slice n x lo hi)
    |_,_=>none
  |some n,some x,some k=>match lo,hi,x8 k with
   |none,some j,some k=>(x8 j).map fun j=>if cv=true then .Hx n x j k else .slice3 n x j k
   |_,_,_=>none
  |_,_,_=>none
 |some (.array ln e)=>match lg P e,x8 x,lo,hi,mx with
  |some n,some x,none,none,none=>some (.adn ln n x)
  |_,_,_,_,_=>none
 |_=>none
def cOp(im kp cv:Bool)(cm:Nat)(o:Op):Option jy:=
 match o with
 | .makeInterface .. =>some .bad
 | .panic _=>some .bad
 | .move x| .assign x=>(x8 x).map (if kp=true then .trim else .ji)
 | .pick c a b=>match x8 c,x8 a,x8 b with
  |some c,some a,some b=>some (.pick c a b)
  |_,_,_=>none
 | .alloc e=>(Fw P e).map .alloc
 | .box e x=>match lg P e,x8 x with
  |some n,some x=>some (.box n x)
  |_,_=>none
 | .load t a=>match lg P t,B9 P t,x8 a with
  |some n,some g,some a=>if g=true∨n=1 then some (.load n g a)else none
  |_,_,_=>none
 | .store t a x=>match lg P t,x8 a,x8 x with
  |some n,some a,some x=>some (.store n a x)
  |_,_,_=>none
 | .nilCheck x=>(x8 x).map .Yn
 | .fieldAddr s x f=>match P.underlying s,x8 x with
  |some (.struct fs),some x=>match fs[f]? with
   |some f=>match lg P f.type with
    |some n=>if n=0 then none else some (.D4 f.offset x)
    |none=>none
   |none=>none
  |_,_=>none
 | .indexAddr t x i=>match P.underlying t,x8 x,x8 i with
  |some (.array len e),some x,some i=>(lg P e).map fun n=> .xe len n x i
  |some (.slice e),some x,some i=>(lg P e).map fun n=> .xm n x i
  |_,_,_=>none
 | .index t x i=>match P.underlying t,x8 x,x8 i with
  |some .string,some x,some i=>some (.a0d x i)
  |some (.array len e),some x,some i=>match lg P e,B9 P e with
   |some n,some g=>if g=true∨n=1 then some (.a2t len n g x i)else none
   |_,_=>none
  |_,_,_=>none
 | .field t x f=>match P.underlying t,x8 x with
  |some (.struct fs),some x=>match fs[f]? with
   |some f=>match lg P f.type,B9 P f.type with
    |some n,some g=>if g=true∨n=1 then some (.a0t f.offset n g x)else none
    |_,_=>none
   |none=>none
  |_,_=>none
 | .binOp op t x y yt=>match x8 x,x8 y with
  |some a,some b=>
   match P.underlying t with
   |some (.int _)|some .string=>some (.bin op a b)
   |some .bool=>if op= .eql∨op= .neq then some (.beq (op= .neq) a b)else none
   |some (.pointer _)=>a14 op x y .ptr a b
   |some (.slice _)=>a14 op x y .gz a b
   |some (.map ..)=>a14 op x y .map a b
   |some (.func ..)=>a14 op x y .fn a b
   |some (.struct _)|some (.array ..)=>match Bu P 8 t with
    |some ks=>if(op= .eql∨op= .neq)∧P.eqGuardType P.depth t=false then some (.eqs ks (op= .neq) a b)else none
    |none=>none
   |_=>none
  |_,_=>none
 | .unOp op _ x=>(x8 x).map (.un op)
 | .convert s d x=>match P.underlying s,P.underlying d,x8 x with
  |some (.int _),some (.int k),some x=>some (.conv k x)
  |some .string,some .string,some x=>some (.a29 x)
  |_,_,_=>none
 | .build t ps=>match P.underlying t,Fw P t with
  |some (.struct fs),some z=>if fs.toList.all (fun f=>(lg P f.type).isSome)=true then(a0s P fs ps.toList).map (.build z)else none
  |some (.array _ e),some z=>match lg P e with
   |some n=>(Qy n ps.toList).map (.build z)
   |none=>none
  |_,_=>none
 | .buildSlice t n ps=>match P.underlying t with
  |some (.slice e)=>match lg P e,Fw P e with
   |some sz,some z=>if n*sz≤2^20∧z.length=sz∧0<sz then(Qy sz ps.toList).map (if kp=true then .a0x n sz z else .yy im n sz z)else none
   |_,_=>none
  |_=>none
 | .slice t x lo hi mx=>Sw P kp cv t x lo hi mx
 | .makeMap t none=>match P.underlying t with
  |some (.map ..)=>some .Hq
  |_=>none
 | .lookup t x i ok=>match P.underlying t with
  |some (.map kt e)=>match(P.info? e).bind (·.zero),x8 x,x8 i,R5 P kt with
   |some z,some x,some i,some kk=>(Xm z).map fun z=> .lookup kk z x i ok
   |_,_,_,_=>none
  |_=>none
 | .mapUpdate t m k v=>match P.underlying t,x8 m,x8 k,x8 v with
  |some (.map kt _),some m,some k,some v=>(R5 P kt).map fun kk=> .X0 kk m k v
  |_,_,_,_=>none
 | .makeFunc (.func f) first j2=>if first.size=0 then(J7 j2.toList).map (.Mh f)else none
 | .extract x i=>(x8 x).map (.ext · i)
 | .call {callee:= .builtin .len,args,argTypes}=>match argTypes[0]?,args[0]? with
  |some t,some x=>match P.underlying t,x8 x with
   |some (.array n _),_=>some (.ji (.c (.int ab n)))
   |some .string,some x=>some (.len .str x)
   |some (.slice _),some x=>some (.len .gz x)
   |some (.map ..),some x=>some (.len .map x)
   |_,_=>none
  |_,_=>none
 | .call {callee:= .builtin .cap,args,argTypes}=>match argTypes[0]?,args[0]? with
  |some t,some x=>match P.underlying t,x8 x with
   |some (.slice _),some x=>some (.ade x)
   |_,_=>none
  |_,_=>none
 | .call {callee:= .builtin .clear,args,argTypes}=>match argTypes[0]?,args[0]? with
  |some t,some x=>match P.underlying t,x8 x with
   |some (.slice e),some x=>match P.info? e,Fw P e with
    |some i,some z=>if i.zero.map (·.cells.size)=some i.size∧z.length=i.size then some (.clr z x)else none
    |_,_=>none
   |_,_=>none
  |_,_=>none
 | .call {callee:= .builtin .append,args,argTypes}=>match argTypes[0]?,argTypes[1]?,args[0]?,args[1]? with
  |some t,some u,some x,some y=>match P.underlying t,P.underlying u,x8 x,x8 y with
   |some (.slice e),some (.int _),some x,some y=>match P.info? e,Fw P e with
    |some i,some z=>if i.zero.map (·.cells.size)=some i.size∧z.length=i.size∧0<i.size∧0<i.bytes∧i.size≤2^10∧i.bytes≤2^14 then some (.a3o i.size i.bytes z x y)else none
    |_,_=>none
   |some (.slice e),some (.slice _),some x,some y=>match P.info? e with
    |some i=>if i.zero.map (·.cells.size)=some i.size∧0<i.size∧0<i.bytes∧i.size≤2^10∧i.bytes≤2^14 then some (.app i.size i.bytes x y)else none
    |none=>none
   |_,_,_,_=>none
  |_,_,_,_=>none
 | .call {callee:= .builtin .min,args,.. }=>match args.toList with
  |[x,y]=>match x8 x,x8 y with
   |some x,some y=>some (.Ep false x y)
   |_,_=>none
  |_=>none
 | .call {callee:= .builtin .max,args,.. }=>match args.toList with
  |[x,y]=>match x8 x,x8 y with
   |some x,some y=>some (.Ep true x y)
   |_,_=>none
  |_=>none
 | .call {callee:= .value (.func f),args,.. }=>match J7 args.toList with
  |some l=>if cm=0 then some (.call f l)else if cm=1 then some (.Wj f l)else if cm=2 then some (.zg f l)else some (.qz f l)
  |none=>none
 | .call {callee:= .value f,args,.. }=>match x8 f,J7 args.toList with
  |some f,some l=>if cm=0 then some (.xy f l)else if cm=2 then some (.No f l)else some (.P4 f l)
  |_,_=>none
 |_=>none
def a7n(nt:Nat)(an:Ann)(ops:Array Oper)(o:Oper):Option RI:=
 match cOp P (an.imm.contains (o.dst.getD 0)) (an.kp.contains (o.dst.getD 0)) (an.cv.contains (o.dst.getD 0)) (if an.ce.contains (o.dst.getD 0)then 2 else if an.cf.contains (o.dst.getD 0)then 1 else if an.cr.contains (o.dst.getD 0)then 3 else 0) o.op with
 |none=>none
 |some r=>
  match o.guard with
  |none=>if o.dst.all (· <nt)then some {dst:=o.dst,op:=r,guard:=none,after:=(o.after.toList.filter (aJh .any)).map (·.on)}else none
  |some (j,b)=>match(ops[j]?).bind (·.dst)with
   |some t=>if o.dst.all (· <nt)then some {dst:=o.dst,op:=r,guard:=some (t,b),after:=(o.after.toList.filter (aJh .any)).map (·.on)}else none
   |none=>none
def aur(nt:Nat)(o1 o2 o3 o4 o5:Oper):Option RI:=
 match o1.dst,o1.op,o2.dst,o2.op,o3.dst,o3.op,o4.dst,o4.op,o5.dst,o5.op with
 |some d1,.mapEntry t (.tmp m) (.tmp k),some d2,.extract (.tmp e2) 0,some d3,.call c,some d4,.extract (.tmp e4) 1,none,.entryStore _ (.tmp m') (.tmp e5) (.tmp e6)=>
  match c.callee,c.args.toList,c.argTypes[0]?,c.argTypes[1]?,P.underlying t with
  | .builtin .append,[.tmp a0,.tmp y],some at_,some au,some (.map kt et)=>
   if e2=d1∧e4=d1∧e5=d4∧e6=d3∧m'=m∧a0=d2∧at_=et∧d1≠d2∧d1≠d3∧d3≠d4∧o1.guard=none∧o2.guard=none∧o3.guard=none∧o4.guard=none∧o5.guard=none∧
     d1<nt∧d2<nt∧d3<nt∧d4<nt∧y≠d1∧y≠d2∧m≠d1∧m≠d2∧m≠d3∧m≠d4 then
    match P.underlying at_,P.underlying au,(P.info? et).bind (·.zero),R5 P kt with
    |some (.slice e),some (.slice _),some (.slice none 0 0),some kk=>match P.info? e with
     |some i=>if i.zero.map (·.cells.size)=some i.size∧0<i.size∧0<i.bytes∧i.size≤2^10∧i.bytes≤2^14 then some {dst:=none,op:= .a0r kk i.size i.bytes (.t m) (.t k) (.t y) [d1,d2,d3,d4],guard:=none,after:=[]}else none
     |none=>none
    |_,_,_,_=>none
   else none
  |_,_,_,_,_=>none
 |_,_,_,_,_,_,_,_,_,_=>none
def Sx(nt:Nat)(an:Ann)(ops:Array Oper):List Oper→Option (List RI)
 |[]=>some []
 |o::r=>match a7n P nt an ops o,Sx nt an ops r with
  |some a,some l=>some (a::l)
  |_,_=>none
inductive Kind where
 |pure|read|alloc|write
 deriving DecidableEq
def jy.kind:jy→Kind
 | .ji _| .pick .. | .conv .. | .a29 _| .un .. | .bin .. | .beq .. | .eqs .. | .a0t .. | .ext .. | .Ep .. | .a0d .. | .a2t .. => .pure
 | .alloc _| .box .. | .Hq| .A9 _| .init .. => .alloc
 | .yy im .. =>if im then .read else .write
 | .app .. | .a3o .. | .a0x .. | .a0r .. | .store .. | .X0 .. | .slice3 .. | .Oe .. | .trim _| .clr .. | .zg .. | .No .. | .qz .. | .P4 .. => .write
 |_=> .read
def Kind.ok:Kind→Kind→Bool
 | .pure,_|_,.pure=>true
 | .write,_|_,.write=>false
 |_,_=>true
def nk.ts:nk→List Nat
 | .t n=>[n]
 | .c _=>[]
def jy.se:jy→List nk
 | .ji x=>[x]
 | .pick c a b=>[c,a,b]
 | .alloc _=>[]
 | .box _ x=>[x]
 | .load _ _ x=>[x]
 | .store _ a x=>[a,x]
 | .Yn x=>[x]
 | .D4 _ x=>[x]
 | .xe _ _ x i=>[x,i]
 | .xm _ x i=>[x,i]
 | .a0d x i=>[x,i]
 | .a0t _ _ _ x=>[x]
 | .len _ x=>[x]
 | .bin _ x y=>[x,y]
 | .eqs _ _ x y=>[x,y]
 | .K2 _ _ x=>[x]
 | .beq _ x y=>[x,y]
 | .un _ x=>[x]
 | .conv _ x=>[x]
 | .a29 x=>[x]
 | .build _ ps=>ps.map (·.2.2)
 | .yy _ _ _ _ ps=>ps.map (·.2.2)
 | .app _ _ x y=>[x,y]
 | .a0x _ _ _ ps=>ps.map (·.2.2)
 | .a0r _ _ _ x k y _=>[x,k,y]
 | .a3o _ _ _ x y=>[x,y]
 | .ade x=>[x]
 | .adn _ _ x=>[x]
 | .Hx _ x j k=>[x,j,k]
 | .Oe _ x j=>[x,j]
 | .Nx _ x lo hi mx=>x::(lo.toList++hi.toList++mx.toList)
 | .trim x=>[x]
 | .clr _ x=>[x]
 | .bad=>[]
 | .slice _ x lo hi=>x::(lo.toList++hi.toList)
 | .Hq=>[]
 | .lookup _ _ x i _=>[x,i]
 | .X0 _ x k v=>[x,k,v]
 | .Mh _ j2=>j2
 | .ext x _=>[x]
 | .Ep _ x y=>[x,y]
 | .call _ args=>args
 | .xy f args=>f::args
 | .A9 _=>[]
 | .init g _ x=>[.t g,x]
 | .slice3 _ x j k=>[x,j,k]
 | .a2t _ _ _ x i=>[x,i]
 | .zg _ args=>args
 | .Wj _ args=>args
 | .No f args=>f::args
 | .qz _ args=>args
 | .P4 f args=>f::args
def RI.looks(o:RI):List Nat:=(o.op.se.flatMap nk.ts)++(match o.guard with|some (t,_)=>[t]|none=>[])
def RI.writes(o:RI):Option Nat:=
 match o.op with
 | .init g .. =>if o.dst=none then some g else none
 |_=>o.dst
def RI.makes(o:RI):List Nat:=
 match o.op with
 | .alloc _| .box .. | .Hq| .app .. | .a3o .. | .a0x .. =>[o.dst.getD 0]
 | .yy im .. =>if im then[]else[o.dst.getD 0]
 | .init g .. =>[g]
 |_=>[]
def RI.isE(o:RI):Bool:=
 match o.op with
 | .zg .. | .No .. =>true
 |_=>false
def RI.isR(o:RI):Bool:=
 match o.op with
 | .qz .. | .P4 .. | .a0r .. =>true
 |_=>false
def RI.far(x y:RI):Bool:=(x.makes.all fun d=> !y.ql.contains d)&&(!x.isE||y.ql.isEmpty)
def RI.soft(x y:RI):Bool:=
 match x.op,y.op with
 | .Hx ..,.store n _ _=>n !=1
 |_,_=>false
def RI.ad9(x y:RI):Bool:=
 (x.op.kind.ok y.op.kind||(x.soft y||y.soft x))&&x.far y&&y.far x&&(x.ql.all fun d=>d !=y.dst.getD 0)&&(y.ql.all fun d=>d !=x.dst.getD 0)&&
 (match x.writes with|some d=> !y.looks.contains d&&y.writes !=some d|none=>x.op.kind != .alloc)&&
 (match y.writes with|some d=> !x.looks.contains d|none=>y.op.kind != .alloc)
def aDd(l:List RI)(d n:Nat):Bool:=
 (l.countP fun o=>o.looks.contains d)==1&&l.any fun o=>match o.op with
  | .store m (.t g) x=>g==d&&m==n&& !x.ts.contains d&&o.guard.isNone&&o.dst.isNone
  |_=>false
def RI.ajy(l:List RI)(o:RI):RI:=
 match o.op,o.dst with
 | .alloc z,some d=>if o.guard.isNone&&aDd l d z.length then{o with op:= .A9 z.length}else o
 | .store n (.t g) x,none=>if o.guard.isNone&&aDd l g n&&(l.any fun o'=>o'.dst==some g&&o'.guard.isNone&&match o'.op with| .alloc z=>z.length==n|_=>false)then{o with op:= .init g n x}else o
 |_,_=>o
def ahead(ops:List RI):Nat→Nat→List Nat
 |0,_=>[]
 |n+1,i=>match ops[i]? with
  |some o=>o.after++o.after.flatMap (ahead ops n)
  |none=>[]
def as7(ops:List RI)(k i:Nat):Bool:=
 match ops[k]?,ops[i]? with
 |some x,some y=>x.ad9 y||(ahead ops ops.length i).contains k
 |_,_=>false
def Xl(ops:List RI):Bool:=
 (ops.all fun o=> !o.isR)&&(dt ops.length).all fun i=>(match ops[i]? with|some o=>o.after.all (· <i)|none=>false)&&(dt i).all fun k=>as7 ops k i&&((ops.getD k default).far (ops.getD i default))
def auq(nt:Nat):List Oper→Option RI
 |o1::o2::o3::o4::o5::_=>aur P nt o1 o2 o3 o4 o5
 |_=>none
def a9h(nt:Nat)(an:Ann)(ops:Array Oper):Nat→List Oper→Option (List RI)
 |_,[]=>some []
 |k+1,_::r=>a9h nt an ops k r
 |0,o::r=>match auq P nt (o::r)with
  |some a=>(a9h nt an ops 4 r).map (a:: ·)
  |none=>match a7n P nt an ops o,a9h nt an ops 0 r with
   |some a,some l=>some (a::l)
   |_,_=>none
def adg(nt:Nat)(an:Ann)(id:Nat)(ops:Array Oper)(draw:Bool):Option dn:=
 if draw=false then match a9h P nt an ops 0 ops.toList with
  |some l=>some (.region l false ((an.xc.lookup id).getD []))
  |none=>none
 else match Sx P nt an ops ops.toList with
  |some l=>if Xl (l.map (RI.ajy l))=true then some (.region (l.map (RI.ajy l)) true ((an.xc.lookup id).getD []))else none
  |none=>none
def auu:List dn→dn
 |[]=> .skip
 |[x]=>x
 |x::r=> .both x (auu r)
def ahe(ops:Array Oper)(l:List RI):Nat→Array Bool→Option dn
 |0,A=>if Ic .any ops A=[]then some .skip else none
 |n+1,A=>if Ic .any ops A=[]then some .skip else
  (O1 ((Ic .any ops A).map fun i=>(ahe ops l n (A.setIfInBounds i true)).map fun t=> .seq (.region [l.getD i default] false []) t)).map auu
def aCk(nt:Nat)(an:Ann)(ops:Array Oper):Option dn:=
 match Sx P nt an ops ops.toList with
 |some l=>ahe ops l ops.size (Ns ops.size false)
 |none=>none
def aus(nt:Nat)(an:Ann)(ops:Array Oper):Option dn:=
 match Sx P nt an ops ops.toList with
 |some l=>if((dt l.length).all fun i=>(l.getD i default).after.all (· <i))=true then some (.a6m l)else none
 |none=>none
def comp(nt:Nat)(an:Ann):Code→Option dn
 | .skip=>some .skip
 | .label _=>some .skip
 | .region id ops draw=>(if draw=true∧an.ga.contains id=true then aus P nt an ops else if draw=true∧an.od.contains id=true then aCk P nt an ops else adg P nt an id ops draw).map fun r=>if an.dyn.contains id=true then .seq .freeze r else r
 | .seq a b=>match comp nt an a,comp nt an b with
  |some a,some b=>some (.seq a b)
  |_,_=>none
 | .cond c a b=>match x8 c,comp nt an a,comp nt an b with
  |some c,some a,some b=>some (.cond c a b)
  |_,_,_=>none
 | .block id c=>(comp nt an c).map (.block id)
 | .loop c=>(comp nt an c).map .loop
 | .exit id=>some (.exit id)
 | .scope c=>comp nt an c
 | .ret=>some .ret
 |_=>none
end
end Go.PI
namespace Go.PI
section
variable{P:Program}{Q:Exit→PS→Prop}{s:PS}
theorem aey:kq P .skip Q s=Q .normal s:=fc rfl (gp _)
theorem a3s{a b:dn}:kq P (.seq a b) Q s=kq P a (fun e s'=>match e with| .normal=>kq P b Q s'|e=>Q e s') s:=fc rfl (gp _)
theorem Zv{id:Nat}{c:dn}:kq P (.block id c) Q s=kq P c (fun e s'=>match e with| .exit i=>if i=id then Q .normal s' else Q (.exit i) s'|e=>Q e s') s:=fc rfl (gp _)
theorem art{l:List RI}:kq P (.a6m l) Q s=∃I:(Nat→Bool)→PS→Prop,I (fun _=>false) s∧∀A s',I A s'→
   ((∀i,i<l.length→A i=true)→Q .normal s')∧∀i o,l[i]? =some o→A i=false→(∀j∈o.after,A j=true)→lk P [o] s' (I (l7 A i true)):=fc rfl (gp _)
theorem aru{id:Nat}:kq P (.exit id) Q s=Q (.exit id) s:=fc rfl (gp _)
theorem abr:kq P .ret Q s=Q .ret s:=fc rfl (gp _)
theorem ars{c:dn}(I:PS→Prop)(m:PS→Nat)(h0:I s)
  (h:∀s',I s'→kq P c (fun e s''=>match e with| .normal=>I s''∧m s''<m s'|e=>Q e s'') s'):kq P (.loop c) Q s:=
 ⟨I,m,h0,h⟩
theorem Tz{K:PS→Prop}:lk P [] s K=K s:=fc rfl (gp _)
theorem Bl{o:RI}{r:List RI}{K:PS→Prop}:lk P (o::r) s K=match wanted o s with
  |some true=>H6 P o s fun s'=>lk P r s' K
  |some false=>lk P r (s.put o.dst (.d (.Ar []))) K
  |none=>False:=fc rfl (gp _)
end
theorem dh(n:Int)(h0: -9223372036854775808≤n)(h1:n≤9223372036854775807):Q0 ab n=n:=by
 unfold Q0
 have e:(2:Int)^ab.bits=18446744073709551616:=by decide
 have e':(2:Int)^(ab.bits-1)=9223372036854775808:=by decide
 simp only[e,e',aKc,u9,decide_eq_true_eq];split<;>omega
end Go.PI
namespace Go.PI
open Go Go.RowKit
structure Ia(E E':Env)(s s':PS):Prop where
 av:∀id,s.av id≤s'.av id
 arr:∀id sz n',s'.av id=s.av id→s'.De id=some (sz,n')→
  ∃n,s.De id=some (sz,n)∧n≤n'∧(n=n'→E'.b id=E.b id∧E'.n id=E.n id)
 loc:∀id b',s'.av id=s.av id→s'.dc id=some b'→b'.isVar=true→(∃b,s.dc id=some b∧b.isVar=true)∧E'.b id=E.b id
 mp:∀id,s'.av id=s.av id→(s'.mp id).isSome→(s.mp id).isSome∧E'.m id=E.m id
theorem iw.Dw{G G':gq}{E E':Env}{s s':PS}(hG:G.le G')(h:Ia E E' s s'){c:C}{v:Value}(hv:yq G E s c v):yq G' E' s' c v:=by
 cases c with
 |d x=>exact i6.mono hG hv
 |ref id av len=>
  obtain⟨h1,h2⟩:=hv;refine⟨ij h1 (h.av id),fun he sz n' hb=>?_⟩
  have hv':s'.av id=s.av id:=by have:=h.av id;omega
  obtain⟨n,hb0,hl,hE⟩:=h.arr id sz n' hv' hb;obtain⟨k1,k2⟩:=h2 (by omega) sz n hb0;refine⟨by omega,fun hl'=>?_⟩
  have hll:n=n':=by omega
  obtain⟨e1,e2⟩:=hE hll;rw[e1,e2];exact k2 (by omega)
 |l9 id av=>
  obtain⟨h1,h2⟩:=hv;refine⟨ij h1 (h.av id),fun he hm=>?_⟩
  have hv':s'.av id=s.av id:=by have:=h.av id;omega
  obtain⟨k1,k2⟩:=h.mp id hv' hm;rw[k2];exact h2 (by omega) k1
 |ptr id av off=>
  obtain⟨h1,h2⟩:=hv;refine⟨ij h1 (h.av id),fun he ⟨b',hb,hva⟩=>?_⟩
  have hv':s'.av id=s.av id:=by have:=h.av id;omega
  obtain⟨k1,k2⟩:=h.loc id b' hv' hb hva;rw[k2];exact h2 (by omega) k1
theorem iw.move{G G':gq}{E E':Env}{s s':PS}(hG:G.le G')(h:Ia E E' s s'){x:V}{v:Value}(hv:iw G E s x v):iw G' E' s' x v:=by
 cases x with
 |d x=>exact i6.mono hG hv
 |ref id av len=>exact iw.Dw (c:= .ref id av len) hG h hv
 |l9 id av=>exact iw.Dw (c:= .l9 id av) hG h hv
 |ie id av off=>
  obtain⟨h1,h2⟩:=hv;refine⟨ij h1 (h.av id),fun he ⟨b',hb,hva⟩=>?_⟩
  have hv':s'.av id=s.av id:=by have:=h.av id;omega
  obtain⟨k1,k2⟩:=h.loc id b' hv' hb hva;rw[k2];exact h2 (by omega) k1
 |Hw id av ln i off=>
  obtain⟨h1,h2⟩:=hv;refine⟨ij h1 (h.av id),fun he sz n' hb=>?_⟩
  have hv':s'.av id=s.av id:=by have:=h.av id;omega
  obtain⟨n,hb0,hl,hE⟩:=h.arr id sz n' hv' hb;obtain⟨k1,k2⟩:=h2 (by omega) sz n hb0;refine⟨by omega,fun hl'=>?_⟩
  have hll:n=n':=by omega
  obtain⟨e1,e2⟩:=hE hll;rw[e1];exact k2 (by omega)
 |oq f ids=>
  obtain⟨h1,h2⟩:=hv;refine⟨fun p hp=>ij (h1 p hp) (h.av p.1),fun hall=>?_⟩
  have key:∀p∈ids,s.av p.1=p.2∧(∃b,s.dc p.1=some b∧b.isVar=true)∧E'.b p.1=E.b p.1:=by
   intro p hp;obtain⟨e,b',hb,hva⟩:=hall p hp;have:=h1 p hp;have:=h.av p.1
   have hv':s'.av p.1=s.av p.1:=by omega
   obtain⟨k1,k2⟩:=h.loc p.1 b' hv' hb hva;exact⟨by omega,k1,k2⟩
  have e:(ids.map fun p=>aKo (some ⟨E'.b p.1,0,none⟩))=ids.map fun p=>aKo (some ⟨E.b p.1,0,none⟩):=
   Dd fun p hp=>by rw[(key p hp).2.2]
  rw[e];exact h2 fun p hp=>⟨(key p hp).1,(key p hp).2.1⟩
 |agg cs=>
  rw[F4]at hv⊢;obtain⟨vs,e,hl,hc⟩:=hv;exact⟨vs,e,hl,fun i c u hi hu=>iw.Dw hG h (hc i c u hi hu)⟩
 |Ar cs=>
  rw[Kk]at hv⊢;obtain⟨vs,e,hl,hc⟩:=hv;exact⟨vs,e,hl,fun i c u hi hu=>iw.Dw hG h (hc i c u hi hu)⟩
 |Kr id av ln n=>
  obtain⟨h1,h2⟩:=hv;refine⟨ij h1 (h.av id),fun he ⟨b',hb,hva⟩=>?_⟩
  have hv':s'.av id=s.av id:=by have:=h.av id;omega
  obtain⟨k1,k2⟩:=h.loc id b' hv' hb hva;rw[k2];exact h2 (by omega) k1
 |Hx id av m a=>
  obtain⟨h0,h1,h2⟩:=hv;refine⟨h0,ij h1 (h.av id),fun he sz n' hb=>?_⟩
  have hv':s'.av id=s.av id:=by have:=h.av id;omega
  obtain⟨n,hb0,hl,hE⟩:=h.arr id sz n' hv' hb;obtain⟨k1,k2⟩:=h2 (by omega) sz n hb0;refine⟨by omega,fun hl'=>?_⟩
  have hll:n=n':=by omega
  obtain⟨e1,e2⟩:=hE hll;rw[e1,e2];exact k2 (by omega)
 |win id av m o l=>
  obtain⟨h0,h1,h2⟩:=hv;refine⟨h0,ij h1 (h.av id),fun he sz n' hb=>?_⟩
  have hv':s'.av id=s.av id:=by have:=h.av id;omega
  obtain⟨n,hb0,hl,hE⟩:=h.arr id sz n' hv' hb;obtain⟨k1,k2⟩:=h2 (by omega) sz n hb0;refine⟨by omega,fun hl'=>?_⟩
  have hll:n=n':=by omega
  obtain⟨e1,e2⟩:=hE hll;rw[e1,e2];exact k2 (by omega)
 |no=>trivial
theorem a7u{G:gq}{E:Env}{s:PS}{d:Option Nat}{y:V}{x:V}{v:Value}:iw G E (s.put d y) x v↔iw G E s x v:=by
 cases x<;>exact Iff.rfl
theorem a83{G:gq}{E:Env}{s:PS}{d:Option Nat}{y:V}{x:C}{v:Value}:yq G E (s.put d y) x v↔yq G E s x v:=a7u
theorem aqf{G:gq}{E:Env}{s:PS}{d:Option Nat}{y:V}{B0:Nat}{w:World}{id:Nat}{b:B}(h:Tb G E s B0 w id b):Tb G E (s.put d y) B0 w id b:=by
 obtain⟨h1,h2,cells,et,h3,h4,h5⟩:=h;refine⟨h1,h2,cells,et,h3,h4,?_⟩
 cases b with
 |arr sz dm=>exact h5
 |qi sz dm=>exact⟨h5.1,h5.2.1,fun i e j x u a b c=>a83.2 (h5.2.2 i e j x u a b c)⟩
 |loc cs=>exact⟨h5.1,fun j c u hc hu=>a83.2 (h5.2 j c u hc hu)⟩
 |Sd n=>exact h5
section
variable{B0 nt:Nat}{w0 w:World}{G0 G:gq}{s:PS}{E:Env}{a:Act}
theorem jf.a8m(h:jf B0 w0 nt G0 s G E a w){d:Option Nat}(hd:d.all (· <nt)=true){x:V}{v:Value}(hv:iw G E s x v):jf B0 w0 nt G0 (s.put d x) G E (a.put d v) w where
 size:=by cases d<;>simp[Act.put,h.size]
 defers:=by cases d<;>exact h.defers
 base:=h.base
 below:=h.below
 gok:=h.gok
 gle:=h.gle
 J4:=h.J4
 tmp t:=by
  rw[a7u]
  cases d with
  |none=>exact h.tmp t
  |some d=>
   simp only[Option.all,decide_eq_true_eq]at hd;have hs:=h.size;simp only[PS.put,Act.put,l7];by_cases e:t=d
   ·subst e;rw[bd rfl];rw[jd,Ts];rw[bd (by omega)];exact hv
   rw[al e,jd,Wq (fun h=>e h.symm),←jd];exact h.tmp t
 dc id b hb:=aqf (h.dc id b hb)
 inj:=h.inj
 mp id es he:=by
  obtain⟨h1,h2,ents,clock,h3,h4,h5,h6⟩:=h.mp id es he;exact⟨h1,h2,ents,clock,h3,h4,fun i e x hx hy=>⟨(h5 i e x hx hy).1,a83.2 (h5 i e x hx hy).2⟩,h6⟩
 Rg:=h.Rg
 ctx p:=by rw[a7u];exact h.ctx p
 tb:=h.tb
theorem iw.aGj{G:gq}{E:Env}{s:PS}{v:Value}:iw G E s .no v:=trivial
theorem jf.ev(h:jf B0 w0 nt G0 s G E a w){x:Operand}{o:nk}(hx:x8 x=some o):iw G E s (o.ev s) (a.eval x):=by
 cases x with
 |tmp t=>
  simp only[x8,ak]at hx;subst hx;exact h.tmp t
 |const v=>
  simp only[x8]at hx
  have cell:∀(v:Value) (d:D),a4b v=some d→i6 G d v:=by
   intro v d hd;unfold a4b at hd
   split at hd<;>first|(injection hd with hd;subst hd;constructor)|(cases hd)|skip
   split at hd
   ·rename_i f x y hxy
    injection hd with hd
    subst hd;have e1:x= #[]:=Xv hxy.1;have e2:y= #[]:=Xv hxy.2;subst e1 e2;exact .oq rfl (by simp)
   cases hd
  have cells:∀(l:List Value) (ds:List D),ah0 l=some ds→l.length=ds.length∧∀(i:Nat) (x:D) (v:Value),ds[i]? =some x→l[i]? =some v→i6 G x v:=by
   intro l
   induction l with
   |nil=>intro ds hd;simp only[ah0,ak]at hd;subst hd;simp
   |cons v l ih=>
    intro ds hd;simp only[ah0]at hd;split at hd
    ·rename_i x l' h1 h2
     injection hd with hd
     subst hd;obtain⟨k1,k2⟩:=ih l' h2;refine⟨by simp[k1],fun i x' v' hx' hv'=>?_⟩
     cases i with
     |zero=>simp at hx' hv';subst hx' hv';exact cell _ _ h1
     |succ i=>simp at hx' hv';exact k2 i x' v' hx' hv'
    cases hd
  cases hv:Xm v with
  |none=>rw[hv]at hx;cases hx
  |some d=>
   rw[hv]at hx;simp only[aLg,ak]at hx;subst hx;show i6 G d v
   cases v with
   |agg cs=>
    simp only[Xm]at hv
    cases hc:ah0 cs.toList with
    |none=>rw[hc]at hv;cases hv
    |some ds=>
     rw[hc]at hv;simp only[aLg,ak]at hv;subst hv;obtain⟨k1,k2⟩:=cells _ _ hc;exact .agg (by simpa using k1) fun i x v hi hv=>k2 i x v hi (by simpa using hv)
   |_=>exact cell _ _ hv
 |func f=>
  simp only[x8,ak]at hx;subst hx;exact i6.oq rfl (by simp)
 |global g=>cases hx
theorem jf.drew(h:jf B0 w0 nt G0 s G E a w):jf B0 w0 nt G0 s G E a w.drew where
 size:=h.size
 defers:=h.defers
 base:=h.base
 below:=h.below.drew
 gok:=⟨h.gok.cv,h.gok.mv⟩
 gle:=h.gle
 J4:=h.J4
 tmp:=h.tmp
 dc:=h.dc
 inj:=h.inj
 mp:=h.mp
 Rg:=h.Rg
 ctx:=h.ctx
 tb:=h.tb
end
section
variable{B0 nt:Nat}{w0 w w':World}{G0 G G':gq}{s s':PS}{E E':Env}{a:Act}
theorem Tb.lt{id:Nat}{b:B}(h:Tb G E s B0 w id b):E.b id<w.heap.size:=by
 obtain⟨_,_,cells,et,h3,_⟩:=h;exact(iu.1 h3).1
theorem Tb.move{id:Nat}{b:B}(h:Tb G E s B0 w id b)(hG:G.le G')(hm:Ia E E' s s')(hw:w'.heap[E.b id]? =w.heap[E.b id]?)
  (hc:∀o,G'.cv (E.b id) o=none)(e1:E'.b id=E.b id)(e2:E'.n id=E.n id):Tb G' E' s' B0 w' id b:=by
 obtain⟨h1,h2,cells,et,h3,h4,h5⟩:=h;unfold Tb;rw[e1,e2];refine⟨h1,hc,cells,et,hw.trans h3,h4,?_⟩
 cases b with
 |arr sz dm=>exact⟨h5.1,h5.2.1,fun i e j x u a b c=>(h5.2.2 i e j x u a b c).mono hG⟩
 |qi sz dm=>exact⟨h5.1,h5.2.1,fun i e j x u a b c=>iw.Dw hG hm (h5.2.2 i e j x u a b c)⟩
 |loc cs=>exact⟨h5.1,fun j c u hc hu=>iw.Dw hG hm (h5.2 j c u hc hu)⟩
 |Sd n=>exact h5
theorem Bg(w:World)(o:Obj)(k:Nat)(h:k<w.heap.size):(w.alloc o).heap[k]? =w.heap[k]? :=Below.heap_alloc w o k h
theorem Ly(w:World)(o:Obj):(w.alloc o).heap[w.heap.size]? =some o:=by
 show(w.heap.push o)[w.heap.size]? =_;simp
theorem GOk.alloc(h:GOk G w)(o:Obj):GOk G (w.alloc o):=h.below (Below.alloc (aLl _ _) (ay _) o)
theorem GOk.alu(h:GOk G w){b:Nat}(hb:w.heap.size≤b)(o:Nat):G.cv b o=none:=by
 cases hc:G.cv b o with
 |none=>rfl
 |some v=>have:=h.lt hc;omega
theorem GOk.aBj(h:GOk G w){b:Nat}(hb:w.heap.size≤b):G.mv b=none:=by
 cases hc:G.mv b with
 |none=>rfl
 |some v=>have:=h.ltm hc;omega
def Holds(G:gq)(E:Env)(s:PS)(cells:Array Value):B→Prop
 | .arr sz dm=>dm.length*sz≤cells.size∧(∀(i:Nat) (e:List D),dm[i]? =some e→e.length=sz)∧
   ∀(i:Nat) (e:List D) (j:Nat) (x:D) (u:Value),dm[i]? =some e→e[j]? =some x→cells[i*sz+j]? =some u→i6 G x u
 | .qi sz dm=>dm.length*sz≤cells.size∧(∀(i:Nat) (e:List C),dm[i]? =some e→e.length=sz)∧
   ∀(i:Nat) (e:List C) (j:Nat) (x:C) (u:Value),dm[i]? =some e→e[j]? =some x→cells[i*sz+j]? =some u→yq G E s x u
 | .loc cs=>cs.length=cells.size∧∀(j:Nat) (c:C) (u:Value),cs[j]? =some c→cells[j]? =some u→yq G E s c u
 | .Sd n=>n=cells.size
theorem Holds.move{cells:Array Value}{b:B}(h:Holds G E s cells b)(hG:G.le G')(hm:Ia E E' s s'):Holds G' E' s' cells b:=by
 cases b with
 |arr sz dm=>exact⟨h.1,h.2.1,fun i e j x u a b c=>(h.2.2 i e j x u a b c).mono hG⟩
 |qi sz dm=>exact⟨h.1,h.2.1,fun i e j x u a b c=>iw.Dw hG hm (h.2.2 i e j x u a b c)⟩
 |loc cs=>exact⟨h.1,fun j c u hc hu=>iw.Dw hG hm (h.2 j c u hc hu)⟩
 |Sd n=>exact h
theorem jf.new(h:jf B0 w0 nt G0 s G E a w)(id:Nat)(b:B)(cells:Array Value)(et:TypeId)(hb:Holds G E s cells b):
  jf B0 w0 nt G0 {s with dc:=l7 s.dc id (some b),av:=l7 s.av id (s.av id+1)} G
   {E with b:=l7 E.b id w.heap.size,n:=l7 E.n id cells.size} a (w.alloc (.cells cells et)):=by
 have hm:Ia E {E with b:=l7 E.b id w.heap.size,n:=l7 E.n id cells.size} s {s with dc:=l7 s.dc id (some b),av:=l7 s.av id (s.av id+1)}:=by
  have hne:∀i,l7 s.av id (s.av id+1) i=s.av i→i≠id:=by
   intro i hi e;subst e;rw[cu]at hi;omega
  refine⟨fun i=>?_,fun i sz Tp hv rp=>?_,fun i b1 hv rp hva=>?_,fun i hv hp=>?_⟩
  ·show _≤l7 s.av id (s.av id+1) i;by_cases e:i=id
   ·subst e;rw[cu];omega
   rw[gj _ _ _ _ e];exact ay _
  ·have e:=hne i hv;simp only[PS.De,gj _ _ _ _ e]at rp;exact⟨Tp,rp,ay _,fun _=>⟨gj _ _ _ _ e,gj _ _ _ _ e⟩⟩
  ·have e:=hne i hv;simp only[gj _ _ _ _ e]at rp;exact⟨⟨b1,rp,hva⟩,gj _ _ _ _ e⟩
  exact⟨hp,rfl⟩
 have hbw:w.heap.size=w.heap.size:=rfl
 have hB0:B0≤w.heap.size:=by rw[h.base];exact h.below.size
 refine⟨h.size,h.defers,h.base,h.below.alloc (by rw[h.base];exact h.below.size) _,h.gok.alloc _,h.gle,h.J4,fun t=>iw.move (gq.la _) hm (h.tmp t),fun i b' rp=>?_,fun i j bi bj hi hj J3=>?_,fun i es hi=>?_,h.Rg,fun p=>iw.move (gq.la _) hm (h.ctx p),h.tb⟩
 ·by_cases e:i=id
  ·subst e;simp only[cu,ak]at rp;subst rp;unfold Tb;simp only[cu];refine⟨hB0,fun o=>h.gok.alu (ay _) o,cells,et,Ly _ _,ay _,?_⟩;have:=hb.move (gq.la G) hm;cases b<;>exact this
  simp only[gj _ _ _ _ e]at rp;have k:=h.dc i _ rp;exact k.move (gq.la _) hm (Bg _ _ _ k.lt) k.2.1 (gj _ _ _ _ e) (gj _ _ _ _ e)
 ·have lt:∀i b,s.dc i=some b→E.b i≠w.heap.size:=fun i b hi=>by have:=(h.dc i b hi).lt;omega
  by_cases ei:i=id
  ·subst ei;have ej:j≠i:=fun e=>J3 e.symm;simp only[gj _ _ _ _ ej]at hj;simp only[cu,gj _ _ _ _ ej];exact fun e=>lt j bj hj e.symm
  simp only[gj _ _ _ _ ei]at hi⊢;by_cases ej:j=id
  ·subst ej;simp only[cu];exact lt i bi hi
  simp only[gj _ _ _ _ ej]at hj⊢;exact h.inj i j bi bj hi hj J3
 obtain⟨h1,h2,ents,clock,h3,h4,h5,h6⟩:=h.mp i es hi;exact⟨h1,h2,ents,clock,(Bg _ _ _ (iu.1 h3).1).trans h3,h4,fun i e x hx hy=>⟨(h5 i e x hx hy).1,iw.Dw (gq.la _) hm (h5 i e x hx hy).2⟩,h6⟩
structure Ao(w w':World)(g:Nat)(o:Obj):Prop where
 os:w'.os=w.os
 tape:w'.tape=w.tape
 output:w'.output=w.output
 drawn:w'.drawn=w.drawn
 size:w'.heap.size=w.heap.size
 other:∀k,k≠g→w'.heap[k]? =w.heap[k]?
 at_:w'.heap[g]? =some o
theorem Ao.below{g:Nat}{o:Obj}(h:Ao w w' g o)(hg:B0≤g){Q:Prop}:Bel Q B0 w w':=
 ⟨⟨h.os,h.tape,h.output,by rw[h.size];exact ay _,fun k hk=>h.other k (by omega)⟩,fun _=>by rw[h.drawn];exact ay _⟩
theorem akq{k:Nat}(h:w'.heap[k]? =w.heap[k]?)(o:Nat):w'.cell? ⟨k,o,none⟩=w.cell? ⟨k,o,none⟩:=aJf (w:=w) h
theorem GOk.aqm{g:Nat}{o:Obj}(h:GOk G w)(ht:Ao w w' g o)(hc:∀o,G.cv g o=none)(hm:G.mv g=none):GOk G w' where
 cv b o v hv:=by
  have:b≠g:=fun e=>by subst e;rw[hc]at hv;cases hv
  exact(akq (ht.other b this) o).trans (h.cv b o v hv)
 mv b es hv:=by
  have:b≠g:=fun e=>by subst e;rw[hm]at hv;cases hv
  obtain⟨ents,clock,h1,h2⟩:=h.mv b es hv;exact⟨ents,clock,(ht.other b this).trans h1,h2⟩
def Alike(b b':B):Prop:=b.isVar=b'.isVar∧∀sz n',b'.De=some (sz,n')→∃n,b.De=some (sz,n)∧n≤n'
theorem xj{s:PS}{id:Nat}{b:B}(h:s.dc id=some b):s.De id=b.De:=by unfold PS.De;rw[h];rfl
theorem Alike.arr{sz:Nat}{dm Tp:List (List D)}(h:dm.length≤Tp.length):Alike (.arr sz dm) (.arr sz Tp):=⟨rfl,fun sz' n' h'=>by simp only[B.De,ak,cd]at h';obtain⟨rfl,rfl⟩:=h';exact⟨_,rfl,h⟩⟩
theorem Alike.loc{cs cs':List C}:Alike (.loc cs) (.loc cs'):=⟨rfl,fun sz' n' h'=>by simp[B.De]at h'⟩
theorem jf.axn(h:jf B0 w0 nt G0 s G E a w){id:Nat}{b:B}(hb:s.dc id=some b):G.mv (E.b id)=none:=by
 cases hm:G.mv (E.b id)with
 |none=>rfl
 |some es=>
  obtain⟨ents,clock,h1,_⟩:=h.gok.mv _ _ hm;obtain⟨_,_,cells,et,h3,_⟩:=h.dc id b hb;rw[h1]at h3;cases h3
theorem jf.set(h:jf B0 w0 nt G0 s G E a w){id:Nat}{b b':B}(hb:s.dc id=some b)(hal:Alike b b'){cells:Array Value}{et:TypeId}
  (ht:Ao w w' (E.b id) (.cells cells et (0,0)))(hn:E.n id≤cells.size)(hh:Holds G E s cells b'):
  jf B0 w0 nt G0 {s with dc:=l7 s.dc id (some b')} G E a w':=by
 have hm:Ia E E s {s with dc:=l7 s.dc id (some b')}:=by
  refine⟨fun i=>ay _,fun i sz Tp _ rp=>?_,fun i b1 _ rp hva=>?_,fun i hv hp=>⟨hp,rfl⟩⟩
  ·by_cases e:i=id
   ·subst e;rw[xj (b:=b') (cu _ _ _)]at rp;obtain⟨n,hn,hle⟩:=hal.2 _ _ rp;exact⟨n,(xj hb).trans hn,hle,fun _=>⟨rfl,rfl⟩⟩
   simp only[PS.De,gj _ _ _ _ e]at rp;exact⟨Tp,rp,ay _,fun _=>⟨rfl,rfl⟩⟩
  by_cases e:i=id
  ·subst e;simp only[cu,ak]at rp;subst rp;exact⟨⟨_,hb,hal.1.trans hva⟩,rfl⟩
  simp only[gj _ _ _ _ e]at rp;exact⟨⟨b1,rp,hva⟩,rfl⟩
 have k0:=h.dc id b hb;have hg:=k0.1;refine⟨h.size,h.defers,h.base,h.below.trans (ht.below hg),h.gok.aqm ht k0.2.1 (h.axn hb),h.gle,h.J4,fun t=>iw.move (gq.la _) hm (h.tmp t),fun i b1 hb1=>?_,fun i j bi bj hi hj J3=>?_,fun i es hi=>?_,h.Rg,fun p=>iw.move (gq.la _) hm (h.ctx p),h.tb⟩
 ·by_cases e:i=id
  ·subst e;simp only[cu,ak]at hb1;subst hb1;refine⟨hg,k0.2.1,cells,et,ht.at_,hn,?_⟩;have:=hh.move (gq.la G) hm;cases b'<;>exact this
  simp only[gj _ _ _ _ e]at hb1;have k:=h.dc i b1 hb1;exact k.move (gq.la _) hm (ht.other _ (h.inj i id b1 b hb1 hb e)) k.2.1 rfl rfl
 ·have un:∀i bi,l7 s.dc id (some b') i=some bi→∃b2,s.dc i=some b2:=by
   intro i bi hi;by_cases e:i=id
   ·subst e;exact⟨b,hb⟩
   rw[gj _ _ _ _ e]at hi;exact⟨bi,hi⟩
  obtain⟨b2,h2⟩:=un i bi hi;obtain⟨b3,h3⟩:=un j bj hj;exact h.inj i j b2 b3 h2 h3 J3
 obtain⟨h1,h2,ents,clock,h3,h4,h5,h6⟩:=h.mp i es hi;refine⟨h1,h2,ents,clock,(ht.other _ fun e=>?_).trans h3,h4,fun i e x hx hy=>⟨(h5 i e x hx hy).1,iw.Dw (gq.la _) hm (h5 i e x hx hy).2⟩,h6⟩;obtain⟨_,_,aIi,et0,h6,_⟩:=k0;rw[e,h6]at h3;cases h3
theorem jf.aB1(h:jf B0 w0 nt G0 s G E a w){id sz n n':Nat}{b b':B}(hb:s.dc id=some b)(hd:b.De=some (sz,n))(hd':b'.De=some (sz,n'))(hl:n<n')
  (cells:Array Value)(et:TypeId)(hh:Holds G E s cells b'):
  jf B0 w0 nt G0 {s with dc:=l7 s.dc id (some b')} G {E with b:=l7 E.b id w.heap.size,n:=l7 E.n id cells.size} a (w.alloc (.cells cells et)):=by
 have hm:Ia E {E with b:=l7 E.b id w.heap.size,n:=l7 E.n id cells.size} s {s with dc:=l7 s.dc id (some b')}:=by
  refine⟨fun i=>ay _,fun i sz1 aHn _ rp=>?_,fun i b1 _ rp hva=>?_,fun i hv hp=>⟨hp,rfl⟩⟩
  ·by_cases e:i=id
   ·subst e;rw[xj (b:=b') (cu _ _ _),hd']at rp;simp only[ak,cd]at rp;obtain⟨rfl,rfl⟩:=rp;exact⟨n,(xj hb).trans hd,aKq hl,fun e=>by omega⟩
   simp only[PS.De,gj _ _ _ _ e]at rp;exact⟨aHn,rp,ay _,fun _=>⟨gj _ _ _ _ e,gj _ _ _ _ e⟩⟩
  by_cases e:i=id
  ·subst e;simp only[cu,ak]at rp;subst rp
   cases b'<;>first|(cases hva;done)|(simp[B.De]at hd';done)
  simp only[gj _ _ _ _ e]at rp;exact⟨⟨b1,rp,hva⟩,gj _ _ _ _ e⟩
 have hB0:B0≤w.heap.size:=by rw[h.base];exact h.below.size
 refine⟨h.size,h.defers,h.base,h.below.alloc hB0 _,h.gok.alloc _,h.gle,h.J4,fun t=>iw.move (gq.la _) hm (h.tmp t),fun i b1 rp=>?_,fun i j bi bj hi hj J3=>?_,fun i es hi=>?_,h.Rg,fun p=>iw.move (gq.la _) hm (h.ctx p),h.tb⟩
 ·by_cases e:i=id
  ·subst e;simp only[cu,ak]at rp;subst rp;unfold Tb;simp only[cu];refine⟨hB0,fun o=>h.gok.alu (ay _) o,cells,et,Ly _ _,ay _,?_⟩;have:=hh.move (gq.la G) hm;cases b'<;>exact this
  simp only[gj _ _ _ _ e]at rp;have k:=h.dc i _ rp;exact k.move (gq.la _) hm (Bg _ _ _ k.lt) k.2.1 (gj _ _ _ _ e) (gj _ _ _ _ e)
 ·have lt:∀i b,s.dc i=some b→E.b i≠w.heap.size:=fun i b hi=>by have:=(h.dc i b hi).lt;omega
  by_cases ei:i=id
  ·subst ei;have ej:j≠i:=fun e=>J3 e.symm;simp only[gj _ _ _ _ ej]at hj;simp only[cu,gj _ _ _ _ ej];exact fun e=>lt j bj hj e.symm
  simp only[gj _ _ _ _ ei]at hi⊢;by_cases ej:j=id
  ·subst ej;simp only[cu];exact lt i bi hi
  simp only[gj _ _ _ _ ej]at hj⊢;exact h.inj i j bi bj hi hj J3
 obtain⟨h1,h2,ents,clock,h3,h4,h5,h6⟩:=h.mp i es hi;exact⟨h1,h2,ents,clock,(Bg _ _ _ (iu.1 h3).1).trans h3,h4,fun i e x hx hy=>⟨(h5 i e x hx hy).1,iw.Dw (gq.la _) hm (h5 i e x hx hy).2⟩,h6⟩
end
section
variable{B0 nt:Nat}{w0 w w':World}{G0 G G':gq}{s s':PS}{E E':Env}{a:Act}
def Zl(G' G:gq)(E:Env)(s:PS)(id:Nat):Prop:=
 (∀sz dm av v,s.dc id=some (.arr sz dm)→s.av id=av→iw G E s (.ref id av dm.length) v→i6 G' (.gz sz dm) v)∧
 (∀es ds av v,s.mp id=some es→Zb es=some ds→s.av id=av→iw G E s (.l9 id av) v→i6 G' (.map ds) v)
def PS.Ip(i:Nat)(s:PS):PS:={s with dc:=l7 s.dc i none,mp:=l7 s.mp i none}
theorem PS.Mg(i:Nat)(r:List Nat)(s:PS):s.uu (i::r)=(s.Ip i).uu r:=rfl
theorem Ia.Ip(id:Nat):Ia E E s (s.Ip id):=by
 refine⟨fun i=>ay _,fun i sz Tp _ rp=>?_,fun i b1 _ rp hva=>?_,fun i _ hp=>?_⟩
 ·by_cases e:i=id
  ·subst e;simp[PS.Ip,PS.De,cu]at rp
  simp only[PS.Ip,PS.De,gj _ _ _ _ e]at rp;exact⟨Tp,rp,ay _,fun _=>⟨rfl,rfl⟩⟩
 ·by_cases e:i=id
  ·subst e;simp[PS.Ip,cu]at rp
  simp only[PS.Ip,gj _ _ _ _ e]at rp;exact⟨⟨b1,rp,hva⟩,rfl⟩
 by_cases e:i=id
 ·subst e;simp[PS.Ip,cu]at hp
 simp only[PS.Ip,gj _ _ _ _ e]at hp;exact⟨hp,rfl⟩
theorem apw:∀{es:List (D×C)} {ds:List (D×D)},Zb es=some ds→es=ds.map fun e=>(e.1,.d e.2):=by
 intro es
 induction es with
 |nil=>intro ds h;simp only[Zb,ak]at h;subst h;rfl
 |cons e r ih=>
  intro ds h;obtain⟨k,c⟩:=e
  cases c with
  |d x=>
   simp only[Zb]at h;split at h
   ·rename_i l hl
    injection h with h
    subst h;rw[ih hl];rfl
   cases h
  |ref _ _ _=>cases h
  |l9 _ _=>cases h
  |ptr _ _ _=>cases h
theorem jf.Ip(h:jf B0 w0 nt G0 s G E a w)(id:Nat):∃G',G.le G'∧jf B0 w0 nt G0 (s.Ip id) G' E a w∧Zl G' G E s id:=by
 classical
 let G':gq:=
  {cv:=fun b o=>match s.dc id with
    |some (.arr sz dm)=>if b=E.b id∧o<dm.length*sz then w.cell? ⟨b,o,none⟩else G.cv b o
    |_=>G.cv b o
   mv:=fun b=>match s.mp id with
    |some _=>if b=E.m id then(match w.heap[b]? with|some (.map ents _)=>some (ents.toList.map fun(e:MapEntry)=>(e.key,e.val))|_=>none)else G.mv b
    |none=>G.mv b}
 have hcv:∀b o,b≠E.b id→G'.cv b o=G.cv b o:=by
  intro b o hb
  show(match s.dc id with|some (.arr sz dm)=>if b=E.b id∧o<dm.length*sz then w.cell? ⟨b,o,none⟩else G.cv b o|_=>G.cv b o)=_
  split
  ·rw[al (fun h=>hb h.1)]
  rfl
 have hle:G.le G':=by
  refine⟨fun b o v hv=>?_,fun b es hv=>?_⟩
  ·show(match s.dc id with|some (.arr sz dm)=>if b=E.b id∧o<dm.length*sz then w.cell? ⟨b,o,none⟩else G.cv b o|_=>G.cv b o)=_
   split
   ·split
    ·exact h.gok.cv b o v hv
    exact hv
   exact hv
  show(match s.mp id with|some _=>if b=E.m id then(match w.heap[b]? with|some (.map ents _)=>some (ents.toList.map fun(e:MapEntry)=>(e.key,e.val))|_=>none)else G.mv b|none=>G.mv b)=_
  split
  ·split
   ·obtain⟨ents,clock,h1,h2⟩:=h.gok.mv b es hv;rw[h1];simp[h2]
   exact hv
  exact hv
 have hok:GOk G' w:=by
  refine⟨fun b o v hv=>?_,fun b es hv=>?_⟩
  ·change(match s.dc id with|some (.arr sz dm)=>if b=E.b id∧o<dm.length*sz then w.cell? ⟨b,o,none⟩else G.cv b o|_=>G.cv b o)=_ at hv
   split at hv
   ·split at hv
    ·exact hv
    exact h.gok.cv b o v hv
   exact h.gok.cv b o v hv
  change(match s.mp id with|some _=>if b=E.m id then(match w.heap[b]? with|some (.map ents _)=>some (ents.toList.map fun(e:MapEntry)=>(e.key,e.val))|_=>none)else G.mv b|none=>G.mv b)=_ at hv
  split at hv
  ·split at hv
   ·split at hv
    ·rename_i ents clock hh
     injection hv with hv
     exact⟨ents,clock,hh,hv⟩
    cases hv
   exact h.gok.mv b es hv
  exact h.gok.mv b es hv
 have hm:=Ia.Ip (E:=E) (s:=s) id
 have hblk:∀i b,(s.Ip id).dc i=some b→i≠id∧s.dc i=some b:=by
  intro i b hb;by_cases e:i=id
  ·subst e;simp[PS.Ip,cu]at hb
  simp only[PS.Ip,gj _ _ _ _ e]at hb;exact⟨e,hb⟩
 have hmp:∀i es,(s.Ip id).mp i=some es→i≠id∧s.mp i=some es:=by
  intro i b hb;by_cases e:i=id
  ·subst e;simp[PS.Ip,cu]at hb
  simp only[PS.Ip,gj _ _ _ _ e]at hb;exact⟨e,hb⟩
 refine⟨G',hle,⟨h.size,h.defers,h.base,h.below,hok,gq.a0q h.gle hle,⟨fun b o hb=>?_,fun b hb=>?_⟩,fun t=>iw.move hle hm (h.tmp t),fun i b hb=>?_,fun i j bi bj hi hj J3=>?_,fun i es hi=>?_,fun i j bi bj hi hj J3=>?_,fun p=>iw.move hle hm (h.ctx p),h.tb⟩,?_⟩
 ·rw[←h.J4.1 b o hb]
  show(match s.dc id with|some (.arr sz dm)=>if b=E.b id∧o<dm.length*sz then w.cell? ⟨b,o,none⟩else G.cv b o|_=>G.cv b o)=_
  split
  ·rename_i sz dm hs;have:=(h.dc id _ hs).1;rw[al (fun h=>by omega)]
  rfl
 ·rw[←h.J4.2 b hb]
  show(match s.mp id with|some _=>if b=E.m id then(match w.heap[b]? with|some (.map ents _)=>some (ents.toList.map fun(e:MapEntry)=>(e.key,e.val))|_=>none)else G.mv b|none=>G.mv b)=_
  split
  ·rename_i es hs;have:=(h.mp id es hs).1;rw[al (by omega)]
  rfl
 ·obtain⟨e,hb⟩:=hblk i b hb;have k:=h.dc i b hb;refine k.move hle hm rfl (fun o=>?_) rfl rfl
  show(match s.dc id with|some (.arr sz dm)=>if E.b i=E.b id∧o<dm.length*sz then w.cell? ⟨E.b i,o,none⟩else G.cv (E.b i) o|_=>G.cv (E.b i) o)=_
  split
  ·rename_i sz dm hs;rw[al (fun h'=>h.inj i id b _ hb hs e h'.1)];exact k.2.1 o
  exact k.2.1 o
 ·exact h.inj i j bi bj (hblk i bi hi).2 (hblk j bj hj).2 J3
 ·obtain⟨e,hi⟩:=hmp i es hi;obtain⟨h1,h2,ents,clock,h3,h4,h5,h6⟩:=h.mp i es hi;refine⟨h1,?_,ents,clock,h3,h4,fun i e x hx hy=>⟨(h5 i e x hx hy).1.mono hle,iw.Dw hle hm (h5 i e x hx hy).2⟩,h6⟩
  show(match s.mp id with|some _=>if E.m i=E.m id then _ else G.mv (E.m i)|none=>G.mv (E.m i))=_
  split
  ·rename_i es' hs;rw[al (h.Rg i id es es' hi hs e)];exact h2
  exact h2
 ·exact h.Rg i j bi bj (hmp i bi hi).2 (hmp j bj hj).2 J3
 refine⟨fun sz dm av v hs hv hr=>?_,fun es ds av v hs hds hv hr=>?_⟩
 ·obtain⟨_,h2⟩:=hr;obtain⟨_,k2⟩:=h2 hv sz dm.length (xj hs);obtain⟨cap,e1,e2,rfl⟩:=k2 rfl;obtain⟨_,_,cells,et,h3,h4,h5,h6,h7⟩:=h.dc id _ hs
  have Ku:∀o,o<dm.length*sz→G'.cv (E.b id) o=w.cell? ⟨E.b id,o,none⟩:=by
   intro o ho
   show(match s.dc id with|some (.arr sz dm)=>if E.b id=E.b id∧o<dm.length*sz then w.cell? ⟨E.b id,o,none⟩else G.cv (E.b id) o|_=>G.cv (E.b id) o)=_
   rw[hs];simp only[];rw[bd ⟨trivial,ho⟩]
  have hw:∀o,w.cell? ⟨E.b id,o,none⟩=cells[o]? :=by
   intro o;simp[aKw,h3]
  have hlt:∀i j,i<dm.length→j<sz→i*sz+j<dm.length*sz:=by
   intro i j hi hj;have:(i+1)*sz≤dm.length*sz:=fh _ hi;rw[jn]at this;omega
  refine i6.gz e2 h6 (fun i j hi hj=>?_) (fun i e j x v he hx hv=>?_)
  ·have:=hlt i j hi hj;rw[gd,Ku _ this,hw,bh (by omega)];rfl
  have hil:i<dm.length:=(aw.1 he).1
  have hjl:j<sz:=by have:=h6 i e he;have:=(aw.1 hx).1;omega
  rw[gd,Ku _ (hlt i j hil hjl),hw]at hv;exact(h7 i e j x v he hx hv).mono hle
 obtain⟨_,h2⟩:=hr;have e:=h2 hv (by rw[hs];rfl);subst e;have hm:=apw hds;subst hm;obtain⟨h1,_,ents,clock,h3,h4,h5,_⟩:=h.mp id _ hs
 have hmv:G'.mv (E.m id)=some (ents.toList.map fun(e:MapEntry)=>(e.key,e.val)):=by
  show(match s.mp id with|some _=>if E.m id=E.m id then(match w.heap[E.m id]? with|some (.map ents _)=>some (ents.toList.map fun(e:MapEntry)=>(e.key,e.val))|_=>none)else G.mv (E.m id)|none=>G.mv (E.m id))=_
  rw[hs,h3];simp
 refine i6.map hmv (by simpa using h4) (fun i e f he hf=>?_) (fun i e f he hf=>?_)
 all_goals
  simp only[cy,aq]at hf;obtain⟨x,hx,rfl⟩:=hf;have:=h5 i (e.1,.d e.2) x (by simp[he]) (by simpa using hx)
 ·exact this.1.mono hle
 exact i6.mono hle this.2
theorem jf.uu:∀(ids:List Nat) {s:PS} {G:gq},jf B0 w0 nt G0 s G E a w→∃G',G.le G'∧jf B0 w0 nt G0 (s.uu ids) G' E a w∧∀id∈ids,Zl G' G E s id:=by
 intro ids
 induction ids with
 |nil=>exact fun h=>⟨_,gq.la _,h,fun id hid=>by cases hid⟩
 |cons i r ih=>
  intro s G h;obtain⟨G1,l1,h1,g1⟩:=h.Ip i;obtain⟨G2,l2,h2,g2⟩:=ih h1;refine⟨G2,gq.a0q l1 l2,h2,fun id hid=>?_⟩
  have first:Zl G2 G E s i:=⟨fun sz dm av v a b c=>(g1.1 sz dm av v a b c).mono l2,fun es ds av v a b c d=>(g1.2 es ds av v a b c d).mono l2⟩
  by_cases e:id=i
  ·subst e;exact first
  have aEi:id∈r:=by
   cases hid with
   |head=>exact absurd rfl e
   |tail _ h=>exact h
  have g:=g2 id aEi;refine⟨fun sz dm av v hb hv hr=>?_,fun es ds av v hb hd hv hr=>?_⟩
  ·exact g.1 sz dm av v (by simp only[PS.Ip,gj _ _ _ _ e];exact hb) hv (iw.move l1 (Ia.Ip i) hr)
  exact g.2 es ds av v (by simp only[PS.Ip,gj _ _ _ _ e];exact hb) hd hv (iw.move l1 (Ia.Ip i) hr)
theorem yj{id av sz:Nat}{dm:List (List D)}(h:s.dm id av=some (sz,dm)):s.av id=av∧s.dc id=some (.arr sz dm):=by
 unfold PS.dm at h;split at h
 ·rename_i hv;split at h
  ·rename_i sz' Tp hb
   injection h with h
   injection h with h1 h2
   subst h1 h2;exact⟨hv,hb⟩
  cases h
 cases h
theorem Kd{id av sz:Nat}{dm:List (List C)}(h:s.elc id av=some (sz,dm)):s.av id=av∧∃b,s.dc id=some b∧b.De=some (sz,dm.length)∧
  ((∃ds,b= .arr sz ds∧dm=ds.map fun e=>e.map .d)∨b= .qi sz dm):=by
 unfold PS.elc at h;split at h
 ·rename_i hv;split at h
  ·rename_i sz' ds hb;simp only[ak,cd]at h;obtain⟨rfl,rfl⟩:=h;exact⟨hv,_,hb,by simp[B.De],.inl ⟨ds,rfl,rfl⟩⟩
  ·rename_i sz' Tp hb;simp only[ak,cd]at h;obtain⟨rfl,rfl⟩:=h;exact⟨hv,_,hb,rfl,.inr rfl⟩
  cases h
 cases h
theorem Gh{id av sz n:Nat}(h:s.Jb id av=some (sz,n)):s.av id=av∧s.De id=some (sz,n):=by
 unfold PS.Jb at h;split at h
 ·rename_i hv;split at h
  ·rename_i b hb;exact⟨hv,(xj hb).trans h⟩
  cases h
 cases h
theorem ak7{id av sz:Nat}{dm:List (List D)}(h:s.dm id av=some (sz,dm)):s.Jb id av=some (sz,dm.length):=by
 obtain⟨h1,h2⟩:=yj h;unfold PS.Jb;rw[bd h1,h2];rfl
theorem a6y{id av sz:Nat}{dm:List (List D)}(h:s.dm id av=some (sz,dm)):s.elc id av=some (sz,dm.map fun e=>e.map .d):=by
 obtain⟨h1,h2⟩:=yj h;unfold PS.elc;rw[bd h1,h2]
theorem ayw{id sz n:Nat}(h:s.De id=some (sz,n)):∃b,s.dc id=some b∧b.De=some (sz,n):=by
 unfold PS.De at h
 cases hb:s.dc id with
 |none=>rw[hb]at h;cases h
 |some b=>rw[hb]at h;exact⟨b,rfl,h⟩
theorem ve{id av:Nat}{cs:List C}(h:s.cs id av=some cs):s.av id=av∧s.dc id=some (.loc cs):=by
 unfold PS.cs at h;split at h
 ·rename_i hv;split at h
  ·rename_i cs' hb
   injection h with h
   subst h;exact⟨hv,hb⟩
  cases h
 cases h
theorem Fi{id av:Nat}{es:List (D×C)}(h:s.ents id av=some es):s.av id=av∧s.mp id=some es:=by
 unfold PS.ents at h;split at h
 ·rename_i hv;exact⟨hv,h⟩
 cases h
theorem a5c{c:C}{x:D}{ids:List Nat}{u:Value}(hp:Qs s c=some (x,ids))(hc:yq G E s c u)(hle:G.le G')(hg:∀id∈ids,Zl G' G E s id):i6 G' x u:=by
 cases c with
 |d y=>
  simp only[Qs,ak,cd]at hp;obtain⟨rfl,rfl⟩:=hp;exact i6.mono hle hc
 |ref id av len=>
  simp only[Qs]at hp;split at hp
  ·rename_i sz dm he;split at hp
   ·rename_i hl;simp only[ak,cd]at hp;obtain⟨rfl,rfl⟩:=hp;obtain⟨e1,e2⟩:=yj he;subst hl;exact(hg id (by simp)).1 sz dm av u e2 e1 hc
   cases hp
  cases hp
 |l9 id av=>
  simp only[Qs]at hp;split at hp
  ·rename_i es he;simp only[aq,cd]at hp;obtain⟨ds,hds,rfl,rfl⟩:=hp;obtain⟨e1,e2⟩:=Fi he;exact(hg id (by simp)).2 es ds av u e2 hds e1 hc
  cases hp
 |ptr id av off=>cases hp
theorem aa3:∀{cs:List C} {ds:List D} {ids:List Nat},Pn s cs=some (ds,ids)→ds.length=cs.length∧
  (G.le G'→(∀id∈ids,Zl G' G E s id)→∀(i:Nat) (c:C) (x:D) (u:Value),cs[i]? =some c→ds[i]? =some x→yq G E s c u→i6 G' x u):=by
 intro cs
 induction cs with
 |nil=>intro ds ids h;simp only[Pn,ak,cd]at h;obtain⟨rfl,rfl⟩:=h;exact⟨rfl,by simp⟩
 |cons c r ih=>
  intro ds ids h;simp only[Pn]at h;split at h
  ·rename_i x i l j h1 h2;simp only[ak,cd]at h;obtain⟨rfl,rfl⟩:=h;obtain⟨k1,k2⟩:=ih h2;refine⟨by simp[k1],fun hle hg n c' x' u hc hx hr=>?_⟩
   cases n with
   |zero=>
    simp only[dv,ak]at hc hx;subst hc hx;exact a5c h1 hr hle fun id hid=>hg id (ab0 _ hid)
   |succ n=>
    simp only[i7]at hc hx;exact k2 hle (fun id hid=>hg id (Vn _ hid)) n c' x' u hc hx hr
  cases h
end
def full(w:World):gq where
 cv b o:=w.cell? ⟨b,o,none⟩
 mv b:=match w.heap[b]? with
  |some (.map ents _)=>some (ents.toList.map fun(e:MapEntry)=>(e.key,e.val))
  |_=>none
theorem GOk.ayo(w:World):GOk (full w) w where
 cv _ _ _ h:=h
 mv b es h:=by
  unfold full at h;simp only at h;split at h
  ·rename_i ents clock hh
   injection h with h
   exact⟨ents,clock,hh,h⟩
  cases h
theorem GOk.Vd{G:gq}{w:World}(h:GOk G w):G.le (full w)where
 cv:=h.cv
 mv b es he:=by
  obtain⟨ents,clock,h1,h2⟩:=h.mv b es he;simp only[full,h1,h2]
section
variable{B0 nt:Nat}{w0 w w':World}{G0 G G':gq}{s s':PS}{E E':Env}{a:Act}
theorem Ry:∀{cs:List C} {ds:List D},Lo cs=some ds→cs=ds.map .d:=by
 intro cs
 induction cs with
 |nil=>intro ds h;simp only[Lo,ak]at h;subst h;rfl
 |cons c r ih=>
  intro ds h
  cases c with
  |d x=>
   simp only[Lo]at h;split at h
   ·rename_i l hl
    injection h with h
    subst h;rw[ih hl];rfl
   cases h
  |ref _ _ _=>cases h
  |l9 _ _=>cases h
  |ptr _ _ _=>cases h
theorem Zj(ds:List D):Lo (ds.map .d)=some ds:=by
 induction ds with
 |nil=>rfl
 |cons x r ih=>simp[Lo,ih]
theorem jf.yl(h:jf B0 w0 nt G0 s G E a w){id:Nat}{b:B}(hb:s.dc id=some b):∃cells et,w.heap[E.b id]? =some (.cells cells et (0,0))∧E.n id≤cells.size∧Holds G E s cells b∧∀o,w.cell? ⟨E.b id,o,none⟩=cells[o]? :=by
 obtain⟨_,_,cells,et,h3,h4,h5⟩:=h.dc id b hb;refine⟨cells,et,h3,h4,?_,fun o=>by simp[aKw,h3]⟩;cases b<;>exact h5
theorem Yj{α:Type}:∀{l:List (Option α)} {r:List α},O1 l=some r→r.length=l.length∧∀(i:Nat) (x:α),r[i]? =some x→l[i]? =some (some x):=by
 intro l
 induction l with
 |nil=>intro r h;simp only[O1,ak]at h;subst h;simp
 |cons y l ih=>
  intro r h;simp only[O1]at h;split at h
  ·rename_i x l' h2
   injection h with h
   subst h;obtain⟨k1,k2⟩:=ih h2;refine⟨by simp[k1],fun i x hx=>?_⟩
   cases i with
   |zero=>simp at hx⊢;rw[hx]
   |succ i=>simp at hx⊢;exact k2 i x hx
  cases h
theorem Holds.elc{cells:Array Value}{b:B}{sz:Nat}{dm:List (List C)}(h:Holds G E s cells b)(hb:(∃ds,b= .arr sz ds∧dm=ds.map fun e=>e.map .d)∨b= .qi sz dm):
  dm.length*sz≤cells.size∧(∀(i:Nat) (e:List C),dm[i]? =some e→e.length=sz)∧
   ∀(i:Nat) (e:List C) (j:Nat) (c:C) (u:Value),dm[i]? =some e→e[j]? =some c→cells[i*sz+j]? =some u→yq G E s c u:=by
 rcases hb with ⟨ds,rfl,rfl⟩|rfl
 ·obtain⟨h1,h2,h3⟩:=h;refine⟨by simpa using h1,fun i e he=>?_,fun i e j c u he hc hu=>?_⟩
  ·simp only[cy,aq]at he;obtain⟨e',he',rfl⟩:=he;simpa using h2 i e' he'
  simp only[cy,aq]at he;obtain⟨e',he',rfl⟩:=he;simp only[cy,aq]at hc;obtain⟨x,hx,rfl⟩:=hc;exact h3 i e' j x u he' hx hu
 exact h
theorem a0c{i j n sz:Nat}(hi:i<n)(hj:j<sz):i*sz+j<n*sz:=by
 have:(i+1)*sz≤n*sz:=fh _ hi;rw[jn]at this;omega
theorem jf.ah5(h:jf B0 w0 nt G0 s G E a w):∀(n:Nat) {c:C} {d:D} {v:Value},deep s n c=some d→yq G E s c v→i6 (full w) d v:=by
 intro n
 induction n with
 |zero=>
  intro c d v hs hv
  cases c with
  |d x=>simp only[deep,ak]at hs;subst hs;exact i6.mono h.gok.Vd hv
  |ref _ _ _=>simp[deep]at hs
  |l9 _ _=>simp[deep]at hs
  |ptr _ _ _=>simp[deep]at hs
 |succ n ih=>
  intro c d v hs hv
  cases c with
  |d x=>simp only[deep,ak]at hs;subst hs;exact i6.mono h.gok.Vd hv
  |ref id av len=>
   simp only[deep]at hs;split at hs
   ·rename_i sz dm he;split at hs
    ·rename_i hl;simp only[aq]at hs;obtain⟨ds,hds,rfl⟩:=hs;obtain⟨k1,k2⟩:=Yj hds;simp only[ag]at k1;obtain⟨e1,b,e2,e3,e4⟩:=Kd he;obtain⟨_,q⟩:=hv.2 e1 sz dm.length ((xj e2).trans e3);obtain⟨cap,c1,c2,rfl⟩:=q hl;obtain⟨cells,et,h3,h4,hh,hw⟩:=h.yl e2;obtain⟨h5,h6,h7⟩:=hh.elc e4
     have row:∀(i:Nat) (e:List D),ds[i]? =some e→∃e',dm[i]? =some e'∧e.length=e'.length∧∀(j:Nat) (x:D),e[j]? =some x→∃c,e'[j]? =some c∧deep s n c=some x:=by
      intro i e hi;have:=k2 i e hi;simp only[cy,aq]at this;obtain⟨e',he',hr⟩:=this;obtain⟨r1,r2⟩:=Yj hr;refine⟨e',he',by simpa using r1,fun j x hx=>?_⟩;have:=r2 j x hx;simp only[cy,aq]at this;exact this
     subst hl;rw[←k1];refine i6.gz (by omega) (fun i e hi=>?_) (fun i j hi hj=>?_) (fun i e j x v hi hx hv=>?_)
     ·obtain⟨e',q1,q2,_⟩:=row i e hi;rw[q2];exact h6 i e' q1
     ·show(w.cell? _).isSome;have:=a0c (n:=dm.length) (by omega:i<dm.length) hj;rw[gd,hw,bh (by omega)];rfl
     have hv':w.cell? ⟨E.b id,0+i*sz+j,none⟩=some v:=hv;rw[gd,hw]at hv';obtain⟨e',q1,_,q3⟩:=row i e hi;obtain⟨c,q4,q5⟩:=q3 j x hx;exact ih q5 (h7 i e' j c v q1 q4 hv')
    cases hs
   cases hs
  |l9 id av=>
   simp only[deep]at hs;split at hs
   ·rename_i es he;simp only[aq]at hs;obtain⟨ds,hds,rfl⟩:=hs;obtain⟨k1,k2⟩:=Yj hds;simp only[ag]at k1;obtain⟨e1,e2⟩:=Fi he;have:=hv.2 e1 (by rw[e2];rfl);subst this;obtain⟨h1,_,ents,clock,h3,h4,h5,_⟩:=h.mp id es e2;refine i6.map (fs:=ents.toList.map fun(e:MapEntry)=>(e.key,e.val)) (by simp only[full,h3]) (by simpa using h4.trans k1.symm) (fun i e f he hf=>?_) (fun i e f he hf=>?_)
    all_goals
     simp only[cy,aq]at hf;obtain⟨x,hx,rfl⟩:=hf;have hd:=k2 i e he;simp only[cy,aq]at hd;obtain⟨e',hi,y,hy,rfl⟩:=hd;have:=h5 i e' x hi (by simpa using hx)
    ·exact this.1.mono h.gok.Vd
    exact ih hy this.2
   cases hs
  |ptr _ _ _=>simp[deep]at hs
theorem jf.Ra(h:jf B0 w0 nt G0 s G E a w){c:C}{d:D}{v:Value}(hs:oh s c=some d)(hv:yq G E s c v):i6 (full w) d v:=by
 cases c with
 |d y=>simp only[oh,ak]at hs;subst hs;exact i6.mono h.gok.Vd hv
 |ref id av len=>
  simp only[oh]at hs;split at hs
  ·rename_i sz dm he;split at hs
   ·rename_i hl
    injection hs with hs
    subst hs hl;obtain⟨e1,e2⟩:=yj he;obtain⟨_,k2⟩:=hv.2 e1 sz dm.length (xj e2);obtain⟨cap,c1,c2,rfl⟩:=k2 rfl;obtain⟨cells,et,h3,h4,hh,hw⟩:=h.yl e2;obtain⟨h5,h6,h7⟩:=hh;refine i6.gz c2 h6 (fun i j hi hj=>?_) (fun i e j x v he hx hv=>?_)
    ·show(w.cell? _).isSome;have:=a0c hi hj;rw[gd,hw,bh (by omega)];rfl
    have hv':w.cell? ⟨E.b id,0+i*sz+j,none⟩=some v:=hv;rw[gd,hw]at hv';exact(h7 i e j x v he hx hv').mono h.gok.Vd
   cases hs
  exact h.ah5 6 hs hv
 |l9 id av=>exact h.ah5 6 hs hv
 |ptr id av off=>cases hs
theorem Wt:∀{cs:List C} {ds:List D},ju s cs=some ds→ds.length=cs.length∧∀(i:Nat) (c:C) (d:D),cs[i]? =some c→ds[i]? =some d→oh s c=some d:=by
 intro cs
 induction cs with
 |nil=>intro ds h;simp only[ju,ak]at h;subst h;exact⟨rfl,by simp⟩
 |cons c r ih=>
  intro ds h;simp only[ju]at h;split at h
  ·rename_i x l h1 h2
   injection h with h
   subst h;obtain⟨k1,k2⟩:=ih h2;refine⟨by simp[k1],fun i c' d hc hd=>?_⟩
   cases i with
   |zero=>simp at hc hd;subst hc hd;exact h1
   |succ i=>simp at hc hd;exact k2 i c' d hc hd
  cases h
theorem jf.a43(h:jf B0 w0 nt G0 s G E a w){id av:Nat}{cs:List C}{ds:List D}(hc:s.cs id av=some cs)(hd:ju s cs=some ds)(off:Nat):
  i6 (full w) (.uw ds off) (.pointer (some ⟨E.b id,off,none⟩)):=by
 obtain⟨_,hb⟩:=ve hc;obtain⟨cells,et,_,_,hh,hw⟩:=h.yl hb;obtain⟨e1,e2⟩:=Wt hd;have hl:=hh.1
 have k:=i6.uw (G:=full w) (cells:=ds) (b:=E.b id) (o:=0) (off:=off) (fun j hj=>by
  show(w.cell? _).isSome;rw[gd,hw,bh (by omega)]
  rfl) (fun j x v hx hv=>by
  have hv':cells[j]? =some v:=by
   have:w.cell? ⟨E.b id,0+j,none⟩=some v:=hv
   rwa[gd,hw]at this
  have hj:j<cs.length:=by have:=(aw.1 hx).1;omega
  have:=hh.2 j cs[j] v (ax hj) hv'
  exact h.Ra (e2 j _ x (ax hj) hx) this)
 rwa[gd]at k
theorem aq0{α:Type}:∀{n sz:Nat} {ds:List α},n*sz≤ds.length→(chunks sz n ds).length=n∧∀(i:Nat) (e:List α),(chunks sz n ds)[i]? =some e→e.length=sz∧∀(j:Nat) (x:α),e[j]? =some x→ds[i*sz+j]? =some x:=by
 intro n
 induction n with
 |zero=>intro sz ds _;exact⟨rfl,by simp[chunks]⟩
 |succ n ih=>
  intro sz ds hl;rw[jn]at hl;obtain⟨k1,k2⟩:=ih (sz:=sz) (ds:=ds.drop sz) (by simp;omega);refine⟨by simp[chunks,k1],fun i e hi=>?_⟩
  cases i with
  |zero=>
   simp only[chunks,dv,ak]at hi;subst hi;refine⟨by simp;omega,fun j x hx=>?_⟩;rw[jv]at hx;split at hx
   ·simpa using hx
   cases hx
  |succ i=>
   simp only[chunks,i7]at hi;obtain⟨q1,q2⟩:=k2 i e hi;refine⟨q1,fun j x hx=>?_⟩;have:=q2 j x hx;rw[og]at this;rw[←this,jn]
   congr 1
   omega
theorem jf.a4l(h:jf B0 w0 nt G0 s G E a w){x:V}{d:D}{v:Value}(hs:snap s x=some d)(hv:iw G E s x v):i6 (full w) d v:=by
 cases x with
 |d y=>simp only[snap,ak]at hs;subst hs;exact i6.mono h.gok.Vd hv
 |ref id av len=>exact h.Ra (c:= .ref id av len) hs hv
 |l9 id av=>exact h.Ra (c:= .l9 id av) hs hv
 |ie id av off=>
  simp only[snap]at hs;split at hs
  ·rename_i cs hc;simp only[aq]at hs;obtain⟨ds,hd,rfl⟩:=hs;obtain⟨e1,e2⟩:=ve hc;have:=hv.2 e1 ⟨_,e2,rfl⟩;subst this;exact h.a43 hc hd off
  cases hs
 |Hw id av ln i off=>cases hs
 |oq f ids=>
  have key:∀p∈ids,∀cs,s.cs p.1 p.2=some cs→s.av p.1=p.2∧∃b,s.dc p.1=some b∧b.isVar=true:=fun p _ cs hc=>⟨(ve hc).1,_,(ve hc).2,rfl⟩
  match ids,hs,hv,key with
  |[(id,av)],hs,hv,key=>
   simp only[snap]at hs;split at hs
   ·rename_i cs hc;simp only[aq]at hs;obtain⟨ds,hd,rfl⟩:=hs;have:=hv.2 (by intro p hp;simp only[Tc]at hp;subst hp;exact key _ (by simp) cs hc);subst this;refine i6.oq (by simp) fun i x v hx hv=>?_
    match i,hx,hv with
    |0,hx,hv=>
     simp at hx hv;subst hx hv;exact h.a43 hc hd 0
    |i+1,hx,hv=>simp at hx
   cases hs
  |[(id,av),(id',a8e)],hs,hv,key=>
   simp only[snap]at hs;split at hs
   ·rename_i cs cs' hc hc';split at hs
    ·rename_i ds ds' hd hd'
     injection hs with hs
     subst hs
     have:=hv.2 (by
      intro p hp;simp only[fb,l8,or_false]at hp;rcases hp with rfl|rfl
      ·exact key _ (by simp) cs hc
      exact key _ (by simp) cs' hc')
     subst this;refine i6.oq (by simp) fun i x v hx hv=>?_
     match i,hx,hv with
     |0,hx,hv=>
      simp at hx hv;subst hx hv;exact h.a43 hc hd 0
     |1,hx,hv=>
      simp at hx hv;subst hx hv;exact h.a43 hc' hd' 0
     |i+2,hx,hv=>simp at hx
    cases hs
   cases hs
 |agg cs=>
  simp only[snap,aq]at hs;obtain⟨ds,hd,rfl⟩:=hs;obtain⟨vs,rfl,e2,e3⟩:=F4.1 hv;obtain⟨k1,k2⟩:=Wt hd;refine i6.agg (by omega) fun i x u hx hu=>?_
  have hi:i<cs.length:=by have:=(aw.1 hx).1;omega
  exact h.Ra (k2 i _ x (ax hi) hx) (e3 i _ u (ax hi) hu)
 |Ar cs=>cases hs
 |Kr id av ln n=>
  simp only[snap]at hs;split at hs
  ·rename_i cs hc;split at hs
   ·rename_i ds hd;split at hs
    ·rename_i hl
     injection hs with hs
     subst hs;obtain⟨e1,e2⟩:=ve hc;have:=hv.2 e1 ⟨_,e2,rfl⟩;subst this;obtain⟨cells,et,_,_,hh,hw⟩:=h.yl e2;obtain⟨q1,q2⟩:=Wt hd;have hcl:=hh.1;have k:=aq0 (ds:=ds) (sz:=n) (n:=ln) (by omega)
     have:=i6.gz (G:=full w) (sz:=n) (l:=chunks n ln ds) (b:=E.b id) (o:=0) (c:=ln) (by rw[k.1];exact ay _) (fun i e hi=>(k.2 i e hi).1) (fun i j hi hj=>by
      show(w.cell? _).isSome;rw[k.1]at hi;have:=a0c hi hj;rw[gd,hw,bh (by omega)]
      rfl) (fun i e j x v hi hx hv=>by
      have hv':w.cell? ⟨E.b id,0+i*n+j,none⟩=some v:=hv;rw[gd,hw]at hv';have hx':=(k.2 i e hi).2 j x hx
      have hlt:i*n+j<cs.length:=by have:=(aw.1 hx').1;omega
      exact h.Ra (q2 _ _ x (ax hlt) hx') (hh.2 _ _ v (ax hlt) hv'))
     rwa[k.1]at this
    cases hs
   cases hs
  cases hs
 |Hx id av m j=>cases hs
 |win _ _ _ _ _=>cases hs
 |no=>cases hs
theorem anc:∀{args:List V} {ds:List D},Hk s args=some ds→ds.length=args.length∧∀(i:Nat) (x:V) (d:D),args[i]? =some x→ds[i]? =some d→snap s x=some d:=by
 intro args
 induction args with
 |nil=>intro ds h;simp only[Hk,ak]at h;subst h;simp
 |cons x r ih=>
  intro ds h;simp only[Hk]at h;split at h
  ·rename_i d l h1 h2
   injection h with h
   subst h;obtain⟨k1,k2⟩:=ih h2;refine⟨by simp[k1],fun i x' d' hx hd=>?_⟩
   cases i with
   |zero=>simp at hx hd;subst hx hd;exact h1
   |succ i=>simp at hx hd;exact k2 i x' d' hx hd
  cases h
def join(G G':gq)(n:Nat):gq where
 cv b o:=if b<n then G.cv b o else G'.cv b o
 mv b:=if b<n then G.mv b else G'.mv b
theorem jf.a7q(h:jf B0 w0 nt G0 s G E a w)(hb:Bel (Plain s.ctx) w.heap.size w w'){G':gq}(hle:G.le G')(hok:GOk G' w')(Ps:∀b o,b<w.heap.size→G'.cv b o=G.cv b o)(hsm:∀b,b<w.heap.size→G'.mv b=G.mv b):
  jf B0 w0 nt G0 s G' E a w':=by
 have hB:B0≤w.heap.size:=by rw[h.base];exact h.below.size
 have hm:Ia E E s s:=⟨fun _=>ay _,fun _ _ n' _ h=>⟨n',h,ay _,fun _=>⟨rfl,rfl⟩⟩,fun _ b _ h hv=>⟨⟨b,h,hv⟩,rfl⟩,fun _ _ h=>⟨h,rfl⟩⟩;refine⟨h.size,h.defers,h.base,h.below.trans (hb.mono hB),hok,gq.a0q h.gle hle,⟨fun b o rp=>?_,fun b rp=>?_⟩,fun t=>iw.move hle hm (h.tmp t),fun i b hi=>?_,h.inj,fun i es hi=>?_,h.Rg,fun p=>iw.move hle hm (h.ctx p),h.tb⟩
 ·rw[Ps b o (by omega)];exact h.J4.1 b o rp
 ·rw[hsm b (by omega)];exact h.J4.2 b rp
 ·have k:=h.dc i b hi;exact k.move hle hm (hb.block _ k.lt) (fun o=>by rw[Ps _ _ k.lt];exact k.2.1 o) rfl rfl
 obtain⟨h1,h2,ents,clock,h3,h4,h5,h6⟩:=h.mp i es hi;have hlt:=(iu.1 h3).1;exact⟨h1,by rw[hsm _ hlt];exact h2,ents,clock,(hb.block _ hlt).trans h3,h4,fun i e x hx hy=>⟨(h5 i e x hx hy).1.mono hle,iw.Dw hle hm (h5 i e x hx hy).2⟩,h6⟩
theorem jf.a2s(h:jf B0 w0 nt G0 s G E a w)(id:Nat):
  jf B0 w0 nt G0 {s with mp:=l7 s.mp id (some []),av:=l7 s.av id (s.av id+1)} G {E with m:=l7 E.m id w.heap.size} a (w.alloc (.map #[] 0)):=by
 have hm:Ia E {E with m:=l7 E.m id w.heap.size} s {s with mp:=l7 s.mp id (some []),av:=l7 s.av id (s.av id+1)}:=by
  have hne:∀i,l7 s.av id (s.av id+1) i=s.av i→i≠id:=by
   intro i hi e;subst e;rw[cu]at hi;omega
  refine⟨fun i=>?_,fun i sz n' hv rp=>⟨n',rp,ay _,fun _=>⟨rfl,rfl⟩⟩,fun i b1 hv rp hva=>⟨⟨b1,rp,hva⟩,rfl⟩,fun i hv hp=>?_⟩
  ·show _≤l7 s.av id (s.av id+1) i;by_cases e:i=id
   ·subst e;rw[cu];omega
   rw[gj _ _ _ _ e];exact ay _
  have e:=hne i hv;simp only[gj _ _ _ _ e]at hp;exact⟨hp,gj _ _ _ _ e⟩
 have hB0:B0≤w.heap.size:=by rw[h.base];exact h.below.size
 refine⟨h.size,h.defers,h.base,h.below.alloc hB0 _,h.gok.alloc _,h.gle,h.J4,fun t=>iw.move (gq.la _) hm (h.tmp t),fun i b' rp=>?_,h.inj,fun i es hi=>?_,fun i j bi bj hi hj J3=>?_,fun p=>iw.move (gq.la _) hm (h.ctx p),h.tb⟩
 ·have k:=h.dc i b' rp;exact k.move (gq.la _) hm (Bg _ _ _ k.lt) k.2.1 rfl rfl
 ·by_cases e:i=id
  ·subst e;simp only[cu,ak]at hi⊢;subst hi;exact⟨hB0,h.gok.aBj (ay _),#[],0,Ly _ _,rfl,by simp,by simp[a19]⟩
  simp only[gj _ _ _ _ e]at hi⊢;obtain⟨h1,h2,ents,clock,h3,h4,h5,h6⟩:=h.mp i es hi;exact⟨h1,h2,ents,clock,(Bg _ _ _ (iu.1 h3).1).trans h3,h4,fun i e x hx hy=>⟨(h5 i e x hx hy).1,iw.Dw (gq.la _) hm (h5 i e x hx hy).2⟩,h6⟩
 have lt:∀i b,s.mp i=some b→E.m i≠w.heap.size:=fun i b hi=>by
  obtain⟨_,_,ents,clock,h3,_⟩:=h.mp i b hi;have:=(iu.1 h3).1;omega
 by_cases ei:i=id
 ·subst ei;have ej:j≠i:=fun e=>J3 e.symm;simp only[gj _ _ _ _ ej]at hj;simp only[cu,gj _ _ _ _ ej];exact fun e=>lt j bj hj e.symm
 simp only[gj _ _ _ _ ei]at hi⊢;by_cases ej:j=id
 ·subst ej;simp only[cu];exact lt i bi hi
 simp only[gj _ _ _ _ ej]at hj⊢;exact h.Rg i j bi bj hi hj J3
theorem jf.Zu(h:jf B0 w0 nt G0 s G E a w){id:Nat}{es0 es:List (D×C)}(he:s.mp id=some es0){ents:Array MapEntry}{clock:Nat}(ht:Ao w w' (E.m id) (.map ents clock))
  (hl:ents.size=es.length)(hr:∀(i:Nat) (e:D×C) (x:MapEntry),es[i]? =some e→ents[i]? =some x→i6 G e.1 x.key∧yq G E s e.2 x.val)(hbo:a19 ents clock):
  jf B0 w0 nt G0 {s with mp:=l7 s.mp id (some es)} G E a w':=by
 have hm:Ia E E s {s with mp:=l7 s.mp id (some es)}:=by
  refine⟨fun _=>ay _,fun _ _ n' _ h=>⟨n',h,ay _,fun _=>⟨rfl,rfl⟩⟩,fun _ b _ h hv=>⟨⟨b,h,hv⟩,rfl⟩,fun i _ hp=>⟨?_,rfl⟩⟩;by_cases e:i=id
  ·subst e;rw[he];rfl
  simp only[gj _ _ _ _ e]at hp;exact hp
 obtain⟨m1,m2,aF1,aCh,m3,m4,m5⟩:=h.mp id es0 he
 have hcv:∀o,G.cv (E.m id) o=none:=by
  intro o
  cases hc:G.cv (E.m id) o with
  |none=>rfl
  |some v=>
   have:=h.gok.cv _ _ _ hc;simp[aKw,m3]at this
 refine⟨h.size,h.defers,h.base,h.below.trans (ht.below m1),h.gok.aqm ht hcv m2,h.gle,h.J4,fun t=>iw.move (gq.la _) hm (h.tmp t),fun i b hb=>?_,h.inj,fun i es' hi=>?_,fun i j bi bj hi hj J3=>?_,fun p=>iw.move (gq.la _) hm (h.ctx p),h.tb⟩
 ·have k:=h.dc i b hb;refine k.move (gq.la _) hm (ht.other _ fun e=>?_) k.2.1 rfl rfl;obtain⟨_,_,cells,et,h3,_⟩:=k;rw[e,m3]at h3;cases h3
 ·by_cases e:i=id
  ·subst e;simp only[cu,ak]at hi;subst hi;exact⟨m1,m2,ents,clock,ht.at_,hl,fun i e x hx hy=>⟨(hr i e x hx hy).1,iw.Dw (gq.la _) hm (hr i e x hx hy).2⟩,hbo⟩
  simp only[gj _ _ _ _ e]at hi;obtain⟨h1,h2,aF0,aCg,h3,h4,h5,h6⟩:=h.mp i es' hi;exact⟨h1,h2,aF0,aCg,(ht.other _ (h.Rg i id es' es0 hi he e)).trans h3,h4,fun i e x hx hy=>⟨(h5 i e x hx hy).1,iw.Dw (gq.la _) hm (h5 i e x hx hy).2⟩,h6⟩
 have un:∀i bi,l7 s.mp id (some es) i=some bi→∃b2,s.mp i=some b2:=by
  intro i bi hi;by_cases e:i=id
  ·subst e;exact⟨es0,he⟩
  rw[gj _ _ _ _ e]at hi;exact⟨bi,hi⟩
 obtain⟨b2,h2⟩:=un i bi hi;obtain⟨b3,h3⟩:=un j bj hj;exact h.Rg i j b2 b3 h2 h3 J3
end
theorem Ev(b o n:Nat):(⟨b,o,none⟩:Addr).add n=⟨b,o+n,none⟩:=by
 unfold Addr.add;split<;>simp_all
theorem Zq{P:Program}{t:TypeId}{g:Bool}(hn:B9 P t=some g)(w:World):(isAgg t).run P w= .ok g w:=by
 unfold B9 at hn;unfold isAgg underlying
 cases hd:P.underlying t with
 |none=>rw[hd]at hn;cases hn
 |some d=>
  rw[hd]at hn;simp only[cn,run_program,bm,hd];cases d<;>simp at hn<;>subst hn<;>simp
theorem sn{P:Program}{t:TypeId}{n:Nat}(hn:lg P t=some n)(w:World):(sizeOf t).run P w= .ok n w:=by
 unfold lg at hn;simp only[aq]at hn;obtain⟨i,hi,rfl⟩:=hn;simp[sizeOf,typeInfo,hi]
theorem i6.afi{G:gq}{x:D}{v:Value}(h:i6 G x v)(hx:x.one=true):v.oneCell'=true:=by
 cases h<;>first|rfl|cases hx
section
variable{P:Program}{B0 nt:Nat}{w0 w w':World}{G0 G G':gq}{s s':PS}{E E':Env}{a:Act}
theorem Se{t:TypeId}{n b o:Nat}{g:Bool}{cs:List C}(hs:lg P t=some n)(hg:B9 P t=some g)(h1:g=true∨n=1)(hn:cs.length=n)
  (hc:∀j,j<n→∃u,w.cell? ⟨b,o+j,none⟩=some u∧∀c,cs[j]? =some c→yq G E s c u):
  ∃u,(loadVar t ⟨b,o,none⟩).run P w= .ok u w∧iw G E s (mkv g cs) u:=by
 unfold loadVar;simp only[cn,Zq hg,bm]
 cases g with
 |true=>
  have hf:∀j,j<n→w.cell? ((⟨b,o,none⟩:Addr).add j)=some ((w.cell? ⟨b,o+j,none⟩).getD undef):=by
   intro j hj;obtain⟨u,hu,_⟩:=hc j hj;rw[Ev,hu];rfl
  simp only[cz,cn,sn hs,bm,run_loadCells w _ n (fun j=>(w.cell? ⟨b,o+j,none⟩).getD undef) hf,ep];refine⟨_,rfl,?_⟩
  have rel:∀(i:Nat) (c:C) (u:Value),cs[i]? =some c→((dt n).map fun j=>(w.cell? ⟨b,o+j,none⟩).getD undef).toArray[i]? =some u→yq G E s c u:=by
   intro i c u hi hu
   have hil:i<n:=by have:=(aw.1 hi).1;omega
   obtain⟨u',hu',hr⟩:=hc i hil;simp only[Ab,cy,Mt hil,ir,ak]at hu;rw[hu']at hu;simp only[jc]at hu;subst hu;exact hr c hi
  unfold mkv
  cases hd:Lo cs with
  |some ds=>
   have e:=Ry hd;subst e;refine i6.agg (by simp at hn⊢;omega) fun i x v hx hv=>?_;exact rel i (.d x) v (by simp[hx]) hv
  |none=>exact F4.2 ⟨_,rfl,by simp;omega,rel⟩
 |false=>
  have hn1:n=1:=by simpa using h1
  subst hn1;obtain⟨u,hu,hr⟩:=hc 0 (by omega);rw[Af]at hu;refine⟨u,by simp[hu],?_⟩
  match cs,hn with
  |[c],_=>
   unfold mkv;simp only[Lo];exact hr c rfl
theorem a3y{g:Bool}{ds:List D}:mkd g ds=mkv g (ds.map .d):=by
 unfold mkd mkv;rw[Zj];cases g
 ·match ds with
  |[]=>rfl
  |[x]=>rfl
  |_::_::_=>rfl
 rfl
theorem zu(x:Addr)(w:World):(aD5 (.pointer (some x))).run P w= .ok x w:=rfl
theorem X3(h:jf B0 w0 nt G0 s G E a w){t:TypeId}{n:Nat}{g:Bool}{x y:V}{v:Value}(hs:lg P t=some n)(hg:B9 P t=some g)(h1:g=true∨n=1)
  (hl:C4 s n g x=some y)(hv:iw G E s x v):∃u,(aKu t v).run P w= .ok u w∧iw G E s y u:=by
 unfold aKu
 cases x with
 |ie id av off=>
  simp only[C4]at hl;split at hl
  ·rename_i cs Iu;split at hl
   ·rename_i hle
    injection hl with hl
    subst hl;obtain⟨e1,e2⟩:=ve Iu;have:=hv.2 e1 ⟨_,e2,rfl⟩;subst this;obtain⟨cells,et,_,_,hh,hw⟩:=h.yl e2;simp only[cn,zu,bm];refine Se hs hg h1 (by simp;omega) fun j hj=>?_
    have hlt:off+j<cells.size:=by have:=hh.1;omega
    refine⟨cells[off+j],by rw[hw,bh hlt],fun c hc=>?_⟩;refine hh.2 (off+j) c _ ?_ (bh hlt);rw[jv,bd hj,og]at hc;exact hc
   cases hl
  cases hl
 |Hw id av ln i off=>
  simp only[C4]at hl;split at hl
  ·rename_i sz dm he;split at hl
   ·rename_i e hei;split at hl
    ·rename_i hle
     injection hl with hl
     subst hl;obtain⟨e1,e2⟩:=yj he;obtain⟨_,k2⟩:=hv.2 e1 sz dm.length (xj e2);have:=k2 hle.1;subst this;obtain⟨cells,et,_,_,hh,hw⟩:=h.yl e2;obtain⟨h5,h6,h7⟩:=hh;simp only[cn,zu,bm];have hel:=h6 i e hei;have hil:i<dm.length:=(aw.1 hei).1;have hb:(i+1)*sz≤dm.length*sz:=fh _ hil;rw[jn,Bt]at hb;have aEd:=hle.2;rw[a3y];refine Se hs hg h1 (by simp;omega) fun j hj=>?_
     have hlt:i*sz+off+j<cells.size:=by omega
     refine⟨cells[i*sz+off+j],by rw[hw,bh hlt],fun c hc=>?_⟩;rw[cy,jv,bd hj,og]at hc
     cases hx:e[off+j]? with
     |none=>rw[hx]at hc;cases hc
     |some x=>
      rw[hx]at hc;simp only[ir,ak]at hc;subst hc;exact h7 i e (off+j) x _ hei hx (by rw[←rv];exact bh hlt)
    cases hl
   cases hl
  split at hl
  ·rename_i sz dm he;split at hl
   ·rename_i e hei;split at hl
    ·rename_i hle
     injection hl with hl
     subst hl;obtain⟨e1,b,e2,e3,e4⟩:=Kd he;obtain⟨_,k2⟩:=hv.2 e1 sz dm.length ((xj e2).trans e3);have:=k2 hle.1;subst this;obtain⟨cells,et,_,_,hh,hw⟩:=h.yl e2;obtain⟨h5,h6,h7⟩:=hh.elc e4;simp only[cn,zu,bm];have hel:=h6 i e hei;have hil:i<dm.length:=(aw.1 hei).1;have hb:(i+1)*sz≤dm.length*sz:=fh _ hil;rw[jn,Bt]at hb;have aEd:=hle.2;refine Se hs hg h1 (by simp;omega) fun j hj=>?_
     have hlt:i*sz+off+j<cells.size:=by omega
     refine⟨cells[i*sz+off+j],by rw[hw,bh hlt],fun c hc=>?_⟩;rw[jv,bd hj,og]at hc;exact h7 i e (off+j) c _ hei hc (by rw[←rv];exact bh hlt)
    cases hl
   cases hl
  cases hl
 |d z=>
  cases z with
  |uw cells off=>
   simp only[C4]at hl;split at hl
   ·rename_i hle
    injection hl with hl
    subst hl
    cases hv with
    | @uw _ b o _ k1 k2=>
     simp only[cn,zu,bm];rw[a3y];refine Se hs hg h1 (by simp;omega) fun j hj=>?_;obtain⟨u,hu⟩:=ke.1 (k1 (off+j) (by omega));rw[←rv]at hu;refine⟨u,h.gok.cv _ _ _ hu,fun c hc=>?_⟩;rw[cy,jv,bd hj,og]at hc
     cases hx:cells[off+j]? with
     |none=>rw[hx]at hc;cases hc
     |some x=>
      rw[hx]at hc;simp only[ir,ak]at hc;subst hc;exact k2 (off+j) x u hx (by rw[←rv];exact hu)
   cases hl
  |_=>cases hl
 |_=>cases hl
theorem Rv{x:V}{cs:List C}{v:Value}(hx:x.cells s=some cs)(hv:iw G E s x v):
  v.cells.size=cs.length∧∀(j:Nat) (c:C) (u:Value),cs[j]? =some c→v.cells[j]? =some u→yq G E s c u:=by
 have one:∀(c:C) (v:Value),v.cells= #[v]→yq G E s c v→v.cells.size=[c].length∧∀(j:Nat) (c':C) (u:Value),[c][j]? =some c'→v.cells[j]? =some u→yq G E s c' u:=by
  intro c v hc hr;rw[hc];refine⟨rfl,fun j c' u h1 h2=>?_⟩
  match j,h1,h2 with
  |0,h1,h2=>simp at h1 h2;subst h1 h2;exact hr
  |j+1,h1,h2=>simp at h1
 cases x with
 |d z=>
  cases z with
  |agg ds=>
   simp only[V.cells,ak]at hx;subst hx
   cases hv with
   |agg hl hh=>
    refine⟨by simpa[Value.cells]using hl,fun j c u hc hu=>?_⟩;simp only[cy,aq]at hc;obtain⟨x,hx,rfl⟩:=hc;exact hh j x u hx hu
  |Ar _=>cases hx
  |any=>cases hx
  |_=>simp only[V.cells,ak]at hx;subst hx;refine one _ _ ?_ hv;cases hv<;>rfl
 |ref id av len=>
  simp only[V.cells]at hx;split at hx
  ·rename_i sz n he;split at hx
   ·rename_i hl
    injection hx with hx
    subst hx;obtain⟨e1,e2⟩:=Gh he;obtain⟨_,k2⟩:=hv.2 e1 sz n e2;obtain⟨cap,_,_,e⟩:=k2 hl;exact one _ _ (by rw[e];rfl) hv
   cases hx
  cases hx
 |l9 id av=>
  simp only[V.cells]at hx;split at hx
  ·rename_i es he
   injection hx with hx
   subst hx;obtain⟨e1,e2⟩:=Fi he;have e:=hv.2 e1 (by rw[e2];rfl);exact one _ _ (by rw[e];rfl) hv
  cases hx
 |ie id av off=>
  simp only[V.cells]at hx;split at hx
  ·rename_i cs' he
   injection hx with hx
   subst hx;obtain⟨e1,e2⟩:=ve he;have e:=hv.2 e1 ⟨_,e2,rfl⟩;exact one (.ptr id av off) _ (by rw[e];rfl) hv
  cases hx
 |agg cs'=>
  simp only[V.cells,ak]at hx;subst hx;obtain⟨vs,rfl,hl,hh⟩:=F4.1 hv;exact⟨hl,fun j c u hc hu=>hh j c u hc hu⟩
 |_=>cases hx
theorem Dv{α:Type}(l:List α)(off:Nat)(xs:List α)(h:off+xs.length≤l.length)(j:Nat):
  (patch l off xs)[j]? =if off≤j∧j<off+xs.length then xs[j-off]? else l[j]? :=by
 unfold patch;rw[po,Nv];simp only[er,aax (show off≤l.length by omega)];by_cases h1:j<off
 ·rw[bd h1,al (by omega),jv,bd h1]
 rw[al h1,Nv];by_cases h2:j-off<xs.length
 ·rw[bd h2,bd (by omega)]
 rw[al h2,al (by omega),og]
 congr 1
 omega
theorem r8{α:Type}(l:List α)(off:Nat)(xs:List α)(h:off+xs.length≤l.length):(patch l off xs).length=l.length:=by
 unfold patch;simp;omega
theorem Ny{t:TypeId}{n b o:Nat}{et:TypeId}{v:Value}{cells:Array Value}(hs:lg P t=some n)(hn:v.cells.size=n)(hw:w.heap[b]? =some (.cells cells et (0,0)))
  (hle:o+n≤cells.size)(h1:∀u∈v.cells.toList,u.oneCell'=true):
  (storeVar t ⟨b,o,none⟩ v).run P w= .ok () (w.setRow b (patch cells.toList o v.cells.toList).toArray):=by
 unfold storeVar;simp only[cn,sn hs,bm];rw[al (by simpa using hn)];have:=run_storeCells_at (P:=P) b o et v.cells.toList 0 cells w hw (by simp;omega) h1;simpa[patch]using this
theorem Ao.setRow{b:Nat}{et:TypeId}{cells:Array Value}(hw:w.heap[b]? =some (.cells cells et (0,0)))(cs:Array Value):Ao w (w.setRow b cs) b (.cells cs et (0,0)):=
 ⟨rfl,rfl,rfl,rfl,by simp,fun k hk=>setRow_other w b k cs hk,setRow_heap w b cells cs et (0,0) hw⟩
theorem Y1(h:jf B0 w0 nt G0 s G E a w){t:TypeId}{n id av ln i off:Nat}{ad:Value}{xs:List C}{v:Value}{e:a7y}(hs:lg P t=some n)
  (tn:F2 s n xs id av ln i off=some e)(hx:iw G E s (.Hw id av ln i off) ad)(C9:v.cells.size=xs.length)
  (hv:∀(j:Nat) (c:C) (u:Value),xs[j]? =some c→v.cells[j]? =some u→yq G E s c u)(Bm:xs.all (C.one s)=true→∀u∈v.cells.toList,u.oneCell'=true):
  ∃w' id b,((aD5 ad).bind fun a=>storeVar t a v).run P w= .ok () w'∧e=([],.set id b)∧jf B0 w0 nt G0 {s with dc:=l7 s.dc id (some b)} G E a w':=by
 unfold F2 at tn;split at tn
 ·rename_i sz dm he;split at tn
  ·rename_i e hei;split at tn
   ·rename_i hle
    injection tn with tn
    subst tn;obtain⟨e1,b,e2,e3,e4⟩:=Kd he;obtain⟨_,k2⟩:=hx.2 e1 sz dm.length ((xj e2).trans e3);have:=k2 hle.2.1;subst this;obtain⟨cells,et,Ku,hn,hh,hw⟩:=h.yl e2;obtain⟨h5,h6,h7⟩:=hh.elc e4;have K3:∀(A:Addr) (f:Addr→Sem Unit),((aD5 (.pointer (some A))).bind f).run P w=(f A).run P w:=fun _ _=>rfl;rw[K3];have hel:=h6 i e hei;have hil:i<dm.length:=(aw.1 hei).1;have hb:(i+1)*sz≤dm.length*sz:=fh _ hil;rw[jn,Bt]at hb;have h3:=hle.2.2.1;have h4:=hle.2.2.2;rw[Ny hs (by omega) Ku (by omega) (Bm hle.1)]
    have hpl:off+xs.length≤e.length:=by omega
    have hpv:i*sz+off+v.cells.toList.length≤cells.toList.length:=by simp;omega
    have hal:Alike b (.qi sz (dm.set i (patch e off xs))):=by
     refine⟨by rcases e4 with ⟨_,rfl,_⟩|rfl<;>rfl,fun sz' n' h'=>?_⟩
     simp only[B.De,Ie,ak,cd]at h';obtain⟨rfl,rfl⟩:=h';exact⟨_,e3,ay _⟩
    refine⟨_,id,_,rfl,rfl,h.set e2 hal (Ao.setRow Ku _) (by simp[r8 _ _ _ hpv,hn]) ⟨by simp[r8 _ _ _ hpv];exact h5,fun i' e' D0=>?_,fun i' e' j x u D0 hj hu=>?_⟩⟩
    ·rw[so]at D0;split at D0
     ·injection D0 with D0;subst D0;rw[r8 _ _ _ hpl];exact hel
     exact h6 i' e' D0
    rw[Ab,Dv _ _ _ hpv]at hu;simp only[qu,C9]at hu;rw[so]at D0;split at D0
    ·rename_i eii;subst eii
     injection D0 with D0
     subst D0;rw[Dv _ _ _ hpl]at hj;split at hj
     ·rename_i hin;rw[bd (by omega)]at hu
      have e0:i*sz+j-(i*sz+off)=j-off:=by omega
      rw[e0]at hu;exact hv (j-off) x u hj (by simpa using hu)
     rename_i hin;rw[al (by omega)]at hu;exact h7 i e j x u hei hj (by simpa using hu)
    rename_i eii
    have hjs:j<sz:=by have:=h6 i' e' D0;have:=(aw.1 hj).1;omega
    have aH4:i'<dm.length:=(aw.1 D0).1
    have aBu:¬(i*sz+off≤i'*sz+j∧i'*sz+j<i*sz+off+xs.length):=by
     rintro⟨a1,a2⟩;rcases amq eii with hlt|hgt
     ·have:(i+1)*sz≤i'*sz:=fh _ hlt;rw[jn,Bt]at this;omega
     have:(i'+1)*sz≤i*sz:=fh _ hgt;rw[jn,Bt]at this;omega
    rw[al aBu]at hu;exact h7 i' e' j x u D0 hj (by simpa using hu)
   cases tn
  cases tn
 cases tn
theorem a1e(h:jf B0 w0 nt G0 s G E a w){t:TypeId}{n:Nat}{x:V}{ad:Value}{xs:List C}{v:Value}{e:a7y}(hs:lg P t=some n)
  (tn:za s n xs x=some e)(hx:iw G E s x ad)(C9:v.cells.size=xs.length)
  (hv:∀(j:Nat) (c:C) (u:Value),xs[j]? =some c→v.cells[j]? =some u→yq G E s c u)(Bm:xs.all (C.one s)=true→∀u∈v.cells.toList,u.oneCell'=true):
  ∃w' id b,(aFp t ad v).run P w= .ok () w'∧e=([],.set id b)∧jf B0 w0 nt G0 {s with dc:=l7 s.dc id (some b)} G E a w':=by
 unfold aFp
 cases x with
 |ie id av off=>
  simp only[za]at tn;split at tn
  ·rename_i cs Iu;split at tn
   ·rename_i hle
    injection tn with tn
    subst tn;obtain⟨e1,e2⟩:=ve Iu;have:=hx.2 e1 ⟨_,e2,rfl⟩;subst this;obtain⟨cells,et,Ku,hn,hh,hw⟩:=h.yl e2;obtain⟨hl,hc⟩:=hh;simp only[cn,zu,bm];rw[Ny hs (by omega) Ku (by omega) (Bm hle.1)]
    have hpl:off+xs.length≤cs.length:=by omega
    have hpv:off+v.cells.toList.length≤cells.toList.length:=by simp;omega
    refine⟨_,id,_,rfl,rfl,h.set e2 .loc (Ao.setRow Ku _) (by simp[r8 _ _ _ hpv,hn]) ⟨by simp[r8 _ _ _ hpl,r8 _ _ _ hpv,hl],fun j c u hj hu=>?_⟩⟩;rw[Dv _ _ _ hpl]at hj;rw[Ab,Dv _ _ _ hpv]at hu;simp only[qu,C9]at hu;split at hj
    ·rename_i hin;rw[bd hin]at hu;exact hv _ c u hj (by simpa using hu)
    rename_i hin;rw[al hin]at hu;exact hc j c u hj (by simpa using hu)
   cases tn
  cases tn
 |Hw id av ln i off=>
  simp only[za]at tn;split at tn
  ·rename_i sz dm he;split at tn
   ·rename_i e ds hei hds;split at tn
    ·rename_i hle
     injection tn with tn
     subst tn;obtain⟨e1,e2⟩:=yj he;obtain⟨_,k2⟩:=hx.2 e1 sz dm.length (xj e2);have:=k2 hle.2.1;subst this;obtain⟨cells,et,Ku,hn,hh,hw⟩:=h.yl e2;obtain⟨h5,h6,h7⟩:=hh;have exs:=Ry hds;subst exs;rw[ag]at C9;simp only[cn,zu,bm];have hel:=h6 i e hei;have hil:i<dm.length:=(aw.1 hei).1;have hb:(i+1)*sz≤dm.length*sz:=fh _ hil;rw[jn,Bt]at hb;have h3:=hle.2.2.1;have h4:=hle.2.2.2;rw[Ny hs (by omega) Ku (by omega) (Bm hle.1)]
     have hpl:off+ds.length≤e.length:=by omega
     have hpv:i*sz+off+v.cells.toList.length≤cells.toList.length:=by simp;omega
     refine⟨_,id,_,rfl,rfl,h.set e2 (.arr (by simp)) (Ao.setRow Ku _) (by simp[r8 _ _ _ hpv,hn]) ⟨by simp[r8 _ _ _ hpv];exact h5,fun i' e' D0=>?_,fun i' e' j x u D0 hj hu=>?_⟩⟩
     ·rw[so]at D0;split at D0
      ·injection D0 with D0;subst D0;rw[r8 _ _ _ hpl];exact hel
      exact h6 i' e' D0
     rw[Ab,Dv _ _ _ hpv]at hu;simp only[qu,C9]at hu;rw[so]at D0;split at D0
     ·rename_i eii;subst eii
      injection D0 with D0
      subst D0;rw[Dv _ _ _ hpl]at hj;split at hj
      ·rename_i hin;rw[bd (by omega)]at hu
       have e0:i*sz+j-(i*sz+off)=j-off:=by omega
       rw[e0]at hu;exact hv (j-off) (.d x) u (by simp[hj]) (by simpa using hu)
      rename_i hin;rw[al (by omega)]at hu;exact h7 i e j x u hei hj (by simpa using hu)
     rename_i eii
     have hjs:j<sz:=by have:=h6 i' e' D0;have:=(aw.1 hj).1;omega
     have aH4:i'<dm.length:=(aw.1 D0).1
     have aBu:¬(i*sz+off≤i'*sz+j∧i'*sz+j<i*sz+off+ds.length):=by
      rintro⟨a1,a2⟩;rcases amq eii with hlt|hgt
      ·have:(i+1)*sz≤i'*sz:=fh _ hlt;rw[jn,Bt]at this;omega
      have:(i'+1)*sz≤i*sz:=fh _ hgt;rw[jn,Bt]at this;omega
     rw[al aBu]at hu;exact h7 i' e' j x u D0 hj (by simpa using hu)
    cases tn
   exact Y1 h hs tn hx C9 hv Bm
  exact Y1 h hs tn hx C9 hv Bm
 |_=>cases tn
end
section
variable{P:Program}{B0 nt:Nat}{w0 w w':World}{G0 G G':gq}{s s':PS}{E E':Env}{a:Act}
theorem a6s{f:Field}{n:Nat}(hn:lg P f.type=some n)(h0:n≠0)(b o:Nat)(w:World):(fieldPlace ⟨b,o,none⟩ f).run P w= .ok ⟨b,o+f.offset,none⟩ w:=by
 unfold fieldPlace;simp only[cn,sn hn,bm];rw[al h0];simp[Ev]
theorem aal{off:Nat}{x y:V}{v:Value}(hf:Rs s off x=some y)(hv:iw G E s x v):∃b o,v= .pointer (some ⟨b,o,none⟩)∧iw G E s y (.pointer (some ⟨b,o+off,none⟩)):=by
 cases x with
 |ie id av o=>
  simp only[Rs]at hf;split at hf
  ·rename_i cs hc
   injection hf with hf
   subst hf;obtain⟨e1,e2⟩:=ve hc;have:=hv.2 e1 ⟨_,e2,rfl⟩;subst this;exact⟨_,_,rfl,hv.1,fun _ _=>rfl⟩
  cases hf
 |Hw id av ln i o=>
  simp only[Rs]at hf;split at hf
  ·rename_i sz dm he;split at hf
   ·rename_i hl
    injection hf with hf
    subst hf;obtain⟨e1,e2⟩:=Gh he;obtain⟨k1,k2⟩:=hv.2 e1 sz dm e2;have:=k2 hl;subst this;refine⟨_,_,rfl,hv.1,fun e sz' Tp hb=>?_⟩;rw[e2]at hb
    injection hb with hb
    injection hb with hb1 hb2
    subst hb1 hb2;exact⟨k1,fun _=>by rw[rv]⟩
   cases hf
  cases hf
 |d z=>
  cases z with
  |uw cells o=>
   simp only[Rs,ak]at hf;subst hf
   cases hv with
   | @uw _ b o' _ k1 k2=>exact⟨b,o'+o,rfl,by rw[rv];exact i6.uw k1 k2⟩
  |_=>cases hf
 |_=>cases hf
theorem apj{t:TypeId}{fs:Array Field}{i n:Nat}{f:Field}{x y:V}{v:Value}(hu:P.underlying t=some (.struct fs))(hi:fs[i]? =some f)(hn:lg P f.type=some n)(h0:n≠0)
  (hf:Rs s f.offset x=some y)(hv:iw G E s x v):∃u,(Instr.fieldAt t v i).run P w= .ok u w∧iw G E s y u:=by
 obtain⟨b,o,rfl,hy⟩:=aal hf hv;refine⟨_,?_,hy⟩;unfold Instr.fieldAt;simp only[cn,underlying,run_program,bm,hu,ep,hi,zu,a6s hn h0]
theorem Rw(k:IntKind)(n:Int)(w:World):(asIntOf (.int k n)).run P w= .ok (k,n) w:=rfl
theorem ajl{t e:TypeId}{len n:Nat}{k:IntKind}{i:Int}{x y:V}{v:Value}(hu:P.underlying t=some (.array len e))(hn:lg P e=some n)(h0:0≤i)(h1:i<len)
  (hf:Rs s (i.toNat*n) x=some y)(hv:iw G E s x v):∃u,(aIx t v (.int k i)).run P w= .ok u w∧iw G E s y u:=by
 obtain⟨b,o,rfl,hy⟩:=aal hf hv;refine⟨_,?_,hy⟩;unfold aIx;simp only[cn,Rw,bm,underlying,run_program,hu,ep,zu,sn hn,bd (aLt h0 h1),Ev]
theorem aji(h:jf B0 w0 nt G0 s G E a w){t e:TypeId}{n:Nat}{k:IntKind}{i:Int}{x y:V}{v:Value}(hu:P.underlying t=some (.slice e))(hn:lg P e=some n)
  (hf:Ke s n i x=some y)(hv:iw G E s x v):∃u,(aIx t v (.int k i)).run P w= .ok u w∧iw G E s y u:=by
 have run:∀(b o len cap:Nat),0≤i→i<len→(aIx t (.slice (some ⟨b,o,none⟩) len cap) (.int k i)).run P w= .ok (.pointer (some ⟨b,o+i.toNat*n,none⟩)) w:=by
  intro b o len cap h0 h1;unfold aIx;simp only[cn,Rw,bm,underlying,run_program,hu,ep,sn hn,bd (aLt h0 h1),Ev]
 cases x with
 |ref id av len=>
  simp only[Ke]at hf;split at hf
  ·rename_i sz dm he;split at hf
   ·rename_i hl
    injection hf with hf
    subst hf;obtain⟨e1,e2⟩:=Gh he;obtain⟨k1,k2⟩:=hv.2 e1 sz dm e2;obtain⟨cap,c1,c2,rfl⟩:=k2 hl.2.1;refine⟨_,run _ _ _ _ hl.2.2.1 hl.2.2.2,hv.1,fun e sz' Tp hb=>?_⟩;rw[e2]at hb
    injection hb with hb
    injection hb with hb1 hb2
    subst hb1 hb2;have:=hl.1;subst this;exact⟨k1,fun _=>by rw[gd,Af]⟩
   cases hf
  cases hf
 |d z=>
  cases z with
  |gz sz l=>
   simp only[Ke]at hf;split at hf
   ·rename_i h0;split at hf
    ·rename_i e he
     injection hf with hf
     subst hf;obtain⟨h0,rfl⟩:=h0;have hil:=(aw.1 he).1
     cases hv with
     | @gz _ _ b o c hc hs k1 k2=>
      refine⟨_,run _ _ _ _ h0 (by omega),?_⟩;have hel:=hs _ e he;have:=i6.uw (G:=G) (cells:=e) (b:=b) (o:=o+i.toNat*sz) (off:=0) (fun j hj=>k1 _ j hil (by omega)) (fun j x v hx hv=>k2 _ e j x v he hx hv);exact this
     |Vq=>simp at hil
     |Y2=>simp at hil
    cases hf
   cases hf
  |_=>cases hf
 |Kr id av ln sz=>
  simp only[Ke]at hf;split at hf
  ·rename_i hl
   injection hf with hf
   subst hf;obtain⟨cs,hc⟩:=ke.1 hl.1;obtain⟨e1,e2⟩:=ve hc;have:=hv.2 e1 ⟨_,e2,rfl⟩;subst this;exact⟨_,run _ _ _ _ hl.2.2.1 hl.2.2.2,hv.1,fun _ _=>by rw[gd]⟩
  cases hf
 |_=>cases hf
def TK.fits:TK→TypeDesc→Bool
 | .str,.string| .gz,.slice _| .map,.map _ _| .ptr,.pointer _| .fn,.func .. =>true
 |_,_=>false
theorem Ge{r:Nat}{ents:Array MapEntry}{clock:Nat}(hr:w.heap[r]? =some (.map ents clock)):(getObj r).run P w= .ok (.map ents clock) w:=by
 simp only[getObj,Sem.run,hr]
theorem aoy(h:jf B0 w0 nt G0 s G E a w){t:TypeId}{d:TypeDesc}{k:TK}{x:V}{n:Int}{v:Value}{ty:TypeId}{args:Array Value}{Ew:Array TypeId}(ha:args[0]? =some v)(hat:Ew[0]? =some t)(hu:P.underlying t=some d)
  (hd:k.fits d=true)(hf:P0 s k x=some n)(hv:iw G E s x v):
  (aKv Ew ty args).run P w= .ok (.int ab n) w:=by
 unfold aKv;rw[ha,hat];simp only[cn,underlying,run_program,bm,hu,ep];unfold P0 at hf;split at hf
 ·injection hf with hf
  subst hf;cases d<;>simp[TK.fits]at hd;cases hv<;>simp[goInt]
 ·injection hf with hf
  subst hf;cases d<;>simp[TK.fits]at hd;cases hv;simp[goInt]
 ·injection hf with hf
  subst hf;cases d<;>simp[TK.fits]at hd;cases hv;simp[goInt]
 ·injection hf with hf
  subst hf;cases d<;>simp[TK.fits]at hd;cases hv;simp[goInt]
 ·injection hf with hf
  subst hf;cases d<;>simp[TK.fits]at hd;cases hv;simp[goInt]
 ·injection hf with hf
  subst hf;cases d<;>simp[TK.fits]at hd
  cases hv with
  |map h0 hl _ _=>
   obtain⟨ents,clock,hh,he⟩:=h.gok.mv _ _ h0;have C9:=congrArg Gz he;simp only[ag,qu]at C9;simp[goInt,Ge hh,C9,hl]
 ·split at hf
  ·rename_i sz dm he;split at hf
   ·rename_i hl
    injection hf with hf
    subst hf;obtain⟨e1,e2⟩:=Gh he;obtain⟨k1,k2⟩:=hv.2 e1 sz dm e2;obtain⟨cap,c1,c2,rfl⟩:=k2 hl;cases d<;>simp[TK.fits]at hd;simp[goInt]
   cases hf
  cases hf
 ·split at hf
  ·rename_i es he
   injection hf with hf
   subst hf;obtain⟨e1,e2⟩:=Fi he;have:=hv.2 e1 (by rw[e2];rfl);subst this;obtain⟨_,_,ents,clock,hh,hl,_⟩:=h.mp _ es e2;cases d<;>simp[TK.fits]at hd;simp[goInt,Ge hh,hl]
  cases hf
 ·split at hf
  ·rename_i sz dm he;split at hf
   ·rename_i hl
    injection hf with hf
    subst hf;obtain⟨e1,e2⟩:=Gh he;obtain⟨k1,k2⟩:=hv.2.2 e1 sz dm e2;obtain⟨C,cap,off,c1,c2,c3,c4,c5,rfl⟩:=k2 hl;cases d<;>simp[TK.fits]at hd;simp[goInt]
   cases hf
  cases hf
 ·split at hf
  ·rename_i hl
   injection hf with hf
   subst hf;obtain⟨cs,hc⟩:=ke.1 hl;obtain⟨e1,e2⟩:=ve hc;have:=hv.2 e1 ⟨_,e2,rfl⟩;subst this;cases d<;>simp[TK.fits]at hd;simp[goInt]
  cases hf
 cases hf
theorem ajk{t:TypeId}{b:ByteArray}{k:IntKind}{i:Int}{u:UInt8}(hu:P.underlying t=some .string)(hi:(if 0≤i then b[i.toNat]? else none)=some u):
  (aL8 t (.string b) (.int k i)).run P w= .ok (.int .u8 u.toNat) w:=by
 unfold aL8;simp only[cn,Rw,bm,underlying,run_program,hu,ep,hi]
theorem afb{t:TypeId}{n off:Nat}{g:Bool}{cs:List C}{vs:Array Value}(hs:lg P t=some n)(hg:B9 P t=some g)(h1:g=true∨n=1)(hl:off+n≤cs.length)(C9:vs.size=cs.length)
  (hr:∀(i:Nat) (c:C) (u:Value),cs[i]? =some c→vs[i]? =some u→yq G E s c u):∃u,(part t vs off).run P w= .ok u w∧iw G E s (mkv g ((cs.drop off).take n)) u:=by
 unfold part;simp only[cn,Zq hg,bm]
 have get:∀i c,((cs.drop off).take n)[i]? =some c→i<n∧cs[off+i]? =some c:=by
  intro i c hc;rw[jv]at hc;split at hc
  ·rename_i hi;rw[og]at hc;exact⟨hi,hc⟩
  cases hc
 cases g with
 |true=>
  simp only[cz,cn,sn hs,bm,ep];refine⟨_,rfl,?_⟩
  have rel:∀(i:Nat) (c:C) (u:Value),((cs.drop off).take n)[i]? =some c→(vs.extract off (off+n))[i]? =some u→yq G E s c u:=by
   intro i c u hc hu;obtain⟨hi,hc⟩:=get i c hc;refine hr (off+i) c u hc ?_;rw[a2p]at hu;split at hu
   ·exact hu
   cases hu
  unfold mkv
  cases hd:Lo ((cs.drop off).take n)with
  |some ds=>
   have e:=Ry hd;have el:=congrArg Gz e;simp at el;refine i6.agg (by simp;omega) fun i x v hx hv=>rel i (.d x) v (by rw[e];simp[hx]) hv
  |none=>exact F4.2 ⟨_,rfl,by simp;omega,rel⟩
 |false=>
  have hn1:n=1:=by simpa using h1
  subst hn1
  have hlt:off<vs.size:=by omega
  have dq:off<cs.length:=by omega
  refine⟨vs[off],by simp[bh hlt],?_⟩
  have e:(cs.drop off).take 1=[cs[off]]:=by rw[jj dq];rfl
  rw[e];unfold mkv;simp only[];exact hr off cs[off] vs[off] (ax dq) (bh hlt)
theorem a6o{t:TypeId}{fs:Array Field}{i n:Nat}{f:Field}{g:Bool}{cs:List C}{vs:Array Value}(hu:P.underlying t=some (.struct fs))(hi:fs[i]? =some f)(hs:lg P f.type=some n)(hg:B9 P f.type=some g)(h1:g=true∨n=1)
  (hl:f.offset+n≤cs.length)(C9:vs.size=cs.length)(hr:∀(i:Nat) (c:C) (u:Value),cs[i]? =some c→vs[i]? =some u→yq G E s c u):
  ∃u,(Instr.field t (.agg vs) i).run P w= .ok u w∧iw G E s (mkv g ((cs.drop f.offset).take n)) u:=by
 obtain⟨u,h2,h3⟩:=afb (P:=P) (w:=w) (off:=f.offset) hs hg h1 hl C9 hr;refine⟨u,?_,h3⟩;unfold Instr.field;simp only[cn,underlying,run_program,bm,hu,ep,hi,asAgg,h2]
theorem ajh{t e:TypeId}{len n:Nat}{k:IntKind}{i:Int}{g:Bool}{cs:List C}{vs:Array Value}(hu:P.underlying t=some (.array len e))(hs:lg P e=some n)(hg:B9 P e=some g)(h1:g=true∨n=1)
  (h0:0≤i)(hi:i<len)(hl:i.toNat*n+n≤cs.length)(C9:vs.size=cs.length)(hr:∀(i:Nat) (c:C) (u:Value),cs[i]? =some c→vs[i]? =some u→yq G E s c u):
  ∃u,(aL8 t (.agg vs) (.int k i)).run P w= .ok u w∧iw G E s (mkv g ((cs.drop (i.toNat*n)).take n)) u:=by
 obtain⟨u,h2,h3⟩:=afb (P:=P) (w:=w) (off:=i.toNat*n) hs hg h1 hl C9 hr;refine⟨u,?_,h3⟩;unfold aL8;simp only[cn,Rw,bm,underlying,run_program,hu,ep,bd (aLt h0 hi),sn hs,h2]
theorem ap2{op:BinOp}{k:IntKind}{x y:Int}{r:D}(h:a1r op k x y=some r)(hs:op≠ .shl∧op≠ .shr)(t:TypeId):
  ∃u,(binOp op t (.int k x) (.int k y)).run P w= .ok u w∧i6 G r u:=by
 cases op<;>simp only[a1r]at h<;>(try simp at hs)<;>simp only[binOp,ne_eq,not_true_eq_false,bn]
 case quo=>
  split at h
  ·cases h
  rename_i hy
  injection h with h
  subst h;exact⟨.int k (k.wrap (x.tdiv y)),by simp[Op.intDiv,hy],.int⟩
 case rem=>
  split at h
  ·cases h
  rename_i hy
  injection h with h
  subst h;exact⟨.int k (x.tmod y),by simp[Op.intDiv,hy],.int⟩
 all_goals
  injection h with h
  subst h;simp only[Op.intArith,Op.intBits,Op.intCmp,ep];exact⟨_,rfl,by constructor⟩
theorem anf{op:BinOp}{k k':IntKind}{x y:Int}{r:D}(h:a1r op k x y=some r)(hs:op= .shl∨op= .shr)(t:TypeId):
  ∃u,(binOp op t (.int k x) (.int k' y)).run P w= .ok u w∧i6 G r u:=by
 rcases hs with rfl|rfl<;>simp only[a1r]at h
 all_goals
  split at h
  ·cases h
  rename_i hy
  injection h with h
  subst h;simp only[binOp,Op.shift,al hy,ep];exact⟨_,rfl,by constructor⟩
theorem ana{op:BinOp}{x y:ByteArray}{r:D}(h:ala op x y=some r)(t:TypeId):
  ∃u,(binOp op t (.string x) (.string y)).run P w= .ok u w∧i6 G r u:=by
 cases op<;>simp only[ala]at h<;>(try cases h)<;>simp only[binOp,Op.stringOp,ep]
 case add=>
  split at h
  ·rename_i hl
   injection h with h
   subst h;rw[al (by simp[IntKind.max,IntKind.bits,aKc]at*;omega)];exact⟨_,rfl,.str⟩
  cases h
 all_goals exact⟨_,rfl,by constructor⟩
theorem Ro{op:BinOp}{a b:Value}(t:TypeId)(ox oy:Operand)(h1:∀c,a≠ .agg c)(h2:a≠ .nilIface):(eqGuard op t ox oy a b).run P w= .ok () w:=by
 unfold eqGuard;cases op<;>simp<;>(cases a<;>simp_all)
theorem ap8{op:BinOp}{k k':IntKind}{a b:Int}(t:TypeId)(ox oy:Operand):(eqGuard op t ox oy (.int k a) (.int k' b)).run P w= .ok () w:=Ro t ox oy (by simp) (by simp)
theorem ap7{op:BinOp}{a b:ByteArray}(t:TypeId)(ox oy:Operand):(eqGuard op t ox oy (.string a) (.string b)).run P w= .ok () w:=Ro t ox oy (by simp) (by simp)
theorem aq6{op:BinOp}{x y r:D}(h:a9i op x y=some r){u v:Value}(hx:i6 G x u)(hy:i6 G y v)(t:TypeId)(ox oy:Operand):
  ∃z,(do eqGuard op t ox oy u v;binOp op t u v:Sem Value).run P w= .ok z w∧i6 G r z:=by
 unfold a9i at h;split at h
 ·cases hx;cases hy;split at h
  ·rename_i hop;simp only[cn,ap8,bm];by_cases hs:op= .shl∨op= .shr
   ·exact anf h hs t
   have:op≠ .shl∧op≠ .shr:=⟨fun e=>hs (.inl e),fun e=>hs (.inr e)⟩;have hk:=(hop.resolve_left this.1).resolve_left this.2;subst hk;exact ap2 h this t
  cases h
 ·cases hx;cases hy;simp only[cn,ap7,bm];exact ana h t
 cases h
theorem ak4{t:TypeId}(hu:P.underlying t=some .bool)(a b:Bool):(aJj t (.bool a) (.bool b)).run P w= .ok (a==b) w:=by
 unfold aJj aL6 aLh;simp only[cn,underlying,run_program,bm,hu,ep]
theorem aq7{op:BinOp}(hop:op= .eql∨op= .neq){t:TypeId}(hu:P.underlying t=some .bool)(a b:Bool)(ox oy:Operand):
  (do eqGuard op t ox oy (.bool a) (.bool b);binOp op t (.bool a) (.bool b):Sem Value).run P w= .ok (.bool (if decide (op= .neq)then !(a==b)else a==b)) w:=by
 simp only[cn,Ro t ox oy (a:= .bool a) (by simp) (by simp),bm];rcases hop with rfl|rfl<;>simp[binOp,ak4 hu]
theorem a5x{k:TK}{x:V}{b:Bool}(hn:isNil s k x=some b){v:Value}(hv:iw G E s x v):
  (k= .ptr→∃a,v= .pointer a∧b=a.isNone)∧(k= .gz→∃a l c,v= .slice a l c∧b=a.isNone)∧(k= .map→∃a,v= .map a∧b=a.isNone)∧
  (k= .fn→(v= .nilFunc∧b=true)∨∃f x y,v= .func f x y∧b=false)∧k≠ .str:=by
 have cl:∀{o:Option (List C)},o.isSome=true→∃cs,o=some cs:=fun h=>ke.1 h;unfold isNil at hn;split at hn
 all_goals first
  |(injection hn with hn;subst hn;cases hv;simp;done)
  |(injection hn with hn;subst hn;cases hv<;>simp;done)
  |skip
 ·split at hn
  ·rename_i hl
   injection hn with hn;subst hn
   simp only[V.live]at hl;split at hl
   ·rename_i sz dm he;obtain⟨e1,e2⟩:=Gh he;obtain⟨_,k2⟩:=hv.2 e1 sz dm e2;obtain⟨cap,_,_,rfl⟩:=k2 (by simpa using hl);simp
   cases hl
  cases hn
 ·split at hn
  ·rename_i hl
   injection hn with hn;subst hn
   simp only[V.live]at hl;obtain⟨cs,hc⟩:=cl hl;obtain⟨e1,e2⟩:=ve hc;have:=hv.2 e1 ⟨_,e2,rfl⟩;subst this;simp
  cases hn
 ·split at hn
  ·rename_i hl
   injection hn with hn;subst hn
   simp only[V.live]at hl;split at hl
   ·rename_i sz dm he;obtain⟨e1,e2⟩:=Gh he;obtain⟨_,k2⟩:=hv.2 e1 sz dm e2;have:=k2 (by simpa using hl);subst this;simp
   cases hl
  cases hn
 ·split at hn
  ·rename_i hl
   injection hn with hn;subst hn
   simp only[V.live]at hl;obtain⟨es,hc⟩:=ke.1 hl;obtain⟨e1,e2⟩:=Fi hc;have:=hv.2 e1 (by rw[e2];rfl);subst this;simp
  cases hn
 ·split at hn
  ·rename_i hl
   injection hn with hn;subst hn
   simp only[V.live,dj]at hl
   have:=hv.2 (fun p hp=>by
    obtain⟨cs,hc⟩:=cl (hl p hp);obtain⟨e1,e2⟩:=ve hc
    exact⟨e1,_,e2,rfl⟩)
   subst this;simp
  cases hn
 cases hn
end
section
variable{P:Program}{B0 nt:Nat}{w0 w w':World}{G0 G G':gq}{s s':PS}{E E':Env}{a:Act}
def TK.Tg:TK→Value
 | .ptr=> .pointer none
 | .gz=> .slice none 0 0
 | .map=> .map none
 | .fn=> .nilFunc
 | .str=> .pointer none
theorem a1q{k:TK}{x:Operand}(h:ach k x=true)(a:Act):a.eval x=k.Tg:=by
 unfold ach at h;split at h<;>simp at h<;>subst h<;>rfl
theorem binOp_eql{k:TK}{v:Value}{t:TypeId}:binOp .eql t v k.Tg=(do pure (.bool (←aJj t v k.Tg)):Sem Value)∧binOp .neq t v k.Tg=(do pure (.bool (!(←aJj t v k.Tg))):Sem Value)∧
  binOp .eql t k.Tg v=(do pure (.bool (←aJj t k.Tg v)):Sem Value)∧binOp .neq t k.Tg v=(do pure (.bool (!(←aJj t k.Tg v))):Sem Value):=by
 unfold binOp;cases k<;>cases v<;>exact⟨rfl,rfl,rfl,rfl⟩
theorem aam{k:TK}{t:TypeId}{d:TypeDesc}(hu:P.underlying t=some d)(hf:k.fits d=true){x:V}{b:Bool}(hn:isNil s k x=some b){v:Value}(hv:iw G E s x v):
  (aJj t v k.Tg).run P w= .ok b w∧(aJj t k.Tg v).run P w= .ok b w∧(∀c,v≠ .agg c)∧v≠ .nilIface:=by
 obtain⟨hp,hs,hm,hfn,aGt⟩:=a5x hn hv;unfold aJj aL6 aLh;simp only[cn,underlying,run_program,bm,hu,ep]
 cases k with
 |str=>exact absurd rfl aGt
 |ptr=>
  obtain⟨a,rfl,rfl⟩:=hp rfl;cases d<;>simp[TK.fits]at hf;cases a<;>simp[TK.Tg]
 |gz=>
  obtain⟨a,l,c,rfl,rfl⟩:=hs rfl;cases d<;>simp[TK.fits]at hf;cases a<;>simp[TK.Tg]
 |map=>
  obtain⟨a,rfl,rfl⟩:=hm rfl;cases d<;>simp[TK.fits]at hf;cases a<;>simp[TK.Tg]
 |fn=>
  cases d<;>simp[TK.fits]at hf;rcases hfn rfl with ⟨rfl,rfl⟩|⟨f,y,z,rfl,rfl⟩<;>simp[TK.Tg]
theorem a5i(k:TK):(∀c,k.Tg≠ .agg c)∧k.Tg≠ .nilIface:=by cases k<;>simp[TK.Tg]
theorem afy{op:BinOp}{x y:Operand}{k:TK}{oa ob:nk}{r:jy}(hc:a14 op x y k oa ob=some r){t:TypeId}{d:TypeDesc}(hu:P.underlying t=some d)(hf:k.fits d=true)
  (ha:iw G E s (oa.ev s) (a.eval x))(hb:iw G E s (ob.ev s) (a.eval y)){dst:Nat}{ids:List Nat}{e:mc}(he:r.p9 dst s=some (ids,e)):
  ∃z v,(do eqGuard op t x y (a.eval x) (a.eval y);binOp op t (a.eval x) (a.eval y):Sem Value).run P w= .ok z w∧ids=[]∧e= .val v∧iw G E s v z:=by
 unfold a14 at hc;split at hc
 ·rename_i hop;split at hc
  ·rename_i hy
   injection hc with hc
   subst hc;simp only[jy.p9,aq]at he;obtain⟨b,hn,he⟩:=he
   injection he with h1 h2
   subst h1 h2;obtain⟨k1,k2,k3,k4⟩:=aam (P:=P) (w:=w) hu hf hn ha;rw[a1q hy a];simp only[cn,Ro t x y k3 k4,bm]
   refine⟨.bool (if decide (op= .neq)then !b else b),_,?_,by first|rfl|trivial,rfl,.bool⟩
   have k5:=(a5i k);rcases hop with rfl|rfl
   ·rw[binOp_eql.1];simp[k1]
   rw[binOp_eql.2.1];simp[k1]
  split at hc
  ·rename_i hx
   injection hc with hc
   subst hc;simp only[jy.p9,aq]at he;obtain⟨b,hn,he⟩:=he
   injection he with h1 h2
   subst h1 h2;obtain⟨k1,k2,k3,k4⟩:=aam (P:=P) (w:=w) hu hf hn hb;rw[a1q hx a];have k5:=(a5i k);simp only[cn,Ro t x y k5.1 k5.2,bm]
   refine⟨.bool (if decide (op= .neq)then !b else b),_,?_,by first|rfl|trivial,rfl,.bool⟩
   rcases hop with rfl|rfl
   ·rw[binOp_eql.2.2.1];simp[k2]
   rw[binOp_eql.2.2.2];simp[k2]
  cases hc
 cases hc
theorem aql{op:UnOp}{x:nk}{v:Value}(hv:iw G E s (x.ev s) v){e:a7y}{d:Nat}(he:(jy.un op x).p9 d s=some e):∃z y,(Op.unary op v).run P w= .ok z w∧e=mc.tj y∧iw G E s y z:=by
 simp only[jy.p9]at he;split at he
 ·rename_i b hx;rw[hx]at hv
  injection he with he;subst he;cases hv;exact⟨_,_,rfl,rfl,.bool⟩
 ·rename_i k n hx;rw[hx]at hv
  injection he with he;subst he;cases hv;exact⟨_,_,rfl,rfl,.int⟩
 cases he
theorem ako{src dst:TypeId}{k k':IntKind}{d0:TypeDesc}(h0:P.underlying src=some d0)(h1:P.underlying dst=some (.int k))(n:Int):
  (convert src dst (.int k' n)).run P w= .ok (.int k (k.wrap n)) w:=by
 unfold convert;simp only[cn,underlying,run_program,bm,h0,h1,ep];cases d0<;>simp[Conv.intToInt]
theorem ah7{src dst:TypeId}(h0:P.underlying src=some .string)(h1:P.underlying dst=some .string)(b:ByteArray):
  (convert src dst (.string b)).run P w= .ok (.string b) w:=by
 unfold convert;simp only[cn,underlying,run_program,bm,h0,h1,ep]
theorem a9g{vs:List D}{i:Nat}{x:D}(hi:vs[i]? =some x){v:Value}(hv:i6 G (.Ar vs) v):∃u,(aK2 v i).run P w= .ok u w∧i6 G x u:=by
 cases hv with
 | @Ar _ us hl hh=>
  have hlt:i<us.size:=by have:=(aw.1 hi).1;omega
  refine⟨us[i],?_,hh i x _ hi (bh hlt)⟩;simp[aK2,bh hlt]
def LK.fits:LK→TypeDesc→Bool
 | .bool,.bool| .int,.int _| .str,.string=>true
 |_,_=>false
theorem at3{k:LK}{t:TypeId}{d:TypeDesc}(hu:P.underlying t=some d)(hd:k.fits d=true){x y:D}{b:Bool}(he:Ow k x y=some b){u v:Value}(hx:i6 G x u)(hy:i6 G y v)(n:Nat):
  (aLh (n+1) t u v).run P w= .ok b w:=by
 unfold aLh;simp only[cn,underlying,run_program,bm,hu,ep];unfold Ow at he;split at he
 ·split at he
  ·rename_i h;subst h
   injection he with he
   subst he;cases hx;cases hy;cases d<;>simp[LK.fits]at hd;simp
  cases he
 ·injection he with he
  subst he;cases hx;cases hy;cases d<;>simp[LK.fits]at hd;simp
 ·injection he with he
  subst he;cases hx;cases hy;cases d<;>simp[LK.fits]at hd;simp
 cases he
def Fq(g:Bool)(us:Array Value):Value:=if g then .agg us else us.getD 0 undef
def Row(G:gq)(xs:List D)(us:Array Value):Prop:=us.size=xs.length∧∀(i:Nat) (x:D) (u:Value),xs[i]? =some x→us[i]? =some u→i6 G x u
theorem Row.sub{xs:List D}{us:Array Value}(h:Row G xs us)(off n:Nat)(hl:off+n≤xs.length):Row G ((xs.drop off).take n) (us.extract off (off+n)):=by
 obtain⟨h1,h2⟩:=h;refine⟨by simp;omega,fun i x u hx hu=>?_⟩;rw[jv]at hx;split at hx
 ·rw[og]at hx;rw[a2p]at hu;split at hu
  ·exact h2 _ x u hx hu
  cases hu
 cases hx
theorem Lg{t:TypeId}{n off:Nat}{g:Bool}{us:Array Value}(hs:lg P t=some n)(hg:B9 P t=some g)(h1:g=true∨n=1)(hl:off+n≤us.size):
  (part t us off).run P w= .ok (Fq g (us.extract off (off+n))) w:=by
 unfold part Fq;simp only[cn,Zq hg,bm]
 cases g with
 |true=>simp[sn hs]
 |false=>
  have hn1:n=1:=by simpa using h1
  subst hn1
  have hlt:off<us.size:=by omega
  have e:(us.extract off (off+1)).getD 0 undef=us[off]:=by
   rw[jd,a2p,bd (by omega)];simp[hlt]
  simp[bh hlt,e]
theorem Rc:∀{ks:List LK} {x y:List D} {b:Bool},Bc ks x y=some b→x.length=ks.length∧y.length=ks.length:=by
 intro ks
 induction ks with
 |nil=>intro x y b h;cases x<;>cases y<;>simp_all [Bc]
 |cons k ks ih=>
  intro x y b h
  cases x with
  |nil=>simp[Bc]at h
  |cons a x=>
   cases y with
   |nil=>simp[Bc]at h
   |cons c y=>
    simp only[Bc]at h;split at h
    ·rename_i p q h1 h2;obtain⟨k1,k2⟩:=ih h2;exact⟨by simp[k1],by simp[k2]⟩
    cases h
theorem Y9:∀{l m:List LK} {x y:List D} {b:Bool},Bc (l++m) x y=some b→∃p q,Bc l (x.take l.length) (y.take l.length)=some p∧Bc m (x.drop l.length) (y.drop l.length)=some q∧b=(p&&q):=by
 intro l
 induction l with
 |nil=>intro m x y b h;exact⟨true,b,by simp[Bc],by simpa using h,by simp⟩
 |cons k l ih=>
  intro m x y b h
  cases x with
  |nil=>simp[Bc]at h
  |cons a x=>
   cases y with
   |nil=>simp[Bc]at h
   |cons c y=>
    simp only[yv,Bc]at h;split at h
    ·rename_i p q h1 h2
     injection h with h
     obtain⟨p',q',e1,e2,e3⟩:=ih h2;refine⟨p&&p',q',by simp[Bc,h1,e1],by simpa using e2,by rw[←h,e3,Bool.and_assoc]⟩
    cases h
def azf(P:Program)(G:gq)(w:World)(t:TypeId)(ks:List LK)(g:Bool)(m:Nat):Prop:=
 lg P t=some ks.length∧B9 P t=some g∧(g=true∨ks.length=1)∧
  ∀(us vs:Array Value) (xs ys:List D) (b:Bool),Row G xs us→Row G ys vs→Bc ks xs ys=some b→(aLh m t (Fq g us) (Fq g vs)).run P w= .ok b w
theorem ad2{m:Nat}(us vs:Array Value){g0:TypeId→Option (List LK)}(ih:∀(t:TypeId) (l:List LK),g0 t=some l→∃g,azf P G w t l g m):
  ∀(fs:List Field) (off:Nat) (l:List LK),Gf P g0 fs off=some l→∀(xs ys:List D) (b:Bool),Row G xs us→Row G ys vs→Bc l (xs.drop off) (ys.drop off)=some b→
  (aLa m us vs fs).run P w= .ok b w:=by
 intro fs
 induction fs with
 |nil=>
  intro off l hl xs ys b hx hy he;simp only[Gf,ak]at hl;subst hl
  have:b=true:=by
   cases h1:xs.drop off<;>cases h2:ys.drop off<;>simp_all [Bc]
  subst this;simp[aLa]
 |cons f r ihf=>
  intro off l hl xs ys b hx hy he;simp only[Gf]at hl;split at hl
  ·rename_i hn;split at hl
   ·rename_i lf hlf;split at hl
    ·rename_i hs;split at hl
     ·rename_i mr hmr
      injection hl with hl
      subst hl;obtain⟨g,k1,k2,k3,k4⟩:=ih _ _ hlf;obtain⟨p,q,e1,e2,e3⟩:=Y9 he;obtain⟨l1,l2⟩:=Rc he;simp only[yu,db]at l1 l2;have hxl:=hx.1;have hyl:=hy.1;simp only[aLa];rw[bd hn.1,hn.2]
      have hz:off+lf.length≤xs.length∧off+lf.length≤ys.length:=by omega
      have r1:=k4 _ _ _ _ p (hx.sub off lf.length hz.1) (hy.sub off lf.length hz.2) e1;simp only[cn,Lg k1 k2 k3 (show off+lf.length≤us.size by omega),Lg k1 k2 k3 (show off+lf.length≤vs.size by omega),bm,r1];have r2:=ihf (off+lf.length) mr hmr xs ys q hx hy (by rw[←amv,←amv];exact e2)
      cases p with
      |false=>simp[e3]
      |true=>simp[e3,r2]
     cases hl
    cases hl
   cases hl
  cases hl
theorem ao8{l:List LK}:∀{n:Nat} {x y:List D} {b:Bool},Bc (jb n l).flatten x y=some b→x.length=n*l.length∧y.length=n*l.length:=by
 intro n x y b h;have:=Rc h;simpa using this
theorem agt{m:Nat}{t:TypeId}{l:List LK}{g:Bool}(h:azf P G w t l g m)(h0:0<l.length)(us vs:Array Value)(xs ys:List D)(hx:Row G xs us)(hy:Row G ys vs):
  ∀(n i:Nat) (b:Bool),Bc (jb n l).flatten (xs.drop (i*l.length)) (ys.drop (i*l.length))=some b→
  (Op.eqItems m t l.length us vs (al6 i n)).run P w= .ok b w:=by
 intro n;obtain⟨k1,k2,k3,k4⟩:=h
 induction n with
 |zero=>
  intro i b he
  have:b=true:=by
   simp only[List.replicate_zero,aIu]at he;cases h1:xs.drop (i*l.length)<;>cases h2:ys.drop (i*l.length)<;>simp_all [Bc]
  subst this;simp[Op.eqItems]
 |succ n ih=>
  intro i b he;have hl:=ao8 he;rw[aJx,avf]at he;obtain⟨p,q,e1,e2,e3⟩:=Y9 he;simp only[yu,jn,Bt]at hl;have hxl:=hx.1;have hyl:=hy.1
  have hz:i*l.length+l.length≤xs.length∧i*l.length+l.length≤ys.length:=by omega
  have r1:=k4 _ _ _ _ p (hx.sub (i*l.length) l.length hz.1) (hy.sub (i*l.length) l.length hz.2) e1;rw[aIr];simp only[Op.eqItems,cn,Lg k1 k2 k3 (show i*l.length+l.length≤us.size by omega),Lg k1 k2 k3 (show i*l.length+l.length≤vs.size by omega),bm,r1];have r2:=ih (i+1) q (by rw[jn,Bt,←amv,←amv];exact e2)
  cases p with
  |false=>simp[e3]
  |true=>simp[e3,r2]
theorem ayu:∀(n:Nat) (t:TypeId) (l:List LK),Bu P n t=some l→∀m,n≤m→∃g,azf P G w t l g m:=by
 intro n
 induction n with
 |zero=>intro t l h;cases h
 |succ n ih=>
  intro t l h m hm;obtain⟨m,rfl⟩:∃k,m=k+1:=⟨m-1,by omega⟩
  have single:∀(k:LK) (d:TypeDesc),P.underlying t=some d→k.fits d=true→lg P t=some 1→∃g,azf P G w t [k] g (m+1):=by
   intro k d hu hd hs;refine⟨false,hs,?_,.inr rfl,fun us vs xs ys b hx hy he=>?_⟩
   ·unfold B9;rw[hu];cases d<;>simp[LK.fits]at hd⊢
   obtain⟨l1,l2⟩:=Rc he
   match xs,ys,l1,l2 with
   |[x],[y],_,_=>
    simp only[Bc]at he;split at he
    ·rename_i p q h1 h2
     injection h2 with h2
     subst h2
     injection he with he
     simp only[Hj]at he;subst he
     have gx:us.getD 0 undef=us[0]'(by have:=hx.1;simp at this;omega):=by simp[Array.getD,hx.1]
     have gy:vs.getD 0 undef=vs[0]'(by have:=hy.1;simp at this;omega):=by simp[Array.getD,hy.1]
     simp only[Fq,fw,bn,gx,gy];exact at3 hu hd h1 (hx.2 0 x _ rfl (bh _)) (hy.2 0 y _ rfl (bh _)) m
    cases he
  simp only[Bu]at h;split at h
  ·rename_i hu;split at h
   ·rename_i hs;injection h with h;subst h;exact single .bool _ hu rfl hs
   cases h
  ·rename_i k hu;split at h
   ·rename_i hs;injection h with h;subst h;exact single .int _ hu rfl hs
   cases h
  ·rename_i hu;split at h
   ·rename_i hs;injection h with h;subst h;exact single .str _ hu rfl hs
   cases h
  ·rename_i len e hu;split at h
   ·rename_i le hle;split at h
    ·rename_i hs
     injection h with h
     subst h;obtain⟨g,hg⟩:=ih e le hle m (by omega);refine⟨true,by simpa using hs.2.2,by unfold B9;rw[hu],.inl rfl,fun us vs xs ys b hx hy he=>?_⟩;simp only[Fq,cz]
     have hie:∃i,P.info? e=some i∧i.size=le.length:=by
      have:=hs.1;unfold lg at this;simpa[aq]using this
     obtain⟨i,hi,aH1⟩:=hie;rw[run_equalIn_array w m us vs hu hi]
     have hc:P.cellsOf e=le.length:=by simp[aFk,hi,aH1]
     rw[hc,aJn];exact agt hg hs.2.1 us vs xs ys hx hy len 0 b (by simpa using he)
    cases h
   cases h
  ·rename_i fs hu;split at h
   ·rename_i tn;split at h
    ·rename_i lf hlf;split at h
     ·rename_i hs
      injection h with h
      subst h;refine⟨true,hs,by unfold B9;rw[hu],.inl rfl,fun us vs xs ys b hx hy he=>?_⟩;simp only[Fq,cz]
      have hf:P.fieldsOf t=fs:=by unfold Program.fieldsOf;rw[hu]
      rw[run_equalIn_struct w m t us vs (by rw[hf];exact hu) tn,hf];exact ad2 us vs (fun t' l' h'=>ih t' l' h' m (by omega)) fs.toList 0 lf hlf xs ys b hx hy (by simpa using he)
     cases h
    cases h
   cases h
  cases h
end
section
variable{P:Program}{B0 nt:Nat}{w0 w w':World}{G0 G G':gq}{s s':PS}{E E':Env}{a:Act}
theorem Holds.append{c1 c2 c3:Array Value}{sz:Nat}{dm ys:List (List D)}(h1:Holds G E s c1 (.arr sz dm))(he:c1.size=dm.length*sz)(h2:Holds G E s c2 (.arr sz ys)):
  Holds G E s (c1++c2++c3) (.arr sz (dm++ys)):=by
 obtain⟨a1,a2,a3⟩:=h1;obtain⟨b1,b2,b3⟩:=h2;refine⟨by simp[jn];omega,fun i e hi=>?_,fun i e j x u hi hj hu=>?_⟩
 ·rw[Nv]at hi;split at hi
  ·exact a2 i e hi
  exact b2 _ e hi
 rw[Nv]at hi;split at hi
 ·rename_i hlt
  have hj':j<sz:=by have:=a2 i e hi;have:=(aw.1 hj).1;omega
  have hb:(i+1)*sz≤dm.length*sz:=fh _ hlt;rw[jn,Bt]at hb;refine a3 i e j x u hi hj ?_;rw[Array.append_assoc,Hi,bd (by omega)]at hu;exact hu
 rename_i hge;have hil:=(aw.1 hi).1
 have hj':j<sz:=by have:=b2 _ e hi;have:=(aw.1 hj).1;omega
 have hb:(i-dm.length+1)*sz≤ys.length*sz:=fh _ hil;rw[jn,Bt]at hb
 have hs:i*sz=dm.length*sz+(i-dm.length)*sz:=by rw[←jn];congr 1;omega
 refine b3 (i-dm.length) e j x u hi hj ?_;rw[Hi,bd (by rw[T4];omega),Hi,al (by omega)]at hu;rw[←hu]
 congr 1
 omega
theorem a6x(h:jf B0 w0 nt G0 s G E a w){y:V}{ys:List (List D)}{osz:Option Nat}{sz:Nat}(hd:qh s y=some (ys,osz))(hz:osz.getD sz=sz){v:Value}(hv:iw G E s y v):
  ∃(xb:Option Addr) (c:Nat) (news:List Value),v= .slice xb ys.length c∧news.length=ys.length*sz∧Holds G E s news.toArray (.arr sz ys)∧(∀u∈news,(ys.all fun e=>e.all D.one)=true→u.oneCell'=true)∧
   (lq sz ys.length v).run P w= .ok news.toArray w∧(lq sz ys.length v).run P w.drew= .ok news.toArray w.drew:=by
 have main:∀(b o c:Nat) (hs:∀(i:Nat) (e:List D),ys[i]? =some e→e.length=sz) (cell:Nat→Value),(∀i j,i<ys.length→j<sz→w.cell? ⟨b,o+i*sz+j,none⟩=some (cell (i*sz+j)))→
   (∀(i:Nat) (e:List D) (j:Nat) (x:D),ys[i]? =some e→e[j]? =some x→i6 G x (cell (i*sz+j)))→v= .slice (some ⟨b,o,none⟩) ys.length c→
   ∃(xb:Option Addr) (c:Nat) (news:List Value),v= .slice xb ys.length c∧news.length=ys.length*sz∧Holds G E s news.toArray (.arr sz ys)∧(∀u∈news,(ys.all fun e=>e.all D.one)=true→u.oneCell'=true)∧
   (lq sz ys.length v).run P w= .ok news.toArray w∧(lq sz ys.length v).run P w.drew= .ok news.toArray w.drew:=by
  intro b o c hs cell Ku hrel hv
  have split:∀k,k<ys.length*sz→∃i j,i<ys.length∧j<sz∧k=i*sz+j:=by
   intro k hk
   have a2w:0<sz:=by
    rcases a8b sz with h0|h0
    ·rw[h0]at hk;simp at hk
    exact h0
   refine⟨k/sz,k%sz,(aJ9 a2w).2 hk,a8a _ a2w,?_⟩;rw[aKp];exact(Nat.div_add_mod k sz).symm
  have acn:∀k u,((dt (ys.length*sz)).map cell)[k]? =some u→k<ys.length*sz∧u=cell k:=by
   intro k u hu;rw[cy]at hu;by_cases hk:k<ys.length*sz
   ·rw[Mt hk]at hu;exact⟨hk,by simpa using hu.symm⟩
   rw[a88 (by simp;omega)]at hu;cases hu
  have ag3:∀k u,((dt (ys.length*sz)).map cell)[k]? =some u→w.cell? ((⟨b,o,none⟩:Addr).add k)=some u:=by
   intro k u hu;obtain⟨hk,rfl⟩:=acn k u hu;obtain⟨i,j,hi,hj,rfl⟩:=split k hk;rw[Ev,←rv];exact Ku i j hi hj
  refine⟨_,c,(dt (ys.length*sz)).map cell,hv,by simp,⟨by simp,hs,fun i e j x u hi hj hu=>?_⟩,fun u hu Bm=>?_,?_,?_⟩
  ·obtain⟨_,rfl⟩:=acn _ u (by simpa using hu);exact hrel i e j x hi hj
  ·obtain⟨k,hk,rfl⟩:=gr.1 hu;obtain⟨i,j,hi,hj,rfl⟩:=split k (ez.1 hk);have he:ys[i]? =some ys[i]:=ax hi
   have hj':j<ys[i].length:=by rw[hs i _ he];exact hj
   refine(hrel i _ j _ he (ax hj')).afi ?_;exact dj.1 (dj.1 Bm _ (df hi)) _ (df hj')
  ·rw[hv];exact run_firstCells_some w sz ys.length _ ys.length c _ (by simp) ag3
  rw[hv];exact run_firstCells_some w.drew sz ys.length _ ys.length c _ (by simp) ag3
 have empty:∀(xb:Option Addr) (c:Nat),ys=[]→v= .slice xb 0 c→∃(xb:Option Addr) (c:Nat) (news:List Value),v= .slice xb ys.length c∧news.length=ys.length*sz∧Holds G E s news.toArray (.arr sz ys)∧(∀u∈news,(ys.all fun e=>e.all D.one)=true→u.oneCell'=true)∧
   (lq sz ys.length v).run P w= .ok news.toArray w∧(lq sz ys.length v).run P w.drew= .ok news.toArray w.drew:=by
  intro xb c hy hv;subst hy hv;refine⟨xb,c,[],rfl,by simp,⟨by simp,by simp,by simp⟩,by simp,?_,?_⟩
  ·cases xb with
   |none=>exact run_firstCells_none w sz 0 0 c
   |some b=>exact run_firstCells_some w sz 0 b 0 c [] (by simp) (by simp)
  cases xb with
  |none=>exact run_firstCells_none w.drew sz 0 0 c
  |some b=>exact run_firstCells_some w.drew sz 0 b 0 c [] (by simp) (by simp)
 unfold qh at hd;split at hd
 ·simp only[ak,cd]at hd;obtain⟨rfl,rfl⟩:=hd;cases hv;exact empty none 0 rfl rfl
 ·simp only[ak,cd]at hd;obtain⟨rfl,rfl⟩:=hd;cases hv;exact empty _ _ rfl rfl
 ·simp only[ak,cd]at hd;obtain⟨rfl,rfl⟩:=hd;simp only[jc]at hz;subst hz
  cases hv with
  |Vq=>exact empty none 0 rfl rfl
  |Y2=>exact empty _ _ rfl rfl
  | @gz _ _ b o c hc hs k1 k2=>
   refine main b o c hs (fun k=>(G.cv b (o+k)).getD undef) (fun i j hi hj=>?_) (fun i e j x he hx=>?_) rfl
   ·obtain⟨u,hu⟩:=ke.1 (k1 i j hi hj);rw[←rv,hu];exact h.gok.cv _ _ _ hu
   have hil:=(aw.1 he).1;have hjl:j<_:=(aw.1 hx).1;rw[hs i e he]at hjl;obtain⟨u,hu⟩:=ke.1 (k1 i j hil hjl);rw[←rv,hu];exact k2 i e j x u he hx hu
 ·split at hd
  ·rename_i sz' dm he;split at hd
   ·rename_i hl;simp only[ak,cd]at hd;obtain⟨rfl,rfl⟩:=hd;simp only[jc]at hz;subst hz;obtain⟨e1,e2⟩:=yj he;obtain⟨_,k2⟩:=hv.2 e1 _ _ (xj e2);obtain⟨cap,c1,c2,rfl⟩:=k2 hl;subst hl;obtain⟨cells,et,hh,hn,hc,hw⟩:=h.yl e2;obtain⟨h5,h6,h7⟩:=hc
    have hlt:∀i j,i<dm.length→j<sz'→i*sz'+j<cells.size:=by
     intro i j hi hj;have:(i+1)*sz'≤dm.length*sz':=fh _ hi;rw[jn]at this;omega
    refine main _ 0 cap h6 (fun k=>(cells[k]?).getD undef) (fun i j hi hj=>?_) (fun i e j x he hx=>?_) rfl
    ·rw[gd,hw,bh (hlt i j hi hj)];rfl
    have hil:=(aw.1 he).1;have hjl:j<_:=(aw.1 hx).1;rw[h6 i e he]at hjl;refine h7 i e j x _ he hx ?_;rw[bh (hlt i j hil hjl)];rfl
   cases hd
  cases hd
 ·rename_i id av n o l;split at hd
  ·rename_i sz' dm he;split at hd
   ·rename_i hl;simp only[ak,cd]at hd;obtain⟨rfl,rfl⟩:=hd;simp only[jc]at hz;subst hz;obtain⟨e1,e2⟩:=yj he;obtain⟨_,k2⟩:=hv.2.2 e1 _ _ (xj e2);obtain⟨C,cap,off,c1,c2,c3,c4,c5,rfl⟩:=k2 hl.1;obtain⟨hl1,hl2⟩:=hl;subst hl1
    have hlen:((dm.drop o).take l).length=l:=by simp;omega
    rcases a8b l with hl0|hl0
    ·subst hl0;exact empty _ _ (by simp) rfl
    have X8:off=o*sz':=c5.resolve_left (fun h0=>absurd hl0 (by rw[h0]at c4;exact aLj.2 c4));subst X8;obtain⟨cells,et,hh,hn,hc,hw⟩:=h.yl e2;obtain⟨h5,h6,h7⟩:=hc
    have hlt:∀i j,i<dm.length→j<sz'→i*sz'+j<cells.size:=by
     intro i j hi hj;have:(i+1)*sz'≤dm.length*sz':=fh _ hi;rw[jn]at this;omega
    have acn:∀(i:Nat) (e:List D),((dm.drop o).take l)[i]? =some e→dm[o+i]? =some e:=by
     intro i e hi;rw[jv]at hi;split at hi
     ·rwa[og]at hi
     cases hi
    have acm:∀i j,o*sz'+(i*sz'+j)=(o+i)*sz'+j:=by intro i j;rw[jn];omega
    refine main _ (o*sz') cap (fun i e hi=>h6 _ e (acn i e hi)) (fun k=>(cells[o*sz'+k]?).getD undef) (fun i j hi hj=>?_) (fun i e j x he hx=>?_) (by rw[hlen])
    ·rw[hlen]at hi;have:=hlt (o+i) j (by omega) hj;rw[rv,hw,acm,bh this];rfl
    have he':=acn i e he;have hil:=(aw.1 he').1;have hjl:j<_:=(aw.1 hx).1;rw[h6 _ e he']at hjl;refine h7 (o+i) e j x _ he' hx ?_;rw[acm,bh (hlt _ j hil hjl)];rfl
   cases hd
  cases hd
 cases hd
theorem yq.afi{c:C}{u:Value}(h:yq G E s c u)(hc:c.one s=true):u.oneCell'=true:=by
 cases c with
 |d x=>exact i6.afi h hc
 |ref id av len=>
  simp only[C.one,V.live]at hc;split at hc
  ·rename_i sz n he;obtain⟨e1,e2⟩:=Gh he;obtain⟨_,k2⟩:=h.2 e1 sz n e2;obtain⟨cap,_,_,rfl⟩:=k2 (by simpa using hc);rfl
  cases hc
 |l9 id av=>
  simp only[C.one,V.live]at hc;obtain⟨es,he⟩:=ke.1 hc;obtain⟨e1,e2⟩:=Fi he;have e:=h.2 e1 (by rw[e2];rfl);rw[e];rfl
 |ptr id av off=>
  simp only[C.one,V.live]at hc;obtain⟨cs,he⟩:=ke.1 hc;obtain⟨e1,e2⟩:=ve he;have e:=h.2 e1 ⟨_,e2,rfl⟩;rw[e];rfl
theorem Holds.ofD{cells:Array Value}{sz:Nat}{l:List (List D)}(h:Holds G E s cells (.arr sz l)):Holds G E s cells (.qi sz (l.map fun e=>e.map .d)):=h.elc (.inl ⟨l,rfl,rfl⟩)
theorem Holds.toD{cells:Array Value}{sz:Nat}{l:List (List D)}(h:Holds G E s cells (.qi sz (l.map fun e=>e.map .d))):Holds G E s cells (.arr sz l):=by
 obtain⟨h1,h2,h3⟩:=h;refine⟨by simpa using h1,fun i e he=>?_,fun i e j x u he hx hu=>?_⟩
 ·have:=h2 i (e.map .d) (by simp[he]);simpa using this
 exact h3 i (e.map .d) j (.d x) u (by simp[he]) (by simp[hx]) hu
theorem Holds.adp{c1 c2 c3:Array Value}{sz:Nat}{dm ys:List (List C)}(h1:Holds G E s c1 (.qi sz dm))(he:c1.size=dm.length*sz)(h2:Holds G E s c2 (.qi sz ys)):
  Holds G E s (c1++c2++c3) (.qi sz (dm++ys)):=by
 obtain⟨a1,a2,a3⟩:=h1;obtain⟨b1,b2,b3⟩:=h2;refine⟨by simp[jn];omega,fun i e hi=>?_,fun i e j x u hi hj hu=>?_⟩
 ·rw[Nv]at hi;split at hi
  ·exact a2 i e hi
  exact b2 _ e hi
 rw[Nv]at hi;split at hi
 ·rename_i hlt
  have hj':j<sz:=by have:=a2 i e hi;have:=(aw.1 hj).1;omega
  have hb:(i+1)*sz≤dm.length*sz:=fh _ hlt;rw[jn,Bt]at hb;refine a3 i e j x u hi hj ?_;rw[Array.append_assoc,Hi,bd (by omega)]at hu;exact hu
 rename_i hge;have hil:=(aw.1 hi).1
 have hj':j<sz:=by have:=b2 _ e hi;have:=(aw.1 hj).1;omega
 have hb:(i-dm.length+1)*sz≤ys.length*sz:=fh _ hil;rw[jn,Bt]at hb
 have hs:i*sz=dm.length*sz+(i-dm.length)*sz:=by rw[←jn];congr 1;omega
 refine b3 (i-dm.length) e j x u hi hj ?_;rw[Hi,bd (by rw[T4];omega),Hi,al (by omega)]at hu;rw[←hu]
 congr 1
 omega
theorem au5(h:jf B0 w0 nt G0 s G E a w){y:V}{ys:List (List C)}{osz:Option Nat}{sz:Nat}(hd:Za s y=some (ys,osz))(hz:osz.getD sz=sz){v:Value}(hv:iw G E s y v):
  ∃(xb:Option Addr) (c:Nat) (news:List Value),v= .slice xb ys.length c∧news.length=ys.length*sz∧Holds G E s news.toArray (.qi sz ys)∧((ys.all fun e=>e.all (C.one s))=true→∀u∈news,u.oneCell'=true)∧
   (lq sz ys.length v).run P w= .ok news.toArray w∧(lq sz ys.length v).run P w.drew= .ok news.toArray w.drew:=by
 have aAh:∀{l:List (List D)},qh s y=some (l,osz)→ys=l.map (fun e=>e.map .d)→
   ∃(xb:Option Addr) (c:Nat) (news:List Value),v= .slice xb ys.length c∧news.length=ys.length*sz∧Holds G E s news.toArray (.qi sz ys)∧((ys.all fun e=>e.all (C.one s))=true→∀u∈news,u.oneCell'=true)∧
   (lq sz ys.length v).run P w= .ok news.toArray w∧(lq sz ys.length v).run P w.drew= .ok news.toArray w.drew:=by
  intro l hl e;subst e;obtain⟨xb,c,news,h1,h2,h3,h4,h5,h6⟩:=a6x (P:=P) h hl hz hv;refine⟨xb,c,news,by simpa using h1,by simpa using h2,h3.ofD,fun ho u hu=>h4 u hu ?_,by simpa using h5,by simpa using h6⟩;simp only[List.all_map,dj,Function.comp_apply]at ho⊢;exact fun e he x hx=>ho e he x hx
 cases y with
 |d z=>
  cases z with
  |ck=>
   simp only[Za,ak,cd]at hd;obtain⟨rfl,rfl⟩:=hd;exact aAh (l:=[]) rfl rfl
  |Of=>
   simp only[Za,ak,cd]at hd;obtain⟨rfl,rfl⟩:=hd;exact aAh (l:=[]) rfl rfl
  |gz sz' l=>
   simp only[Za,ak,cd]at hd;obtain⟨rfl,rfl⟩:=hd;exact aAh (l:=l) rfl rfl
  |_=>cases hd
 |ref id av len=>
  simp only[Za]at hd;split at hd
  ·rename_i sz' dm he;split at hd
   ·rename_i hl;simp only[ak,cd]at hd;obtain⟨rfl,rfl⟩:=hd;simp only[jc]at hz;subst hz;obtain⟨e1,b,e2,e3,e4⟩:=Kd he;obtain⟨_,k2⟩:=hv.2 e1 _ _ ((xj e2).trans e3);obtain⟨cap,c1,c2,rfl⟩:=k2 hl;subst hl;obtain⟨cells,et,hh,hn,hc,hw⟩:=h.yl e2;obtain⟨h5,h6,h7⟩:=hc.elc e4
    have ag3:∀(w':World),(∀o,w'.cell? ⟨E.b id,o,none⟩=cells[o]?)→(lq sz' dm.length (.slice (some ⟨E.b id,0,none⟩) dm.length cap)).run P w'= .ok (cells.toList.take (dm.length*sz')).toArray w':=by
     intro w' hw';refine run_firstCells_some w' sz' dm.length _ _ cap _ (by simp;omega) fun j v hj=>?_;rw[jv]at hj;split at hj
     ·rw[Ev,gd,hw'];simpa using hj
     cases hj
    refine⟨_,cap,cells.toList.take (dm.length*sz'),rfl,by simp;omega,⟨by simp;omega,h6,fun i e j c u hi hj hu=>?_⟩,fun ho u hu=>?_,ag3 w hw,ag3 w.drew fun o=>by rw[World.cell?_drew,hw]⟩
    ·rw[Ab,jv]at hu;split at hu
     ·exact h7 i e j c u hi hj (by simpa using hu)
     cases hu
    obtain⟨k,hk⟩:=aJp hu;rw[jv]at hk;split at hk
    ·rename_i hlt
     have a2w:0<sz':=by
      rcases a8b sz' with h0|h0
      ·rw[h0]at hlt;simp at hlt
      exact h0
     have hi:k/sz'<dm.length:=(aJ9 a2w).2 hlt;have hj:k%sz'<sz':=a8a _ a2w;have he':dm[k/sz']? =some dm[k/sz']:=ax hi
     have hj':k%sz'<dm[k/sz'].length:=by rw[h6 _ _ he'];exact hj
     have hkk:k/sz'*sz'+k%sz'=k:=by rw[aKp];exact Nat.div_add_mod k sz'
     have hr:=h7 _ _ _ _ u he' (ax hj') (by rw[hkk];simpa using hk);exact hr.afi (dj.1 (dj.1 ho _ (df hi)) _ (df hj'))
    cases hk
   cases hd
  cases hd
 |_=>cases hd
theorem U3(xb:Option Addr)(n c:Nat)(w:World):(Builtin.lenOf (.slice xb n c)).run P w= .ok n w:=rfl
theorem a7r{t u e ty:TypeId}{i:TypeInfo}{z:Value}{eu:TypeId}(ht:P.underlying t=some (.slice e))(hu:P.underlying u=some (.slice eu))(hi:P.info? e=some i)(hz:i.zero=some z){args:Array Value}{Ew:Array TypeId}
  {base:Option Addr}{Pd a2r n c:Nat}{xb:Option Addr}(ha0:args[0]? =some (.slice base Pd a2r))(ha1:args[1]? =some (.slice xb n c))(h0:Ew[0]? =some t)(h1:Ew[1]? =some u)
  {aDm news:List Value}(hro:(lq i.size Pd (.slice base Pd a2r)).run P w.drew= .ok aDm.toArray w.drew)(hrn:(lq i.size n (.slice xb n c)).run P w.drew= .ok news.toArray w.drew)
  (hg:a2r<Pd+n)(hb:(Pd+n)*i.bytes≤2^47)(hbp:0<i.bytes):
  (yw Ew ty args).run P w= .ok (.slice (some ⟨w.heap.size,0,none⟩) (Pd+n) (grownCap w (Pd+n) a2r e))
   (w.drew.alloc (.cells (aDm.toArray++news.toArray++lj z.cells (grownCap w (Pd+n) a2r e-(Pd+n))) e)):=by
 have hn:¬(Pd+n≤a2r):=by omega
 have hle:Pd+n≤2^47:=ij (Nat.le_mul_of_pos_right _ hbp) hb
 have aCb:¬(9223372036854775807<((Pd:Int)+(n:Int))):=by omega
 have aCc:¬(281474976710656<aJt (Pd+n) a2r*i.bytes):=by
  have:=growslice_fits (need:=Pd+n) (old:=a2r) (bytes:=i.bytes) (by omega) (by omega);omega
 unfold yw;rw[ha0,ha1,h0,h1];simp[run_underlying ht,run_underlying hu,sizeOf,typeInfo,zeroValue,hi,hz,U3,hn,aCb,aCc,Question.forced,hrn,hro,newRow,grownCap]
 congr 2
 apply Array.ext';simp[po]
theorem a2e{t u e ty:TypeId}{i:TypeInfo}{eu:TypeId}(ht:P.underlying t=some (.slice e))(hu:P.underlying u=some (.slice eu))(hi:P.info? e=some i){args:Array Value}{Ew:Array TypeId}
  {g Pd a2r n c:Nat}{xb:Option Addr}(ha0:args[0]? =some (.slice (some ⟨g,0,none⟩) Pd a2r))(ha1:args[1]? =some (.slice xb n c))(h0:Ew[0]? =some t)(h1:Ew[1]? =some u)
  {news:List Value}{cur:Array Value}{et:TypeId}(hg:w.heap[g]? =some (.cells cur et (0,0)))(hrn:(lq i.size n (.slice xb n c)).run P w= .ok news.toArray w)(Bm:∀u∈news,u.oneCell'=true)
  (a63:Pd+n≤a2r)(Ox:Pd*i.size+news.length≤cur.size):
  (yw Ew ty args).run P w= .ok (.slice (some ⟨g,0,none⟩) (Pd+n) a2r) (w.setRow g (cur.toList.take (Pd*i.size)++news++cur.toList.drop (Pd*i.size+news.length)).toArray):=by
 have tn:=run_storeCells_at P g (Pd*i.size) et news 0 cur w hg (by simpa using Ox) Bm;simp only[Af]at tn;unfold yw;rw[ha0,ha1,h0,h1];simp[run_underlying ht,run_underlying hu,sizeOf,typeInfo,hi,U3,a63,hrn,Ev,tn]
theorem a2f{t u e ty:TypeId}{i:TypeInfo}{eu:TypeId}(ht:P.underlying t=some (.slice e))(hu:P.underlying u=some (.slice eu))(hi:P.info? e=some i){args:Array Value}{Ew:Array TypeId}
  {base:Option Addr}{c:Nat}{xb:Option Addr}(ha0:args[0]? =some (.slice base 0 0))(ha1:args[1]? =some (.slice xb 0 c))(h0:Ew[0]? =some t)(h1:Ew[1]? =some u)
  (hrn:(lq i.size 0 (.slice xb 0 c)).run P w= .ok #[] w):
  (yw Ew ty args).run P w= .ok (.slice base 0 0) w:=by
 unfold yw;rw[ha0,ha1,h0,h1];cases base<;>simp[run_underlying ht,run_underlying hu,sizeOf,typeInfo,hi,U3,hrn,storeCells]
end
section
variable{P:Program}{B0 nt:Nat}{w0 w w':World}{G0 G G':gq}{s s':PS}{E E':Env}{a:Act}
def sj(P:Program)(B0 nt:Nat)(w0:World)(G0:gq)(a:Act)(w:World)(dst:Option Nat)(run:Result Next)(s':PS):Prop:=
 ∃(n:Next) (v:Value) (w':World) (G':gq) (E':Env) (st:PS) (x:V),run= .ok n w'∧(n= .value v∨(n= .skip∧v=undef))∧jf B0 w0 nt G0 st G' E' a w'∧iw G' E' st x v∧s'=st.put dst x
theorem sj.val{run:Result Next}{v:Value}{x:V}{dst:Option Nat}(h:jf B0 w0 nt G0 s G E a w)(hr:run= .ok (.value v) w)(hv:iw G E s x v):sj P B0 nt w0 G0 a w dst run (mc.app dst s (.val x)):=
 ⟨_,v,w,G,E,s,x,hr,.inl rfl,h,hv,rfl⟩
theorem Be{id sz len n:Nat}{b:B}{cap:Nat}{g:Nat}(hb:s'.dc id=some b)(hd:b.De=some (sz,n))(hE:E'.b id=g)(hn:E'.n id=cap*sz)(hl:n=len)(hc:len≤cap):
  iw G' E' s' (.ref id (s'.av id) len) (.slice (some ⟨g,0,none⟩) len cap):=by
 refine⟨ay _,fun _ sz' n' rp=>?_⟩;rw[xj hb,hd]at rp;simp only[ak,cd]at rp;obtain⟨rfl,rfl⟩:=rp;exact⟨by omega,fun _=>⟨cap,hn,hc,by rw[hE]⟩⟩
theorem a16(h:jf B0 w0 nt G0 s G E a w){t u e ty:TypeId}{i:TypeInfo}{z:Value}{eu:TypeId}(ht:P.underlying t=some (.slice e))(hu:P.underlying u=some (.slice eu))(hi:P.info? e=some i)(hz:i.zero=some z)
  (hbp:0<i.bytes)(hzz:z.cells.size=i.size){args:Array Value}{Ew:Array TypeId}{base xb:Option Addr}{c m:Nat}{ys:List (List C)}{news:List Value}
  (ha0:args[0]? =some (.slice base 0 0))(ha1:args[1]? =some (.slice xb m c))(h0:Ew[0]? =some t)(h1:Ew[1]? =some u)(hm:m=ys.length)
  (hnl:news.length=ys.length*i.size)(hnh:Holds G E s news.toArray (.qi i.size ys))(hr2:(lq i.size m (.slice xb m c)).run P w.drew= .ok news.toArray w.drew)
  (hne:ys.length≠0)(hb:ys.length*i.bytes≤2^47)(id:Nat){nb:B}(hd:nb.De=some (i.size,ys.length))(zy:∀cells,Holds G E s cells (.qi i.size ys)→Holds G E s cells nb):
  ∃v w' E',(yw Ew ty args).run P w= .ok v w'∧jf B0 w0 nt G0 {s with dc:=l7 s.dc id (some nb),av:=l7 s.av id (s.av id+1)} G E' a w'∧
   iw G E' {s with dc:=l7 s.dc id (some nb),av:=l7 s.av id (s.av id+1)} (.ref id (s.av id+1) ys.length) v∧
   E'.m=E.m∧∀(g:Nat) (en:Array MapEntry) (cl:Nat),w.heap[g]? =some (Obj.map en cl)→w'.heap[g]? =some (Obj.map en cl):=by
 subst hm
 have hro:(lq i.size 0 (.slice base 0 0)).run P w.drew= .ok ([]:List Value).toArray w.drew:=by
  cases base with
  |none=>exact run_firstCells_none w.drew i.size 0 0 0
  |some b=>exact run_firstCells_some w.drew i.size 0 b 0 0 [] (by simp) (by simp)
 have run:=a7r (ty:=ty) ht hu hi hz ha0 ha1 h0 h1 hro hr2 (by omega) (by rw[gd];exact hb) hbp;simp only[gd]at run
 have Ua:Holds G E s (([]:List Value).toArray++news.toArray++lj z.cells (grownCap w ys.length 0 e-ys.length)) (.qi i.size ys):=by
  have:=Holds.adp (c1:= #[]) (c3:=lj z.cells (grownCap w ys.length 0 e-ys.length)) (dm:=[]) (⟨by simp,by simp,by simp⟩:Holds G E s #[] (.qi i.size [])) (by simp) hnh;simpa using this
 have hf:=h.drew.new id nb _ e (zy _ Ua);have hge:=grownCap_ge w ys.length 0 e;refine⟨_,_,_,run,hf,?_,rfl,fun g en cl hg=>(Bg _ _ _ (iu.1 hg).1).trans hg⟩;have:=Be (G':=G) (s':={s with dc:=l7 s.dc id (some nb),av:=l7 s.av id (s.av id+1)})
  (E':={E with b:=l7 E.b id w.drew.heap.size,n:=l7 E.n id (([]:List Value).toArray++news.toArray++lj z.cells (grownCap w ys.length 0 e-ys.length)).size}) (id:=id) (sz:=i.size) (len:=ys.length) (cap:=grownCap w ys.length 0 e) (g:=w.heap.size)
  (cu _ _ _) hd (cu _ _ _) (by
   show l7 E.n id _ id=_;rw[cu];simp only[T4,Wo,du,gd,size_zeroCells,hnl,hzz];rw[←jn]
   congr 1
   omega) rfl hge
 have hv:l7 s.av id (s.av id+1) id=s.av id+1:=cu _ _ _;simpa[hv]using this
theorem a7s(h:jf B0 w0 nt G0 s G E a w){t u e ty:TypeId}{i:TypeInfo}{z:Value}{eu:TypeId}(ht:P.underlying t=some (.slice e))(hu:P.underlying u=some (.slice eu))(hi:P.info? e=some i)(hz:i.zero=some z)
  (hbp:0<i.bytes)(hzz:z.cells.size=i.size){args:Array Value}{Ew:Array TypeId}{vx:Value}{xb:Option Addr}{c m:Nat}{ys:List (List C)}{news:List Value}
  (ha0:args[0]? =some vx)(ha1:args[1]? =some (.slice xb m c))(h0:Ew[0]? =some t)(h1:Ew[1]? =some u)(hm:m=ys.length)
  (hnl:news.length=ys.length*i.size)(hnh:Holds G E s news.toArray (.qi i.size ys))(Bs:∀u∈news,u.oneCell'=true)
  (hr1:(lq i.size m (.slice xb m c)).run P w= .ok news.toArray w)(hr2:(lq i.size m (.slice xb m c)).run P w.drew= .ok news.toArray w.drew)
  {id av:Nat}{dm:List (List C)}(hle:s.elc id av=some (i.size,dm))(hx:iw G E s (.ref id av dm.length) vx)(hb:(dm.length+ys.length)*i.bytes≤2^47)
  {nb:B}(hd:nb.De=some (i.size,dm.length+ys.length))(zy:∀cells,Holds G E s cells (.qi i.size (dm++ys))→Holds G E s cells nb)(hiv:nb.isVar=false):
  ∃v w' E',(yw Ew ty args).run P w= .ok v w'∧jf B0 w0 nt G0 {s with dc:=l7 s.dc id (some nb)} G E' a w'∧
   iw G E' {s with dc:=l7 s.dc id (some nb)} (.ref id av (dm.length+ys.length)) v∧
   E'.m=E.m∧∀(g:Nat) (en:Array MapEntry) (cl:Nat),w.heap[g]? =some (Obj.map en cl)→w'.heap[g]? =some (Obj.map en cl):=by
 subst hm;obtain⟨e1,b,e2,e3,e4⟩:=Kd hle;obtain⟨_,k2⟩:=hx.2 e1 _ _ ((xj e2).trans e3);obtain⟨cap,c1,c2,rfl⟩:=k2 rfl;obtain⟨cells,et,hh,hn,hc,hw⟩:=h.yl e2;obtain⟨h5,h6,h7⟩:=hc.elc e4
 have hbv:b.isVar=false:=by rcases e4 with ⟨_,rfl,_⟩|rfl<;>rfl
 have htk:Holds G E s (cells.toList.take (dm.length*i.size)).toArray (.qi i.size dm):=by
  refine⟨by simp;omega,h6,fun k e j x u hk hj hu=>h7 k e j x u hk hj ?_⟩;rw[Ab,jv]at hu;split at hu
  ·simpa using hu
  cases hu
 have aBp:(cells.toList.take (dm.length*i.size)).toArray.size=dm.length*i.size:=by simp;omega
 by_cases a63:dm.length+ys.length≤cap
 ·have Ox:dm.length*i.size+news.length≤cells.size:=by
   refine ij ?_ hn;rw[c1,hnl,←jn];exact fh _ a63
  have run:=a2e (ty:=ty) ht hu hi ha0 ha1 h0 h1 hh hr1 Bs a63 Ox
  have hh2:Holds G E s (cells.toList.take (dm.length*i.size)++news++cells.toList.drop (dm.length*i.size+news.length)).toArray (.qi i.size (dm++ys)):=by
   have:=Holds.adp (c3:=(cells.toList.drop (dm.length*i.size+news.length)).toArray) htk aBp hnh;simpa using this
  have hal:Alike b nb:=⟨hbv.trans hiv.symm,fun sz' n' h'=>by
   rw[hd]at h';simp only[ak,cd]at h';obtain⟨rfl,rfl⟩:=h'
   exact⟨_,e3,by omega⟩⟩
  have hf:=h.set e2 hal (Ao.setRow hh _) (by simp;omega) (zy _ hh2);refine⟨_,_,E,run,hf,?_,rfl,fun g en cl hg=>?_⟩;rotate_left
  ·refine((Ao.setRow hh _).other g fun e=>?_).trans hg;rw[e,hh]at hg;cases hg
  subst e1;exact Be (s':={s with dc:=l7 s.dc id (some nb)}) (cu _ _ _) hd rfl c1 rfl a63
 have a2w:0<ys.length:=by omega
 have hro:(lq i.size dm.length (.slice (some ⟨E.b id,0,none⟩) dm.length cap)).run P w.drew= .ok (cells.toList.take (dm.length*i.size)).toArray w.drew:=by
  refine run_firstCells_some w.drew i.size dm.length _ _ cap _ (by simp;omega) fun j v hj=>?_;rw[jv]at hj;split at hj
  ·rw[Ev,gd,World.cell?_drew,hw];simpa using hj
  cases hj
 have run:=a7r (ty:=ty) ht hu hi hz ha0 ha1 h0 h1 hro hr2 (by omega) hb hbp;have hh2:Holds G E s ((cells.toList.take (dm.length*i.size)).toArray++news.toArray++lj z.cells (grownCap w (dm.length+ys.length) cap e-(dm.length+ys.length))) (.qi i.size (dm++ys)):=Holds.adp htk aBp hnh;have hf:=h.drew.aB1 e2 e3 hd (by omega) _ e (zy _ hh2);have hge:=grownCap_ge w (dm.length+ys.length) cap e;refine⟨_,_,_,run,hf,?_,rfl,fun g en cl hg=>(Bg _ _ _ (iu.1 hg).1).trans hg⟩;subst e1;refine Be (s':={s with dc:=l7 s.dc id (some nb)}) (cap:=grownCap w (dm.length+ys.length) cap e) (cu _ _ _) hd (cu _ _ _) ?_ rfl hge;show l7 E.n id _ id=_;rw[cu];simp only[T4,aBp,Wo,size_zeroCells,hnl,hzz];rw[←jn,←jn]
 congr 1
 omega
theorem Holds.aId{cells:Array Value}{sz m:Nat}{dm:List (List D)}(h:Holds G E s cells (.arr sz dm)):Holds G E s (cells.toList.take (m*sz)).toArray (.arr sz (dm.take m)):=by
 obtain⟨h1,h2,h3⟩:=h
 have hl:(dm.take m).length*sz≤(cells.toList.take (m*sz)).length:=by
  have:(dm.take m).length*sz≤dm.length*sz:=fh _ (avl _ _);have:(dm.take m).length*sz≤m*sz:=fh _ (List.length_take_le _ _)
  simp only[er,qu]at*
  omega
 refine⟨by simpa using hl,fun i e hi=>?_,fun i e j x u hi hj hu=>?_⟩
 ·rw[jv]at hi;split at hi
  ·exact h2 i e hi
  cases hi
 rw[jv]at hi;split at hi
 ·rw[Ab,jv]at hu;split at hu
  ·exact h3 i e j x u hi hj (by simpa using hu)
  cases hu
 cases hi
theorem Holds.aF5{cells:Array Value}{sz m:Nat}{dm:List (List D)}(h:Holds G E s cells (.arr sz dm)):Holds G E s (cells.toList.drop (m*sz)).toArray (.arr sz (dm.drop m)):=by
 obtain⟨h1,h2,h3⟩:=h;refine⟨?_,fun i e hi=>?_,fun i e j x u hi hj hu=>?_⟩
 ·simp only[yu,Wo,qu,Nat.sub_mul];omega
 ·rw[og]at hi;exact h2 _ e hi
 rw[og]at hi;rw[Ab,og]at hu;refine h3 (m+i) e j x u hi hj ?_
 have e1:(m+i)*sz+j=m*sz+(i*sz+j):=by rw[jn];omega
 rw[e1];simpa using hu
theorem Holds.aqr{cells:Array Value}{sz k:Nat}{dm ys:List (List D)}{news:List Value}(h:Holds G E s cells (.arr sz dm))(hl:k+ys.length≤dm.length)(hnl:news.length=ys.length*sz)(hn:Holds G E s news.toArray (.arr sz ys)):
  Holds G E s (cells.toList.take (k*sz)++news++cells.toList.drop (k*sz+news.length)).toArray (.arr sz (dm.take k++ys++dm.drop (k+ys.length))):=by
 have hc:k*sz≤cells.size:=by
  have:k*sz≤dm.length*sz:=fh _ (by omega);have:=h.1;omega
 have h1:=(h.aId (m:=k)).append (c3:= #[]) (by simp only[Wo,er,qu];rw[aax hc,aax (by omega)]) hn;have h2:=h.aF5 (m:=k+ys.length);have h3:=h1.append (c3:= #[]) (by simp only[T4,Wo,er,qu,db,hnl];rw[aax hc,aax (by omega),jn];rfl) h2
 have e:k*sz+news.length=(k+ys.length)*sz:=by rw[hnl,jn]
 rw[e];simpa using h3
theorem a7t(h:jf B0 w0 nt G0 s G E a w){t u e ty:TypeId}{i:TypeInfo}{z:Value}{eu:TypeId}(ht:P.underlying t=some (.slice e))(hu:P.underlying u=some (.slice eu))(hi:P.info? e=some i)(hz:i.zero=some z)
  (hbp:0<i.bytes)(hzz:z.cells.size=i.size){args:Array Value}{Ew:Array TypeId}{x y:V}{vx vy:Value}(ha0:args[0]? =some vx)(ha1:args[1]? =some vy)(h0:Ew[0]? =some t)(h1:Ew[1]? =some u)
  (hx:iw G E s x vx)(hy:iw G E s y vy){d:Nat}{dst:Option Nat}{ids:List Nat}{ef:mc}(he:Qz s d i.size i.bytes x y=some (ids,ef)):
  sj P B0 nt w0 G0 a w dst (((yw Ew ty args).run P w).andThen fun v w=> .ok (.value v) w) (ef.app dst (s.uu ids)):=by
 unfold Qz at he;split at he
 ·rename_i ys osz ato;split at he
  ·rename_i hcond;obtain⟨atf,Bm⟩:=hcond;obtain⟨xb,c,news,rfl,hnl,hnh,Bs,hr1,hr2⟩:=au5 (P:=P) h ato atf hy;split at he
   ·cases hx;split at he
    ·rename_i h0';simp only[ak,mc.tj,cd]at he;obtain⟨rfl,rfl⟩:=he;have hys:ys=[]:=j1 h0';subst hys;have atg:news=[]:=j1 (by simpa using hnl);subst atg;have run:=a2f (ty:=ty) ht hu hi ha0 ha1 h0 h1 hr1;rw[run];exact sj.val h rfl i6.ck
    rename_i h0';split at he
    ·rename_i hb;simp only[ak,cd]at he;obtain⟨rfl,rfl⟩:=he;obtain⟨v,w',E',k1,k2,k3,_⟩:=a16 (ty:=ty) h ht hu hi hz hbp hzz ha0 ha1 h0 h1 rfl hnl hnh hr2 h0' hb d (nb:= .qi i.size ys) rfl (fun _ q=>q);rw[k1];exact⟨_,v,w',G,E',_,_,rfl,.inl rfl,k2,k3,rfl⟩
    cases he
   ·rename_i id av n0;split at he
    ·rename_i sz' dm hle;split at he
     ·rename_i hc;simp only[ak,cd]at he;obtain⟨rfl,rfl⟩:=he;obtain⟨rfl,rfl,hb⟩:=hc;obtain⟨v,w',E',k1,k2,k3,_⟩:=a7s (ty:=ty) h ht hu hi hz hbp hzz ha0 ha1 h0 h1 rfl hnl hnh (Bs Bm) hr1 hr2 hle hx hb (nb:= .qi i.size (dm++ys)) (by simp[B.De]) (fun _ q=>q) rfl;rw[k1];exact⟨_,v,w',G,E',_,_,rfl,.inl rfl,k2,k3,rfl⟩
     cases he
    cases he
   cases he
  cases he
 cases he
theorem av6{ys:List (List D)}(h:(ys.all fun e=>e.all D.one)=true):((ys.map fun e=>e.map C.d).all fun e=>e.all (C.one s))=true:=by
 simp only[dj,gr]at h⊢;rintro e ⟨e',he',rfl⟩ c hc;obtain⟨x,hx,rfl⟩:=gr.1 hc;exact h e' he' x hx
theorem aq8(h:jf B0 w0 nt G0 s G E a w){t u e ty:TypeId}{i:TypeInfo}{z:Value}{eu:TypeId}(ht:P.underlying t=some (.slice e))(hu:P.underlying u=some (.slice eu))(hi:P.info? e=some i)(hz:i.zero=some z)
  (C9:0<i.size)(hbp:0<i.bytes)(hzz:z.cells.size=i.size){args:Array Value}{Ew:Array TypeId}{x y:nk}{vx vy:Value}(ha0:args[0]? =some vx)(ha1:args[1]? =some vy)(h0:Ew[0]? =some t)(h1:Ew[1]? =some u)
  (hx:iw G E s (x.ev s) vx)(hy:iw G E s (y.ev s) vy){d:Nat}{dst:Option Nat}{ids:List Nat}{ef:mc}(he:(jy.app i.size i.bytes x y).p9 d s=some (ids,ef)):
  sj P B0 nt w0 G0 a w dst (((yw Ew ty args).run P w).andThen fun v w=> .ok (.value v) w) (ef.app dst (s.uu ids)):=by
 simp only[jy.p9]at he;split at he
 ·rename_i ys osz ato;split at he
  ·rename_i atf;obtain⟨xb,c,news,rfl,hnl,hnh,Bs,hr1,hr2⟩:=a6x (P:=P) h ato atf hy;split at he
   ·rename_i hxe;rw[hxe]at hx;cases hx;split at he
    ·rename_i h0';simp only[ak,mc.tj,cd]at he;obtain⟨rfl,rfl⟩:=he;have hys:ys=[]:=j1 h0';subst hys;have atg:news=[]:=j1 (by simpa using hnl);subst atg;have run:=a2f (ty:=ty) ht hu hi ha0 ha1 h0 h1 hr1;rw[run];exact sj.val h rfl i6.ck
    rename_i h0';split at he
    ·rename_i hb;simp only[ak,cd]at he;obtain⟨rfl,rfl⟩:=he;obtain⟨v,w',E',k1,k2,k3,_⟩:=a16 (ty:=ty) h ht hu hi hz hbp hzz (ys:=ys.map fun e=>e.map .d) ha0 ha1 h0 h1 (by simp) (by simpa using hnl) hnh.ofD hr2 (by simpa using h0') (by simpa using hb) d (nb:= .arr i.size ys) (by simp[B.De]) (fun _ q=>q.toD);rw[k1];simp only[ag]at k3;exact⟨_,v,w',G,E',_,_,rfl,.inl rfl,k2,k3,rfl⟩
    cases he
   ·rename_i id av n0 hxe;rw[hxe]at hx;split at he
    ·rename_i sz' dm hle;split at he
     ·rename_i hc;simp only[ak,cd]at he;obtain⟨rfl,rfl⟩:=he;obtain⟨Bm,rfl,rfl,hb⟩:=hc;obtain⟨v,w',E',k1,k2,k3,_⟩:=a7s (ty:=ty) h ht hu hi hz hbp hzz (ys:=ys.map fun e=>e.map .d) ha0 ha1 h0 h1 (by simp) (by simpa using hnl) hnh.ofD (fun u hu=>Bs u hu Bm) hr1 hr2 (a6y hle) (by simpa using hx) (by simpa using hb)
       (nb:= .arr i.size (dm++ys)) (by simp[B.De]) (fun _ q=>Holds.toD (by simpa using q)) rfl
      rw[k1];simp only[ag]at k3;exact⟨_,v,w',G,E',_,_,rfl,.inl rfl,k2,k3,rfl⟩
     cases he
    exact a7t h ht hu hi hz hbp hzz ha0 ha1 h0 h1 hx hy he
   ·rename_i id av n o k hxe;rw[hxe]at hx;split at he
    ·rename_i sz' dm hle;split at he
     ·rename_i hc;simp only[ak,cd]at he;obtain⟨rfl,rfl⟩:=he;obtain⟨Bm,rfl,hl1,rfl,hl2⟩:=hc;obtain⟨e1,e2⟩:=yj hle;obtain⟨hn0,_,k2⟩:=hx;obtain⟨_,k3⟩:=k2 e1 _ _ (xj e2);obtain⟨C,cap,off,c1,c2,c3,c4,c5,rfl⟩:=k3 hl1;obtain⟨hn1,hn2⟩:=hn0
      have agb:cap≠0:=fun h0=>by rw[h0]at c2;exact aLj.2 c2 (by rw[Af];exact hn2)
      have X8:off=0:=by rw[c5.resolve_left agb,amp]
      subst X8;obtain⟨cells,et,hh,hn,hc,hw⟩:=h.yl e2;have aIo:cap*i.size≤C*i.size:=fh _ (by omega);have hk':(k+ys.length)*i.size≤cap*i.size:=fh _ (by omega)
      have Ox:k*i.size+news.length≤cells.size:=by
       rw[hnl,←jn];omega
      have run:=a2e (ty:=ty) ht hu hi ha0 ha1 h0 h1 hh hr1 (fun u hu=>Bs u hu Bm) (by omega) Ox;have hh2:=hc.aqr (k:=k) (ys:=ys) (news:=news) (by omega) hnl hnh
      have hlen:(dm.take k++ys++dm.drop (k+ys.length)).length=dm.length:=by simp;omega
      have hal:Alike (.arr i.size dm) (.arr i.size (dm.take k++ys++dm.drop (k+ys.length))):=Alike.arr (by omega);have hf:=h.set e2 hal (Ao.setRow hh _) (by simp;omega) hh2;rw[run];refine⟨_,_,_,G,E,_,.win id av n 0 (k+ys.length),rfl,.inl rfl,hf,⟨⟨by omega,hn2⟩,aK6 e1.symm,fun _ sz' m hd=>?_⟩,rfl⟩;simp only[PS.De,cu,Pa,B.De,ak,cd]at hd;obtain⟨rfl,rfl⟩:=hd;exact⟨by omega,fun _=>⟨C,cap,0,c1,c2,c3,by omega,.inr (amp _).symm,rfl⟩⟩
     cases he
    cases he
   cases he
  cases he
 exact a7t h ht hu hi hz hbp hzz ha0 ha1 h0 h1 hx hy he
end
section
variable{P:Program}{B0 nt:Nat}{w0 w w':World}{G0 G G':gq}{s s':PS}{E E':Env}{a:Act}
theorem atz(off:Nat):∀(l:List Value) (k:Nat) (cells:Array Value) (m:Nat),off+k+l.length≤cells.size→
  ((l.zipIdx k).foldl (fun cs p=>cs.setIfInBounds (off+p.2) p.1) cells).size=cells.size∧
  ((l.zipIdx k).foldl (fun cs p=>cs.setIfInBounds (off+p.2) p.1) cells)[m]? =if off+k≤m∧m<off+k+l.length then l[m-off-k]? else cells[m]? :=by
 intro l
 induction l with
 |nil=>intro k cells m h;simp;intro h1 h2;omega
 |cons v l ih=>
  intro k cells m h;simp only[List.zipIdx_cons,Aq,cj]at h⊢;obtain⟨i1,i2⟩:=ih (k+1) (cells.setIfInBounds (off+k) v) m (by simp;omega);refine⟨by rw[i1];simp,?_⟩;rw[i2];by_cases h1:off+(k+1)≤m∧m<off+(k+1)+l.length
  ·rw[bd h1,bd (by omega)]
   have:m-off-k=(m-off-(k+1))+1:=by omega
   rw[this,i7]
  rw[al h1];by_cases h2:m=off+k
  ·subst h2;rw[bd (by omega),Ts,bd (by omega)]
   have:off+k-off-k=0:=by omega
   rw[this];rfl
  rw[al (by omega),Wq (by omega)]
theorem ak0(v:Value)(off:Nat)(cells:Array Value)(h:off+v.cells.size≤cells.size):
  v.cells.zipIdx.foldl (fun cs (p:Value×Nat)=>cs.setIfInBounds (off+p.2) p.1) cells=(patch cells.toList off v.cells.toList).toArray:=by
 have hz:v.cells.zipIdx.foldl (fun cs (p:Value×Nat)=>cs.setIfInBounds (off+p.2) p.1) cells=(v.cells.toList.zipIdx 0).foldl (fun cs p=>cs.setIfInBounds (off+p.2) p.1) cells:=by
  rw[←Array.foldl_toList];simp
 rw[hz]
 have hl:off+v.cells.toList.length≤cells.toList.length:=by simpa using h
 apply Array.ext_getElem?;intro m
 have e:(patch cells.toList off v.cells.toList).toArray[m]? =(patch cells.toList off v.cells.toList)[m]? :=by simp
 rw[(atz off v.cells.toList 0 cells m (by simpa using h)).2,e,Dv _ _ _ hl];simp
def O8(G:gq)(E:Env)(s:PS)(cs:List C)(us:Array Value):Prop:=us.size=cs.length∧∀(i:Nat) (c:C) (u:Value),cs[i]? =some c→us[i]? =some u→yq G E s c u
theorem O8.patch{cs xs:List C}{us vs:Array Value}{off:Nat}(h:O8 G E s cs us)(hx:O8 G E s xs vs)(hl:off+xs.length≤cs.length):O8 G E s (patch cs off xs) (patch us.toList off vs.toList).toArray:=by
 obtain⟨a1,a2⟩:=h;obtain⟨b1,b2⟩:=hx
 have hv:off+vs.toList.length≤us.toList.length:=by simp;omega
 refine⟨by simp[r8 _ _ _ hv,r8 _ _ _ hl,a1],fun i c u hc hu=>?_⟩;rw[Dv _ _ _ hl]at hc;rw[Ab,Dv _ _ _ hv]at hu;simp only[qu,b1]at hu;split at hc
 ·rename_i hin;rw[bd hin]at hu;exact b2 _ c u hc (by simpa using hu)
 rename_i hin;rw[al hin]at hu;exact a2 i c u hc (by simpa using hu)
theorem Z8{place:Nat→Option (Nat×Nat)}{ev:Operand→Value}:∀{l:List (Nat×Operand)} {ps:List (Nat×Nat×List C)} {cs out:List C} {us:Array Value},
  ps.length=l.length→(∀(i:Nat) (p:Nat×Operand) (q:Nat×Nat×List C),l[i]? =some p→ps[i]? =some q→place p.1=some (q.1,q.2.1)∧O8 G E s q.2.2 (ev p.2).cells)→
  Mo cs ps=some out→O8 G E s cs us→∃vs,Instr.fill place us (l.map fun p=>(p.1,ev p.2))=some vs∧O8 G E s out vs:=by
 intro l
 induction l with
 |nil=>
  intro ps cs out us hl hp hf hr
  cases ps with
  |nil=>simp only[Mo,ak]at hf;subst hf;exact⟨us,rfl,hr⟩
  |cons _ _=>simp at hl
 |cons p l ih=>
  intro ps cs out us hl hp hf hr
  cases ps with
  |nil=>simp at hl
  |cons q ps=>
   obtain⟨o,n,xs⟩:=q;simp only[Mo]at hf;split at hf
   ·rename_i hc;obtain⟨k1,k2⟩:=hp 0 p (o,n,xs) rfl rfl;simp only at k1 k2;simp only[dr,Instr.fill,k1];have C9:=k2.1;have hus:=hr.1;rw[al (by simp;omega)];rw[ak0 _ _ _ (by omega)];exact ih (by simpa using hl) (fun i p' q' h1 h2=>hp (i+1) p' q' (by simpa using h1) (by simpa using h2)) hf (hr.patch k2 (by omega))
   cases hf
theorem aly{cs:List C}{us:Array Value}(h:O8 G E s cs us):iw G E s (mkv true cs) (.agg us):=by
 unfold mkv
 cases hd:Lo cs with
 |some ds=>
  have e:=Ry hd;subst e;exact i6.agg (by simpa using h.1) fun i x v hx hv=>h.2 i (.d x) v (by simp[hx]) hv
 |none=>exact F4.2 ⟨us,rfl,h.1,h.2⟩
theorem aub:∀{l:List Value} {ds:List D},ah0 l=some ds→∀(w0 w:World) (h:jf B0 w0 nt G0 s G E a w),l.length=ds.length∧∀(i:Nat) (x:D) (v:Value),ds[i]? =some x→l[i]? =some v→i6 G x v:=by
 intro l ds hd w0 w h
 have hv:Xm (.agg l.toArray)=some (.agg ds):=by simp[Xm,hd]
 have:=h.ev (x:= .const (.agg l.toArray)) (o:= .c (.agg ds)) (by simp[x8,hv])
 cases this with
 |agg hl hh=>exact⟨by simpa using hl,fun i x v hx hv=>hh i x v hx (by simpa using hv)⟩
theorem Fv{t:TypeId}{z:List D}(hz:Fw P t=some z)(h:jf B0 w0 nt G0 s G E a w):∃v,(P.info? t).bind (·.zero)=some v∧(∀w,(zeroValue t).run P w= .ok v w)∧O8 G E s (z.map .d) v.cells:=by
 unfold Fw at hz;split at hz
 ·rename_i v hv;obtain⟨k1,k2⟩:=aub hz w0 w h;refine⟨v,hv,fun w=>?_,by simpa using k1,fun i c u hc hu=>?_⟩
  ·cases hi:P.info? t with
   |none=>rw[hi]at hv;cases hv
   |some i=>
    rw[hi]at hv;simp only[Pa]at hv;simp[zeroValue,typeInfo,hi,hv]
  simp only[cy,aq]at hc;obtain⟨x,hx,rfl⟩:=hc;exact k2 i x u hx (by simpa using hu)
 cases hz
theorem a03(h:jf B0 w0 nt G0 s G E a w){get:Nat→Operand→Option (Nat×Nat)}:
  ∀{l:List (Nat×Operand)} {qs:List (Nat×Nat×nk)} {ps:List (Nat×Nat×List C)},qs.length=l.length→
   (∀(i:Nat) (p:Nat×Operand) (q:Nat×Nat×nk),l[i]? =some p→qs[i]? =some q→get p.1 p.2=some (q.1,q.2.1)∧x8 p.2=some q.2.2)→K0 s qs=some ps→
   ps.length=l.length∧∀(i:Nat) (p:Nat×Operand) (q:Nat×Nat×List C),l[i]? =some p→ps[i]? =some q→get p.1 p.2=some (q.1,q.2.1)∧O8 G E s q.2.2 (a.eval p.2).cells:=by
 intro l
 induction l with
 |nil=>
  intro qs ps hl _ hp
  cases qs with
  |nil=>simp only[K0,ak]at hp;subst hp;simp
  |cons _ _=>simp at hl
 |cons p l ih=>
  intro qs ps hl hq hp
  cases qs with
  |nil=>simp at hl
  |cons q qs=>
   obtain⟨o,n,x⟩:=q;simp only[K0]at hp;split at hp
   ·rename_i cs ps' h1 h2
    injection hp with hp
    subst hp;obtain⟨i1,i2⟩:=ih (by simpa using hl) (fun i p' q' a b=>hq (i+1) p' q' (by simpa using a) (by simpa using b)) h2;refine⟨by simp[i1],fun i p' q' hp' hq'=>?_⟩
    cases i with
    |zero=>
     simp at hp' hq';subst hp' hq';obtain⟨k1,k2⟩:=hq 0 p (o,n,x) rfl rfl;obtain⟨c1,c2⟩:=Rv h1 (h.ev k2);exact⟨k1,c1,c2⟩
    |succ i=>simp at hp' hq';exact i2 i p' q' hp' hq'
   cases hp
theorem agn{fs:Array Field}:∀{l:List (Nat×Operand)} {qs:List (Nat×Nat×nk)},a0s P fs l=some qs→qs.length=l.length∧
  ∀(i:Nat) (p:Nat×Operand) (q:Nat×Nat×nk),l[i]? =some p→qs[i]? =some q→(∃f,fs[p.1]? =some f∧f.offset=q.1∧lg P f.type=some q.2.1)∧x8 p.2=some q.2.2:=by
 intro l
 induction l with
 |nil=>intro qs h;simp only[a0s,ak]at h;subst h;simp
 |cons p l ih=>
  intro qs h;obtain⟨j,x⟩:=p;simp only[a0s]at h;split at h
  ·rename_i f o l' h1 h2 h3;split at h
   ·rename_i n hn
    injection h with h
    subst h;obtain⟨i1,i2⟩:=ih h3;refine⟨by simp[i1],fun i p' q' hp' hq'=>?_⟩
    cases i with
    |zero=>simp at hp' hq';subst hp' hq';exact⟨⟨f,h1,rfl,hn⟩,h2⟩
    |succ i=>simp at hp' hq';exact i2 i p' q' hp' hq'
   cases h
  cases h
theorem Un{n:Nat}:∀{l:List (Nat×Operand)} {qs:List (Nat×Nat×nk)},Qy n l=some qs→qs.length=l.length∧
  ∀(i:Nat) (p:Nat×Operand) (q:Nat×Nat×nk),l[i]? =some p→qs[i]? =some q→(p.1*n=q.1∧n=q.2.1)∧x8 p.2=some q.2.2:=by
 intro l
 induction l with
 |nil=>intro qs h;simp only[Qy,ak]at h;subst h;simp
 |cons p l ih=>
  intro qs h;obtain⟨j,x⟩:=p;simp only[Qy]at h;split at h
  ·rename_i o l' h2 h3
   injection h with h
   subst h;obtain⟨i1,i2⟩:=ih h3;refine⟨by simp[i1],fun i p' q' hp' hq'=>?_⟩
   cases i with
   |zero=>simp at hp' hq';subst hp' hq';exact⟨⟨rfl,rfl⟩,h2⟩
   |succ i=>simp at hp' hq';exact i2 i p' q' hp' hq'
  cases h
theorem aft{fs:Array Field}(hall:∀f∈fs.toList,∃n,lg P f.type=some n)(w:World):
  (fs.mapM fun(f:Field)=>(do pure (f.offset,←sizeOf f.type):Sem (Nat×Nat))).run P w= .ok (fs.map fun f=>(f.offset,P.cellsOf f.type)) w:=by
 have key:∀(l:List Field),(∀f∈l,∃n,lg P f.type=some n)→(l.mapM fun(f:Field)=>(do pure (f.offset,←sizeOf f.type):Sem (Nat×Nat))).run P w= .ok (l.map fun f=>(f.offset,P.cellsOf f.type)) w:=by
  intro l
  induction l with
  |nil=>intro _;simp
  |cons f l ih=>
   intro hl;obtain⟨n,hn⟩:=hl f (by simp)
   have hc:P.cellsOf f.type=n:=by
    unfold lg at hn;unfold aFk;rw[hn];rfl
   rw[List.mapM_cons];simp only[cn,sn hn,bm,ep,ih (fun f hf=>hl f (by simp[hf])),dr,hc]
 have:=key fs.toList hall;rw[ab7,aL9,this];simp only[bm]
 congr 1
 apply Array.ext';simp
theorem adi(h:jf B0 w0 nt G0 s G E a w){t:TypeId}{fs:Array Field}{ps:Array (Nat×Operand)}{z:List D}{qs:List (Nat×Nat×nk)}(hu:P.underlying t=some (.struct fs))(hz:Fw P t=some z)
  (hall:fs.toList.all (fun f=>(lg P f.type).isSome)=true)(hq:a0s P fs ps.toList=some qs){pc:List (Nat×Nat×List C)}{cs:List C}(hp:K0 s qs=some pc)(hf:Mo (z.map .d) pc=some cs):
  ∃us,(aKy t (ps.map fun(p:Nat×Operand)=>(p.1,a.eval p.2))).run P w= .ok (.agg us) w∧O8 G E s cs us:=by
 obtain⟨zv,hzv,hzr,hzc⟩:=Fv hz h;obtain⟨q1,q2⟩:=agn hq;have C9:∀f∈fs.toList,∃n,lg P f.type=some n:=fun f hf=>ke.1 (dj.1 hall f hf)
 have Ku:∀f n,lg P f=some n→P.cellsOf f=n:=by
  intro f n hn;unfold lg at hn;unfold aFk;rw[hn];rfl
 obtain⟨r1,r2⟩:=a03 h (get:=fun j _=>(fs[j]?).map fun f=>(f.offset,P.cellsOf f.type)) q1 (fun i p q hp hq=>by
  obtain⟨⟨f,hf1,hf2,hf3⟩,hc⟩:=q2 i p q hp hq
  exact⟨by simp[hf1,hf2,Ku _ _ hf3],hc⟩) hp
 obtain⟨vs,hv1,hv2⟩:=Z8 (place:=fun j=>(fs.map fun f=>(f.offset,P.cellsOf f.type))[j]?) (ev:=a.eval) r1 (fun i p q hp hq=>by
  obtain⟨k1,k2⟩:=r2 i p q hp hq
  exact⟨by simpa using k1,k2⟩) hf hzc
 refine⟨vs,?_,hv2⟩;unfold aKy;simp only[cn,hzr,bm,underlying,run_program,hu,ep,aft C9]
 have e:(ps.map fun(p:Nat×Operand)=>(p.1,a.eval p.2)).toList=ps.toList.map fun p=>(p.1,a.eval p.2):=by simp
 rw[e,hv1];rfl
theorem adk(h:jf B0 w0 nt G0 s G E a w){t e:TypeId}{len n:Nat}{ps:Array (Nat×Operand)}{z:List D}{qs:List (Nat×Nat×nk)}(hu:P.underlying t=some (.array len e))(hz:Fw P t=some z)
  (hn:lg P e=some n)(hq:Qy n ps.toList=some qs){pc:List (Nat×Nat×List C)}{cs:List C}(hp:K0 s qs=some pc)(hf:Mo (z.map .d) pc=some cs):
  ∃us,(aKy t (ps.map fun(p:Nat×Operand)=>(p.1,a.eval p.2))).run P w= .ok (.agg us) w∧O8 G E s cs us:=by
 obtain⟨zv,hzv,hzr,hzc⟩:=Fv hz h;obtain⟨q1,q2⟩:=Un hq
 obtain⟨r1,r2⟩:=a03 h (get:=fun j _=>some (j*n,n)) q1 (fun i p q hp hq=>by
  obtain⟨⟨h1,h2⟩,hc⟩:=q2 i p q hp hq
  exact⟨by simp[h1,←h2],hc⟩) hp
 obtain⟨vs,hv1,hv2⟩:=Z8 (place:=fun j=>some (j*n,n)) (ev:=a.eval) r1 (fun i p q hp hq=>by
  obtain⟨k1,k2⟩:=r2 i p q hp hq
  exact⟨by simpa using k1,k2⟩) hf hzc
 refine⟨vs,?_,hv2⟩;unfold aKy;simp only[cn,hzr,bm,underlying,run_program,hu,ep,sn hn]
 have e:(ps.map fun(p:Nat×Operand)=>(p.1,a.eval p.2)).toList=ps.toList.map fun p=>(p.1,a.eval p.2):=by simp
 rw[e,hv1];rfl
theorem aog{α β:Type}(f:α→β)(l:List α)(off:Nat)(xs:List α):(patch l off xs).map f=patch (l.map f) off (xs.map f):=by
 simp[patch,Lr,aA9]
theorem ayr:∀{ps:List (Nat×Nat×List D)} {cs out:List D},Wh cs ps=some out→Mo (cs.map .d) (ps.map fun p=>(p.1,p.2.1,p.2.2.map .d))=some (out.map .d):=by
 intro ps
 induction ps with
 |nil=>intro cs out h;simp only[Wh,ak]at h;subst h;rfl
 |cons p ps ih=>
  intro cs out h;obtain⟨o,n,xs⟩:=p;simp only[Wh]at h;split at h
  ·rename_i hc;simp only[dr,Mo,ag];rw[bd hc,←aog];exact ih h
  cases h
theorem ad0:∀{ps:List (Nat×Nat×List D)} {cs out:List D},Wh cs ps=some out→out.length=cs.length:=by
 intro ps
 induction ps with
 |nil=>intro cs out h;simp only[Wh,ak]at h;subst h;rfl
 |cons p ps ih=>
  intro cs out h;obtain⟨o,n,xs⟩:=p;simp only[Wh]at h;split at h
  ·rename_i hc;rw[ih h,r8 _ _ _ (by omega)]
  cases h
theorem aiu(h:jf B0 w0 nt G0 s G E a w)(hle:G.le G'):
  ∀{l:List (Nat×Operand)} {qs:List (Nat×Nat×nk)} {ps:List (Nat×Nat×List D)} {ids:List Nat},qs.length=l.length→
   (∀(i:Nat) (p:Nat×Operand) (q:Nat×Nat×nk),l[i]? =some p→qs[i]? =some q→x8 p.2=some q.2.2)→Oq s qs=some (ps,ids)→(∀id∈ids,Zl G' G E s id)→
   ps.length=l.length∧∀(i:Nat) (p:Nat×Operand) (q0:Nat×Nat×nk) (q:Nat×Nat×List D),l[i]? =some p→qs[i]? =some q0→ps[i]? =some q→q.1=q0.1∧q.2.1=q0.2.1∧O8 G' E s (q.2.2.map .d) (a.eval p.2).cells:=by
 intro l
 induction l with
 |nil=>
  intro qs ps ids hl _ hp _
  cases qs with
  |nil=>simp only[Oq,ak,cd]at hp;obtain⟨rfl,rfl⟩:=hp;simp
  |cons _ _=>simp at hl
 |cons p l ih=>
  intro qs ps ids hl hq hp hg
  cases qs with
  |nil=>simp at hl
  |cons q qs=>
   obtain⟨o,n,x⟩:=q;simp only[Oq]at hp;split at hp
   ·rename_i cs l' j h1 h2;split at hp
    ·rename_i ds i h3;simp only[ak,cd]at hp;obtain⟨rfl,rfl⟩:=hp;obtain⟨i1,i2⟩:=ih (by simpa using hl) (fun i p' q' a b=>hq (i+1) p' q' (by simpa using a) (by simpa using b)) h2 (fun id hid=>hg id (Vn _ hid));refine⟨by simp[i1],fun k p' q0 q' hp' hq0 hq'=>?_⟩
     cases k with
     |zero=>
      simp at hp' hq0 hq';subst hp' hq0 hq';obtain⟨c1,c2⟩:=Rv h1 (h.ev (hq 0 p (o,n,x) rfl rfl));obtain⟨d1,d2⟩:=aa3 (G:=G) (G':=G') (E:=E) h3;refine⟨rfl,rfl,by simp[c1,d1],fun m c u hc hu=>?_⟩;simp only[cy,aq]at hc;obtain⟨y,hy,rfl⟩:=hc
      have hm:m<cs.length:=by have:=(aw.1 hy).1;omega
      have hcm:cs[m]? =some cs[m]:=ax hm;exact d2 hle (fun id hid=>hg id (ab0 _ hid)) m _ y u hcm hy (c2 m _ u hcm hu)
     |succ k=>simp at hp' hq0 hq';exact i2 k p' q0 q' hp' hq0 hq'
    cases hp
   cases hp
theorem a7l{α:Type}(sz:Nat):∀(n:Nat) (l:List α),l.length=n*sz→(chunks sz n l).length=n∧∀i e,(chunks sz n l)[i]? =some e→e.length=sz∧∀j,j<sz→e[j]? =l[i*sz+j]? :=by
 intro n
 induction n with
 |zero=>intro l _;simp[chunks]
 |succ n ih=>
  intro l hl;rw[jn,Bt]at hl;obtain⟨i1,i2⟩:=ih (l.drop sz) (by simp;omega);refine⟨by simp[chunks,i1],fun i e he=>?_⟩
  cases i with
  |zero=>
   simp only[chunks,dv,ak]at he;subst he;refine⟨by simp;omega,fun j hj=>?_⟩;rw[jv,bd hj,amp,gd]
  |succ i=>
   simp only[chunks,i7]at he;obtain⟨k1,k2⟩:=i2 i e he;refine⟨k1,fun j hj=>?_⟩;rw[k2 j hj,og,jn,Bt]
   congr 1
   omega
theorem a9k(h:jf B0 w0 nt G0 s G E a w){z:List D}{zv:Value}(hz:O8 G E s (z.map .d) zv.cells){n:Nat}(h0:0<z.length):
  O8 G E s (((jb n z).flatten).map .d) ((aLe (n*z.length)).map (zv.cells[· %zv.cells.size]!)):=by
 obtain⟨h1,h2⟩:=hz;simp only[ag]at h1;refine⟨by simp,fun i c u hc hu=>?_⟩
 have hi:i<n*z.length:=by
  have:=(aw.1 hc).1;simpa using this
 have atm:∀(n i:Nat),i<n*z.length→((jb n z).flatten)[i]? =z[i%z.length]? :=by
  intro n
  induction n with
  |zero=>intro i hi;simp at hi
  |succ n ih=>
   intro i hi;rw[aJx,avf,Nv];rw[jn,Bt]at hi;split
   ·rename_i hlt;rw[aaw hlt]
   rename_i hge;rw[ih (i-z.length) (by omega)]
   congr 1
   conv=>rhs;rw[show i=(i-z.length)+z.length by omega]
   rw[Nat.add_mod_right]
 rw[cy,atm n i hi]at hc;simp only[Xu,avq,hi,cz,ir,ak]at hu;have hm:i%z.length<z.length:=a8a _ h0
 have hm':i%zv.cells.size<zv.cells.size:=by rw[h1];exact hm
 rw[h1]at hu;refine h2 (i%z.length) c u (by rw[cy];exact hc) ?_;rw[←hu,getElem!_pos _ _ (by rw[h1];exact hm)];exact bh _
end
end Go.PI
