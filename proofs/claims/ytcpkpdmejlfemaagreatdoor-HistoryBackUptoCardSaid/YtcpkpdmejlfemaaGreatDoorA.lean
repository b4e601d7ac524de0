/- A part of the proof for HistoryBack: PA to PS10. Printed from longer texts. -/
import Derived.Calls
import Derived.Orders
import Derived.Below
import Derived.Laws.Cells
import Derived.Laws.CopyRow
import Derived.Laws.Tables
import Derived.Laws.StructEq
import Derived.ChangeKeysEq
import Derived.Laws.AppendOwn
set_option linter.all false
set_option maxHeartbeats 64000000
open And renaming intro→aGv
open Array renaming eq_empty_of_size_eq_zero→Ud,getD_eq_getD_getElem?→jo,getElem?_append→F7,getElem?_eq_getElem→av,getElem?_eq_some_iff→j4,getElem?_extract→Yr,getElem?_map→Uc,getElem?_range→aqb,getElem?_setIfInBounds_ne→T8,getElem?_setIfInBounds_self→Qd,length_toList→rh,mapM_eq_mapM_toList→a6f,range→aGk,replicate→ag7,size_append→T7
open BitVec renaming ofInt→aB1
open Bool renaming and_true→F9,false_eq_true→ec,true_and→qu
open Eq renaming refl→dz,trans→db
open Go.Builtin renaming append_→vq,firstCells→ju,len_→aG4,nextslicecap→aEz,zeroCells→jm
open Go.Instr renaming build→aG6,extract→aFa,index→aGe,indexAt→aE4,loadAt→aG1,storeAt→aAr,sureAddr→axu
open Go.IntKind renaming i64→kc,signed→aFk,wrap→Mx
open Go.Op renaming bytesLess→ahr,eqFields→aGg,equal→aEo,equalIn→aGn,maxDepth→aGd
open Go.Program renaming cellsOf→aAn
open Go.Region renaming binds→aFc,ready→ahp
open Go.Result renaming andThen_ok→aw
open Go.Sem renaming run_bind→ba,run_map→aGf,run_pure→dc
open Go.Value renaming pointer→aFw
open Go.World renaming cell?→aG5
open List renaming all_eq_true→ck,append_assoc→we,cons_append→vp,drop_drop→ahw,drop_eq_getElem_cons→gd,eq_nil_of_length_eq_zero→jb,flatten_cons→aq1,flatten_nil→aE1,foldl_cons→ya,getElem?_append→Ku,getElem?_cons_succ→jx,getElem?_cons_zero→ff,getElem?_drop→lv,getElem?_eq_getElem→ao,getElem?_eq_none→a2z,getElem?_eq_some_iff→aq,getElem?_map→bp,getElem?_of_mem→aEu,getElem?_range→Jx,getElem?_set→pv,getElem?_take→j0,getElem?_toArray→xq,getElem_mem→bz,length→Cq,length_append→cb,length_cons→bq,length_drop→qn,length_map→ae,length_nil→dh,length_set→Fx,length_take→dd,length_take_le'→aq8,map_congr_left→Mv,map_cons→cu,map_drop→av0,map_take→J7,mem_append_left→a68,mem_append_right→a2y,mem_cons→dn,mem_map→jc,mem_of_getElem?→lx,mem_range→du,mem_singleton→Ua,not_mem_nil→jg,range→cq,range'→ag6,range'_succ→aDz,range_eq_range'→aEs,replicate→gu,replicate_succ→aF3,size_toArray→T5
open Nat renaming add_assoc→p8,add_mul→iw,add_zero→xu,div_lt_iff_lt_mul→aEi,eq_zero_or_pos→a34,le_of_eq→aFf,le_of_lt→aFy,le_refl→ar,le_trans→gn,min_eq_left→ag5,mod_eq_of_lt→a63,mod_lt→a30,mul_comm→aFx,mul_le_mul_right→ep,not_lt→aGp,one_mul→zn,zero_add→eh,zero_mul→aht
open Option renaming bind_some→a62,getD_some→j3,isSome_iff_exists→jl,map→aGm,map_eq_some_iff→ak,map_some→gz
open Option.some renaming injEq→ah
open Prod.mk renaming injEq→ay
namespace Go.PI
open Go Go.RowKit
inductive D where
 |int (k:IntKind) (n:Int)
 |bool (b:Bool)
 |str (s:ByteArray)
 |bd
 |dt (sz:Nat) (l:List (List D))
 |Kx
 |agg (cs:List D)
 |yi (vs:List D)
 |Ti
 |tz (cells:List D) (off:Nat)
 |L0
 |map (es:List (D×D))
 |mb (f:Nat) (caps:List D)
 |td
 |any
 deriving Inhabited
structure fc where
 cv:Nat→Nat→Option Value
 mv:Nat→Option (List (Value×Value))
inductive fh(G:fc):D→Value→Prop
 |int {k n}:fh G (.int k n) (.int k n)
 |bool {b}:fh G (.bool b) (.bool b)
 |str {s}:fh G (.str s) (.string s)
 |bd:fh G .bd (.slice none 0 0)
 |dt {sz:Nat} {l:List (List D)} {b o c:Nat} (hc:l.length≤c) (hs:∀(i:Nat) (e:List D),l[i]? =some e→e.length=sz)
   (h1:∀i j,i<l.length→j<sz→(G.cv b (o+i*sz+j)).isSome)
   (h2:∀(i:Nat) (e:List D) (j:Nat) (x:D) (v:Value),l[i]? =some e→e[j]? =some x→G.cv b (o+i*sz+j)=some v→fh G x v):
   fh G (.dt sz l) (.slice (some ⟨b,o,none⟩) l.length c)
 |Tb {sz:Nat}:fh G (.dt sz []) (.slice none 0 0)
 |Uk {sz:Nat} {a:Addr} {c:Nat}:fh G (.dt sz []) (.slice (some a) 0 c)
 |Kx {a:Addr} {c:Nat}:fh G .Kx (.slice (some a) 0 c)
 |agg {cs:List D} {vs:Array Value} (hl:vs.size=cs.length) (h:∀(i:Nat) (x:D) (v:Value),cs[i]? =some x→vs[i]? =some v→fh G x v):fh G (.agg cs) (.agg vs)
 |yi {cs:List D} {vs:Array Value} (hl:vs.size=cs.length) (h:∀(i:Nat) (x:D) (v:Value),cs[i]? =some x→vs[i]? =some v→fh G x v):fh G (.yi cs) (.tuple vs)
 |Ti:fh G .Ti (.pointer none)
 |tz {cells:List D} {b o off:Nat} (h1:∀j,j<cells.length→(G.cv b (o+j)).isSome)
   (h2:∀(j:Nat) (x:D) (v:Value),cells[j]? =some x→G.cv b (o+j)=some v→fh G x v):fh G (.tz cells off) (.pointer (some ⟨b,o+off,none⟩))
 |L0:fh G .L0 (.map none)
 |map {es:List (D×D)} {r:Nat} {fs:List (Value×Value)} (h0:G.mv r=some fs) (hl:fs.length=es.length)
   (h1:∀(i:Nat) (e:D×D) (f:Value×Value),es[i]? =some e→fs[i]? =some f→fh G e.1 f.1)
   (h2:∀(i:Nat) (e:D×D) (f:Value×Value),es[i]? =some e→fs[i]? =some f→fh G e.2 f.2):fh G (.map es) (.map (some r))
 |mb {f:Nat} {caps:List D} {vs:Array Value} (hl:vs.size=caps.length) (h:∀(i:Nat) (x:D) (v:Value),caps[i]? =some x→vs[i]? =some v→fh G x v):fh G (.mb f caps) (.func (.func f) #[] vs)
 |td:fh G .td .nilFunc
 |any {v}:fh G .any v
structure fc.le(G G':fc):Prop where
 cv:∀b o v,G.cv b o=some v→G'.cv b o=some v
 mv:∀b es,G.mv b=some es→G'.mv b=some es
theorem fc.le_refl(G:fc):G.le G:=⟨fun _ _ _ h=>h,fun _ _ h=>h⟩
theorem fc.le_trans{A B C:fc}(h:A.le B)(k:B.le C):A.le C:=⟨fun b o v x=>k.cv b o v (h.cv b o v x),fun b es x=>k.mv b es (h.mv b es x)⟩
theorem fh.mono{G G':fc}(hG:G.le G'){x:D}{v:Value}(h:fh G x v):fh G' x v:=by
 induction h with
 |int=>exact .int
 |bool=>exact .bool
 |str=>exact .str
 |bd=>exact .bd
 | @dt sz l b o c hc hs h1 h2 ih=>
  refine .dt hc hs (fun i j hi hj=>?_) (fun i e j x v he hx hv=>?_)
  ·obtain⟨v,hv⟩:=jl.1 (h1 i j hi hj)
   rw[hG.cv _ _ _ hv];rfl
  ·have hil:i<l.length:=(aq.1 he).1
   have hjl:j<sz:=by have:=hs i e he;have:=(aq.1 hx).1;omega
   obtain⟨u,hu⟩:=jl.1 (h1 i j hil hjl);have:=hG.cv _ _ _ hu;rw[this]at hv
   injection hv with hv
   exact ih i e j x v he hx (hv▸hu)
 |Tb=>exact .Tb
 |Uk=>exact .Uk
 |Kx=>exact .Kx
 |agg hl _ ih=>exact .agg hl ih
 |yi hl _ ih=>exact .yi hl ih
 |Ti=>exact .Ti
 | @tz cells b o off h1 h2 ih=>
  refine .tz (fun j hj=>?_) (fun j x v hx hv=>?_)
  ·obtain⟨v,hv⟩:=jl.1 (h1 j hj)
   rw[hG.cv _ _ _ hv];rfl
  ·obtain⟨u,hu⟩:=jl.1 (h1 j (aq.1 hx).1)
   have:=hG.cv _ _ _ hu;rw[this]at hv
   injection hv with hv
   exact ih j x v hx (hv▸hu)
 |L0=>exact .L0
 |map h0 hl _ _ ih1 ih2=>exact .map (hG.mv _ _ h0) hl ih1 ih2
 |mb hl _ ih=>exact .mb hl ih
 |td=>exact .td
 |any=>exact .any
def D.scalar:D→Bool
 | .int .. | .bool _| .str _| .bd| .Ti| .L0| .td| .any=>true
 |_=>false
def D.flat:D→Bool
 | .agg cs=>cs.all D.scalar
 | .yi vs=>vs.all fun| .agg cs=>cs.all D.scalar|x=>x.scalar
 |x=>x.scalar
theorem fh.scalar{G G':fc}{x:D}{v:Value}(hx:x.scalar=true)(h:fh G x v):fh G' x v:=by
 cases h<;>first|(simp[D.scalar]at hx;done)|constructor
theorem fh.aAg{G G':fc}{cs:List D}{v:Value}(hx:cs.all D.scalar=true)(h:fh G (.agg cs) v):fh G' (.agg cs) v:=by
 cases h with
 |agg hl h=>exact .agg hl fun i x v hi hv=>(h i x v hi hv).scalar (ck.1 hx x (lx hi))
theorem fh.flat{G G':fc}{x:D}{v:Value}(hx:x.flat=true)(h:fh G x v):fh G' x v:=by
 cases x with
 |agg cs=>exact h.aAg (by simpa[D.flat]using hx)
 |yi vs=>
  cases h with
  |yi hl h=>
   refine .yi hl fun i x v hi hv=>?_
   have hm:=h i x v hi hv
   have hx':=ck.1 (by simpa only[D.flat]using hx) x (lx hi)
   cases x with
   |agg cs=>exact hm.aAg (by simpa using hx')
   |_=>exact hm.scalar (by simpa using hx')
 |_=>exact h.scalar (by simpa[D.flat]using hx)
structure GOk(G:fc)(w:World):Prop where
 cv:∀b o v,G.cv b o=some v→w.cell? ⟨b,o,none⟩=some v
 mv:∀b es,G.mv b=some es→∃ents clock,w.heap[b]? =some (.map ents clock)∧ents.toList.map (fun e=>(e.key,e.val))=es
theorem GOk.lt{G:fc}{w:World}(h:GOk G w){b o:Nat}{v:Value}(hc:G.cv b o=some v):b<w.heap.size:=
 World.block_lt_of_cell? _ _ (h.cv b o v hc)
theorem GOk.ltm{G:fc}{w:World}(h:GOk G w){b:Nat}{es}(hc:G.mv b=some es):b<w.heap.size:=by
 obtain⟨_,_,hh,_⟩:=h.mv b es hc;exact(j4.1 hh).1
theorem GOk.below{G:fc}{w w':World}(h:GOk G w)(hb:Below w.heap.size w w'):GOk G w' where
 cv b o v hc:=(hb.cell (p:=⟨b,o,none⟩) (h.lt hc)).trans (h.cv b o v hc)
 mv b es hc:=by
  obtain⟨ents,clock,hh,he⟩:=h.mv b es hc;exact⟨ents,clock,(hb.block b (h.ltm hc)).trans hh,he⟩
def fc.same(G G':fc)(n:Nat):Prop:=(∀b o,b<n→G'.cv b o=G.cv b o)∧∀b,b<n→G'.mv b=G.mv b
structure Bel(B:Nat)(w w':World):Prop extends Below B w w' where
 drawn:w.drawn≤w'.drawn
theorem Bel.refl(B:Nat)(w:World):Bel B w w:=⟨Below.refl _ _,ar _⟩
theorem Bel.trans{B:Nat}{a b c:World}(h:Bel B a b)(k:Bel B b c):Bel B a c:=⟨h.toBelow.trans k.toBelow,gn h.drawn k.drawn⟩
theorem Bel.mono{B B':Nat}{w w':World}(h:Bel B w w')(hB:B'≤B):Bel B' w w':=⟨h.toBelow.mono hB,h.drawn⟩
theorem Bel.drew{B:Nat}{a w:World}(h:Bel B a w):Bel B a w.drew:=⟨h.toBelow.drew,Nat.le_succ_of_le h.drawn⟩
theorem Bel.alloc{B:Nat}{a w:World}(h:Bel B a w)(hB:B≤w.heap.size)(o:Obj):Bel B a (w.alloc o):=⟨h.toBelow.alloc hB o,h.drawn⟩
def yh(P:Program)(f:Nat):Bool:=
 match P.funcs[f]? with
 |some fn=>fn.name != "runtime.NumGoroutine"&&fn.body.isSome
 |none=>false
def fp(P:Program)(f:Nat)(args:List D)(r:D):Prop:=
 yh P f=true∧∀(G:fc) (w:World) (vs:Array Value),GOk G w→vs.size=args.length→(∀(i:Nat) (x:D) (v:Value),args[i]? =some x→vs[i]? =some v→fh G x v)→
  Calls P f vs w fun e w'=>∃v G',e= .returned v∧G.le G'∧G.same G' w.heap.size∧GOk G' w'∧Bel w.heap.size w w'∧fh G' r v
def T3(P:Program)(f:Nat)(args:List D)(R:D→Prop):Prop:=
 yh P f=true∧∀(G:fc) (w:World) (vs:Array Value),GOk G w→vs.size=args.length→(∀(i:Nat) (x:D) (v:Value),args[i]? =some x→vs[i]? =some v→fh G x v)→
  Calls P f vs w fun e w'=>∃v G' r,e= .returned v∧R r∧G.le G'∧G.same G' w.heap.size∧GOk G' w'∧Bel w.heap.size w w'∧fh G' r v
theorem fp.toR{P:Program}{f:Nat}{args:List D}{r:D}(h:fp P f args r):T3 P f args (· =r):=
 ⟨h.1,fun G w vs h1 h2 h3=>(h.2 G w vs h1 h2 h3).mono fun _ _ ⟨v,G',k1,k2⟩=>⟨v,G',r,k1,rfl,k2⟩⟩
inductive C where
 |d (x:D)
 |ref (id ver len:Nat)
 |ku (id ver:Nat)
 |ptr (id ver off:Nat)
 deriving Inhabited
inductive V where
 |d (x:D)
 |ref (id ver len:Nat)
 |ku (id ver:Nat)
 |dv (id ver off:Nat)
 |Fl (id ver ln i off:Nat)
 |mb (f:Nat) (ids:List (Nat×Nat))
 |agg (cs:List C)
 |yi (cs:List C)
 |Ig (id ver len n:Nat)
 |Fo (id ver n a:Nat)
 |win (id ver n o l:Nat)
 |no
 deriving Inhabited
def C.toV:C→V
 | .d x=> .d x
 | .ref i v l=> .ref i v l
 | .ku i v=> .ku i v
 | .ptr i v o=> .dv i v o
inductive B where
 |arr (sz:Nat) (els:List (List D))
 |ny (sz:Nat) (els:List (List C))
 |loc (cs:List C)
 |Ph (n:Nat)
 deriving Inhabited
def B.isVar:B→Bool
 | .arr .. =>false
 | .ny .. =>false
 |_=>true
def B.Bg:B→Option (Nat×Nat)
 | .arr sz els=>some (sz,els.length)
 | .ny sz els=>some (sz,els.length)
 |_=>none
structure PS where
 tmp:Nat→V
 bm:Nat→Option B
 ver:Nat→Nat
 mp:Nat→Option (List (D×C))
 base:Nat:=0
 ctx:Nat→V×Value:=fun _=>(.no,.tuple #[])
def PS.Bg(s:PS)(id:Nat):Option (Nat×Nat):=(s.bm id).bind B.Bg
def jf{α:Type}(f:Nat→α)(i:Nat)(v:α):Nat→α:=fun j=>if j=i then v else f j
theorem bh{α:Type}(f:Nat→α)(i:Nat)(v:α):jf f i v i=v:=by simp[jf]
theorem er{α:Type}(f:Nat→α)(i j:Nat)(v:α)(h:j≠i):jf f i v j=f j:=by simp[jf,h]
theorem al{α:Type}(f:Nat→α)(i j:Nat)(v:α):jf f i v j=if j=i then v else f j:=rfl
structure Env where
 b:Nat→Nat
 n:Nat→Nat
 m:Nat→Nat
def fm(G:fc)(E:Env)(s:PS):V→Value→Prop
 | .d x,v=>fh G x v
 | .ref id ver len,v=>ver≤s.ver id∧(s.ver id=ver→∀sz n,s.Bg id=some (sz,n)→len≤n∧(n=len→
   ∃cap,E.n id=cap*sz∧len≤cap∧v= .slice (some ⟨E.b id,0,none⟩) len cap))
 | .ku id ver,v=>ver≤s.ver id∧(s.ver id=ver→(s.mp id).isSome→v= .map (some (E.m id)))
 | .dv id ver off,v=>ver≤s.ver id∧(s.ver id=ver→(∃b,s.bm id=some b∧b.isVar=true)→v= .pointer (some ⟨E.b id,off,none⟩))
 | .Fl id ver ln i off,v=>ver≤s.ver id∧(s.ver id=ver→∀sz n,s.Bg id=some (sz,n)→ln≤n∧(n=ln→v= .pointer (some ⟨E.b id,i*sz+off,none⟩)))
 | .mb f ids,v=>(∀p∈ids,p.2≤s.ver p.1)∧((∀p∈ids,s.ver p.1=p.2∧∃b,s.bm p.1=some b∧b.isVar=true)→
   v= .func (.func f) #[] (ids.map fun p=>aFw (some ⟨E.b p.1,0,none⟩)).toArray)
 | .agg cs,v=>∃vs:Array Value,v= .agg vs∧vs.size=cs.length∧∀(i:Nat) (c:C) (u:Value),cs[i]? =some c→vs[i]? =some u→
   match c with
   | .d x=>fh G x u
   | .ref id ver len=>ver≤s.ver id∧(s.ver id=ver→∀sz n,s.Bg id=some (sz,n)→len≤n∧(n=len→
     ∃cap,E.n id=cap*sz∧len≤cap∧u= .slice (some ⟨E.b id,0,none⟩) len cap))
   | .ku id ver=>ver≤s.ver id∧(s.ver id=ver→(s.mp id).isSome→u= .map (some (E.m id)))
   | .ptr id ver off=>ver≤s.ver id∧(s.ver id=ver→(∃b,s.bm id=some b∧b.isVar=true)→u= .pointer (some ⟨E.b id,off,none⟩))
 | .yi cs,v=>∃vs:Array Value,v= .tuple vs∧vs.size=cs.length∧∀(i:Nat) (c:C) (u:Value),cs[i]? =some c→vs[i]? =some u→
   match c with
   | .d x=>fh G x u
   | .ref id ver len=>ver≤s.ver id∧(s.ver id=ver→∀sz n,s.Bg id=some (sz,n)→len≤n∧(n=len→
     ∃cap,E.n id=cap*sz∧len≤cap∧u= .slice (some ⟨E.b id,0,none⟩) len cap))
   | .ku id ver=>ver≤s.ver id∧(s.ver id=ver→(s.mp id).isSome→u= .map (some (E.m id)))
   | .ptr id ver off=>ver≤s.ver id∧(s.ver id=ver→(∃b,s.bm id=some b∧b.isVar=true)→u= .pointer (some ⟨E.b id,off,none⟩))
 | .Ig id ver len _,v=>ver≤s.ver id∧(s.ver id=ver→(∃b,s.bm id=some b∧b.isVar=true)→v= .slice (some ⟨E.b id,0,none⟩) len len)
 | .Fo id ver n a,v=>a≤n∧ver≤s.ver id∧(s.ver id=ver→∀sz m,s.Bg id=some (sz,m)→n≤m∧(m=n→(∃cap,E.n id=cap*sz∧n≤cap)∧v= .slice (some ⟨E.b id,0,none⟩) a a))
 | .win id ver n o l,v=>(o+l≤n∧0<n)∧ver≤s.ver id∧(s.ver id=ver→∀sz m,s.Bg id=some (sz,m)→n≤m∧(m=n→
   ∃C cap off,E.n id=C*sz∧n≤o+cap∧o+cap≤C∧l≤cap∧(cap=0∨off=o*sz)∧v= .slice (some ⟨E.b id,off,none⟩) l cap))
 | .no,_=>True
def ub(G:fc)(E:Env)(s:PS)(c:C)(u:Value):Prop:=fm G E s c.toV u
theorem Cv{G:fc}{E:Env}{s:PS}{cs:List C}{v:Value}:
  fm G E s (.agg cs) v↔∃vs:Array Value,v= .agg vs∧vs.size=cs.length∧∀(i:Nat) (c:C) (u:Value),cs[i]? =some c→vs[i]? =some u→ub G E s c u:=by
 constructor
 ·rintro⟨vs,h1,h2,h3⟩
  refine⟨vs,h1,h2,fun i c u hc hu=>?_⟩
  have:=h3 i c u hc hu;cases c<;>exact this
 ·rintro⟨vs,h1,h2,h3⟩
  refine⟨vs,h1,h2,fun i c u hc hu=>?_⟩
  have:=h3 i c u hc hu;cases c<;>exact this
theorem I6{G:fc}{E:Env}{s:PS}{cs:List C}{v:Value}:
  fm G E s (.yi cs) v↔∃vs:Array Value,v= .tuple vs∧vs.size=cs.length∧∀(i:Nat) (c:C) (u:Value),cs[i]? =some c→vs[i]? =some u→ub G E s c u:=by
 constructor
 ·rintro⟨vs,h1,h2,h3⟩
  refine⟨vs,h1,h2,fun i c u hc hu=>?_⟩
  have:=h3 i c u hc hu;cases c<;>exact this
 ·rintro⟨vs,h1,h2,h3⟩
  refine⟨vs,h1,h2,fun i c u hc hu=>?_⟩
  have:=h3 i c u hc hu;cases c<;>exact this
def Q3(G:fc)(E:Env)(s:PS)(B0:Nat)(w:World)(id:Nat)(b:B):Prop:=
 B0≤E.b id∧(∀o,G.cv (E.b id) o=none)∧∃cells et,w.heap[E.b id]? =some (.cells cells et (0,0))∧E.n id≤cells.size∧
  match b with
  | .arr sz els=>els.length*sz≤cells.size∧(∀(i:Nat) (e:List D),els[i]? =some e→e.length=sz)∧
    ∀(i:Nat) (e:List D) (j:Nat) (x:D) (u:Value),els[i]? =some e→e[j]? =some x→cells[i*sz+j]? =some u→fh G x u
  | .ny sz els=>els.length*sz≤cells.size∧(∀(i:Nat) (e:List C),els[i]? =some e→e.length=sz)∧
    ∀(i:Nat) (e:List C) (j:Nat) (x:C) (u:Value),els[i]? =some e→e[j]? =some x→cells[i*sz+j]? =some u→ub G E s x u
  | .loc cs=>cs.length=cells.size∧∀(j:Nat) (c:C) (u:Value),cs[j]? =some c→cells[j]? =some u→ub G E s c u
  | .Ph n=>n=cells.size
def Xp(ents:Array MapEntry)(clock:Nat):Prop:=
 (∀(i:Nat) (x:MapEntry),ents[i]? =some x→x.born<clock)∧∀(i j:Nat) (x y:MapEntry),ents[i]? =some x→ents[j]? =some y→x.born=y.born→i=j
structure i6(B0:Nat)(w0:World)(nt:Nat)(G0:fc)(s:PS)(G:fc)(E:Env)(a:Act)(w:World):Prop where
 size:a.tmps.size=nt
 defers:a.defers=[]
 base:B0=w0.heap.size
 below:Bel B0 w0 w
 gok:GOk G w
 gle:G0.le G
 Gk:G0.same G B0
 tmp:∀t,fm G E s (s.tmp t) (a.tmps.getD t undef)
 bm:∀id b,s.bm id=some b→Q3 G E s B0 w id b
 inj:∀i j bi bj,s.bm i=some bi→s.bm j=some bj→i≠j→E.b i≠E.b j
 mp:∀id es,s.mp id=some es→B0≤E.m id∧G.mv (E.m id)=none∧∃ents clock,w.heap[E.m id]? =some (.map ents clock)∧
  ents.size=es.length∧(∀(i:Nat) (e:D×C) (x:MapEntry),es[i]? =some e→ents[i]? =some x→fh G e.1 x.key∧ub G E s e.2 x.val)∧Xp ents clock
 Oi:∀i j bi bj,s.mp i=some bi→s.mp j=some bj→i≠j→E.m i≠E.m j
 ctx:∀i,fm G E s (s.ctx i).1 (s.ctx i).2
inductive lb where
 |t (n:Nat)
 |c (x:D)
 deriving Inhabited
inductive TK where
 |str|dt|map|ptr|fn
 deriving DecidableEq,Inhabited
inductive LK where
 |int|bool|str
 deriving DecidableEq,Inhabited
inductive KK where
 |one (k:LK)
 |row (ks:List LK)
 deriving Inhabited
inductive j6 where
 |ij (x:lb)
 |pick (c a b:lb)
 |alloc (zero:List D)
 |box (n:Nat) (x:lb)
 |load (n:Nat) (agg:Bool) (x:lb)
 |store (n:Nat) (a x:lb)
 |V3 (x:lb)
 |xj (off:Nat) (x:lb)
 |tf (len n:Nat) (x i:lb)
 |te (n:Nat) (x i:lb)
 |Wy (x i:lb)
 |Zh (off n:Nat) (agg:Bool) (x:lb)
 |len (k:TK) (x:lb)
 |bin (op:BinOp) (x y:lb)
 |eqs (ks:List LK) (neg:Bool) (x y:lb)
 |Hp (k:TK) (neg:Bool) (x:lb)
 |beq (neg:Bool) (x y:lb)
 |un (op:UnOp) (x:lb)
 |conv (k:IntKind) (x:lb)
 |Ye (x:lb)
 |build (zero:List D) (parts:List (Nat×Nat×lb))
 |xi (im:Bool) (n sz:Nat) (zero:List D) (parts:List (Nat×Nat×lb))
 |app (sz bytes:Nat) (x y:lb)
 |Xg (n sz:Nat) (zero:List D) (parts:List (Nat×Nat×lb))
 |Xc (kk:KK) (sz bytes:Nat) (x k y:lb) (ts:List Nat)
 |Zi (sz bytes:Nat) (zero:List D) (x y:lb)
 |a8n (x:lb)
 |a8v (len n:Nat) (x:lb)
 |Fo (n:Nat) (x j k:lb)
 |Le (n:Nat) (x j:lb)
 |Kv (n:Nat) (x:lb) (lo hi mx:Option lb)
 |trim (x:lb)
 |clr (z:List D) (x:lb)
 |bad
 |slice (n:Nat) (x:lb) (lo hi:Option lb)
 |Ho
 |lookup (kk:KK) (zero:D) (x i:lb) (ok:Bool)
 |Wq (kk:KK) (x k v:lb)
 |Kr (f:Nat) (caps:List lb)
 |ext (x:lb) (i:Nat)
 |Ce (mx:Bool) (x y:lb)
 |call (f:Nat) (args:List lb)
 |vb (f:lb) (args:List lb)
 |w8 (n:Nat)
 |init (g n:Nat) (x:lb)
 |slice3 (n:Nat) (x j k:lb)
 |a14 (len n:Nat) (agg:Bool) (x i:lb)
 |ti (f:Nat) (args:List lb)
 |M0 (f:Nat) (args:List lb)
 |Kn (f:lb) (args:List lb)
 |pz (f:Nat) (args:List lb)
 |Lz (f:lb) (args:List lb)
 deriving Inhabited
structure RI where
 dst:Option Nat
 op:j6
 guard:Option (Nat×Bool)
 after:List Nat
 deriving Inhabited
inductive cn where
 |skip
 |region (ops:List RI) (draw:Bool) (rb:List Nat)
 |seq (a b:cn)
 |cond (c:lb) (a b:cn)
 |block (id:Nat) (c:cn)
 |loop (c:cn)
 |freeze
 |both (a b:cn)
 |exit (id:Nat)
 |ret
 deriving Inhabited
def lb.ev(s:PS):lb→V
 | .t n=>s.tmp n
 | .c x=> .d x
structure Mem where
 bm:Nat→Option B
 ver:Nat→Nat
 mp:Nat→Option (List (D×C))
def PS.mem(s:PS):Mem:=⟨s.bm,s.ver,s.mp⟩
def PS.gl(s:PS)(m:Mem):PS:={s with bm:=m.bm,ver:=m.ver,mp:=m.mp}
inductive kn where
 |val (v:V)
 |new (v:V) (id:Nat) (b:B)
 |set (id:Nat) (b:B)
 |grow (v:V) (id:Nat) (b:B)
 |Yu (v:V) (id:Nat)
 |W9 (id:Nat) (es:List (D×C))
 |init (v:V) (t id:Nat) (cs:List C)
 |Gf (id:Nat) (b:B) (id2:Nat) (b2:B)
 |cut (v:V) (id:Nat) (b:B)
 |mem (m:Mem) (v:V)
abbrev a2t:=List Nat×kn
def kn.qj(v:V):a2t:=([],.val v)
def J4:List C→Option (List D)
 |[]=>some []
 | .d x::r=>match J4 r with|some l=>some (x::l)|none=>none
 |_::_=>none
def mkv(agg:Bool)(cs:List C):V:=
 match agg,J4 cs,cs with
 |true,some ds,_=> .d (.agg ds)
 |true,none,cs=> .agg cs
 |false,_,[c]=>c.toV
 |false,_,_=> .no
def mkd(agg:Bool)(ds:List D):V:=
 match agg,ds with
 |true,ds=> .d (.agg ds)
 |false,[x]=> .d x
 |false,_=> .no
def D.one:D→Bool
 | .agg _| .yi _| .any=>false
 |_=>true
def patch{α:Type}(l:List α)(off:Nat)(xs:List α):List α:=l.take off++xs++l.drop (off+xs.length)
def PS.els(s:PS)(id ver:Nat):Option (Nat×List (List D)):=
 if s.ver id=ver then match s.bm id with
  |some (.arr sz els)=>some (sz,els)
  |_=>none
 else none
def PS.cs(s:PS)(id ver:Nat):Option (List C):=
 if s.ver id=ver then match s.bm id with
  |some (.loc cs)=>some cs
  |_=>none
 else none
def PS.ents(s:PS)(id ver:Nat):Option (List (D×C)):=
 if s.ver id=ver then s.mp id else none
def PS.Gl(s:PS)(id ver:Nat):Option (Nat×Nat):=
 if s.ver id=ver then match s.bm id with
  |some b=>b.Bg
  |none=>none
 else none
def PS.elc(s:PS)(id ver:Nat):Option (Nat×List (List C)):=
 if s.ver id=ver then match s.bm id with
  |some (.arr sz els)=>some (sz,els.map (·.map .d))
  |some (.ny sz els)=>some (sz,els)
  |_=>none
 else none
def Yl:List (List C)→Option (List (List D))
 |[]=>some []
 |e::r=>match J4 e,Yl r with
  |some x,some l=>some (x::l)
  |_,_=>none
def Uz:B→B
 | .ny sz els=>match Yl els with
  |some ds=> .arr sz ds
  |none=> .ny sz els
 |b=>b
def V.live(s:PS):V→Bool
 | .d _=>true
 | .ref id ver len=>match s.Gl id ver with
  |some (_,n)=>n==len
  |none=>false
 | .ku id ver=>(s.ents id ver).isSome
 | .dv id ver _=>(s.cs id ver).isSome
 | .Fl id ver ln _ _=>match s.Gl id ver with
  |some (_,n)=>n==ln
  |none=>false
 | .mb _ ids=>ids.all fun p=>(s.cs p.1 p.2).isSome
 | .agg _=>true
 | .yi _=>true
 | .Ig id ver _ _=>(s.cs id ver).isSome
 | .Fo id ver m _=>match s.Gl id ver with
  |some (_,n)=>n==m
  |none=>false
 | .win id ver m _ _=>match s.Gl id ver with
  |some (_,n)=>n==m
  |none=>false
 | .no=>false
def C.one(s:PS):C→Bool
 | .d x=>x.one
 | .ref i v l=>(V.ref i v l).live s
 | .ku i v=>(V.ku i v).live s
 | .ptr i v o=>(V.dv i v o).live s
def V.cells(s:PS):V→Option (List C)
 | .d (.agg ds)=>some (ds.map .d)
 | .d (.yi _)=>none
 | .d .any=>none
 | .d x=>some [.d x]
 | .ref i v l=>match s.Gl i v with
  |some (_,n)=>if n=l then some [.ref i v l]else none
  |none=>none
 | .ku i v=>match s.ents i v with
  |some _=>some [.ku i v]
  |none=>none
 | .dv i v o=>match s.cs i v with
  |some _=>some [.ptr i v o]
  |none=>none
 | .agg cs=>some cs
 |_=>none
def A8(s:PS)(n:Nat)(agg:Bool):V→Option V
 | .dv id ver off=>match s.cs id ver with
  |some cs=>if off+n≤cs.length then some (mkv agg ((cs.drop off).take n))else none
  |none=>none
 | .Fl id ver ln i off=>match s.els id ver with
  |some (_,els)=>match els[i]? with
   |some e=>if els.length=ln∧off+n≤e.length then some (mkd agg ((e.drop off).take n))else none
   |none=>none
  |none=>match s.elc id ver with
   |some (_,els)=>match els[i]? with
    |some e=>if els.length=ln∧off+n≤e.length then some (mkv agg ((e.drop off).take n))else none
    |none=>none
   |none=>none
 | .d (.tz cells off)=>if off+n≤cells.length then some (mkd agg ((cells.drop off).take n))else none
 |_=>none
def Cu(s:PS)(n:Nat)(xs:List C)(id ver ln i off:Nat):Option a2t:=
 match s.elc id ver with
 |some (sz,els)=>match els[i]? with
  |some e=>if xs.all (C.one s)=true∧els.length=ln∧xs.length=n∧off+n≤e.length then some ([],.set id (.ny sz (els.set i (patch e off xs))))else none
  |none=>none
 |none=>none
def w9(s:PS)(n:Nat)(xs:List C):V→Option a2t
 | .dv id ver off=>match s.cs id ver with
  |some cs=>if xs.all (C.one s)=true∧xs.length=n∧off+n≤cs.length then some ([],.set id (.loc (patch cs off xs)))else none
  |none=>none
 | .Fl id ver ln i off=>match s.els id ver with
  |some (sz,els)=>match els[i]?,J4 xs with
   |some e,some ds=>if xs.all (C.one s)=true∧els.length=ln∧ds.length=n∧off+n≤e.length then some ([],.set id (.arr sz (els.set i (patch e off ds))))else none
   |_,_=>Cu s n xs id ver ln i off
  |none=>Cu s n xs id ver ln i off
 |_=>none
def v8(s:PS)(n:Nat):V→V→Option a2t
 | .Fo id ver m j,.dv id2 av8 off=>match s.bm id,s.cs id2 av8 with
  |some (.arr sz els),some cs=>if n=1∧s.ver id=ver∧els.length=m∧off+1≤cs.length then some ([],.Gf id (.arr sz (els.take j)) id2 (.loc (patch cs off [.ref id (ver+1) j])))else none
  |some (.ny sz els),some cs=>if n=1∧s.ver id=ver∧els.length=m∧off+1≤cs.length then some ([],.Gf id (.ny sz (els.take j)) id2 (.loc (patch cs off [.ref id (ver+1) j])))else none
  |_,_=>none
 |_,_=>none
def Ox(s:PS)(off:Nat):V→Option V
 | .dv id ver o=>match s.cs id ver with
  |some _=>some (.dv id ver (o+off))
  |none=>none
 | .Fl id ver ln i o=>match s.Gl id ver with
  |some (_,n)=>if n=ln then some (.Fl id ver ln i (o+off))else none
  |none=>none
 | .d (.tz cells o)=>some (.d (.tz cells (o+off)))
 |_=>none
def I3(s:PS)(n:Nat)(i:Int):V→Option V
 | .ref id ver len=>match s.Gl id ver with
  |some (sz,m)=>if sz=n∧m=len∧0≤i∧i<len then some (.Fl id ver len i.toNat 0)else none
  |none=>none
 | .d (.dt sz l)=>if 0≤i∧sz=n then match l[i.toNat]? with
   |some e=>some (.d (.tz e 0))
   |none=>none
  else none
 | .Ig id ver len sz=>if(s.cs id ver).isSome=true∧sz=n∧0≤i∧i<len then some (.dv id ver (i.toNat*n))else none
 |_=>none
def Lw(s:PS):TK→V→Option Int
 | .dt,.d (.dt _ l)=>some l.length
 | .dt,.d .bd=>some 0
 | .dt,.d .Kx=>some 0
 | .str,.d (.str b)=>some b.size
 | .map,.d .L0=>some 0
 | .map,.d (.map es)=>some es.length
 | .dt,.ref id ver len=>match s.Gl id ver with
  |some (_,n)=>if n=len then some len else none
  |none=>none
 | .map,.ku id ver=>match s.ents id ver with
  |some es=>some es.length
  |none=>none
 | .dt,.win id ver m _ l=>match s.Gl id ver with
  |some (_,n)=>if n=m then some l else none
  |none=>none
 | .dt,.Ig id ver len _=>if(s.cs id ver).isSome=true then some len else none
 |_,_=>none
def aga(op:BinOp)(a b:ByteArray):Option D:=
 match op with
 | .eql=>some (.bool (a.toList==b.toList))
 | .neq=>some (.bool !(a.toList==b.toList))
 | .lss=>some (.bool (ahr a.toList b.toList))
 | .leq=>some (.bool (ahr a.toList b.toList||a.toList==b.toList))
 | .gtr=>some (.bool !(ahr a.toList b.toList||a.toList==b.toList))
 | .geq=>some (.bool !(ahr a.toList b.toList))
 | .add=>if a.size+b.size≤2^40 then some (.str (a++b))else none
 |_=>none
def Y7(op:BinOp)(k:IntKind)(a b:Int):Option D:=
 match op with
 | .add=>some (.int k (k.wrap (a+b)))
 | .sub=>some (.int k (k.wrap (a-b)))
 | .mul=>some (.int k (k.wrap (a*b)))
 | .quo=>if b=0 then none else some (.int k (k.wrap (a.tdiv b)))
 | .rem=>if b=0 then none else some (.int k (a.tmod b))
 | .and=>some (.int k (k.wrap (aB1 k.bits a&&&aB1 k.bits b).toNat))
 | .or=>some (.int k (k.wrap (aB1 k.bits a|||aB1 k.bits b).toNat))
 | .xor=>some (.int k (k.wrap (aB1 k.bits a^^^aB1 k.bits b).toNat))
 | .andNot=>some (.int k (k.wrap (aB1 k.bits a&&& ~~~aB1 k.bits b).toNat))
 | .eql=>some (.bool (a==b))
 | .neq=>some (.bool (a !=b))
 | .lss=>some (.bool (a<b))
 | .leq=>some (.bool (a≤b))
 | .gtr=>some (.bool (a>b))
 | .geq=>some (.bool (a≥b))
 | .shl=>if b<0 then none else some (.int k (k.wrap (a*2^(min b.toNat k.bits))))
 | .shr=>if b<0 then none else some (.int k (a.fdiv (2^(min b.toNat k.bits))))
def a4g(op:BinOp):D→D→Option D
 | .int k a,.int k' b=>if op= .shl∨op= .shr∨k=k' then Y7 op k a b else none
 | .str a,.str b=>aga op a b
 |_,_=>none
def Ls:LK→D→D→Option Bool
 | .int,.int k a,.int k' b=>if k=k' then some (a==b)else none
 | .str,.str a,.str b=>some (a==b)
 | .bool,.bool a,.bool b=>some (a==b)
 |_,_,_=>none
def yr:List LK→List D→List D→Option Bool
 |[],[],[]=>some true
 |k::ks,a::x,b::y=>match Ls k a b,yr ks x y with
  |some p,some q=>some (p&&q)
  |_,_=>none
 |_,_,_=>none
def Cs:KK→D→D→Option Bool
 | .one k,a,b=>Ls k a b
 | .row ks,.agg x,.agg y=>yr ks x y
 |_,_,_=>none
def isNil(s:PS):TK→V→Option Bool
 | .dt,.d .bd=>some true
 | .dt,.d .Kx=>some false
 | .dt,.d (.dt _ (_::_))=>some false
 | .dt,.ref i v l=>if(V.ref i v l).live s then some false else none
 | .ptr,.d .Ti=>some true
 | .ptr,.d (.tz ..)=>some false
 | .ptr,.dv i v o=>if(V.dv i v o).live s then some false else none
 | .ptr,.Fl i v l j o=>if(V.Fl i v l j o).live s then some false else none
 | .map,.d .L0=>some true
 | .map,.d (.map _)=>some false
 | .map,.ku i v=>if(V.ku i v).live s then some false else none
 | .fn,.d .td=>some true
 | .fn,.d (.mb ..)=>some false
 | .fn,.mb f ids=>if(V.mb f ids).live s then some false else none
 |_,_=>none
def Vr:List (D×C)→Option (List (D×D))
 |[]=>some []
 |(k,.d x)::r=>match Vr r with
  |some l=>some ((k,x)::l)
  |none=>none
 |_::_=>none
def Nr(s:PS):C→Option (D×List Nat)
 | .d x=>some (x,[])
 | .ref id ver len=>match s.els id ver with
  |some (sz,els)=>if els.length=len then some (.dt sz els,[id])else none
  |none=>none
 | .ku id ver=>match s.ents id ver with
  |some es=>(Vr es).map fun ds=>(.map ds,[id])
  |none=>none
 | .ptr .. =>none
def Mh(s:PS):List C→Option (List D×List Nat)
 |[]=>some ([],[])
 |c::r=>match Nr s c,Mh s r with
  |some (x,i),some (l,j)=>some (x::l,i++j)
  |_,_=>none
def Ju:List C→List (Nat×Nat×List C)→Option (List C)
 |cells,[]=>some cells
 |cells,(off,n,xs)::r=>if xs.length=n∧off+n≤cells.length then Ju (patch cells off xs) r else none
def R5:List D→List (Nat×Nat×List D)→Option (List D)
 |cells,[]=>some cells
 |cells,(off,n,xs)::r=>if xs.length=n∧off+n≤cells.length then R5 (patch cells off xs) r else none
def Hl(s:PS):List (Nat×Nat×lb)→Option (List (Nat×Nat×List C))
 |[]=>some []
 |(o,n,x)::r=>match(x.ev s).cells s,Hl s r with
  |some cs,some l=>some ((o,n,cs)::l)
  |_,_=>none
def Lp(s:PS):List (Nat×Nat×lb)→Option (List (Nat×Nat×List D)×List Nat)
 |[]=>some ([],[])
 |(o,n,x)::r=>match(x.ev s).cells s,Lp s r with
  |some cs,some (l,j)=>match Mh s cs with
   |some (ds,i)=>some ((o,n,ds)::l,i++j)
   |none=>none
  |_,_=>none
def chunks{α:Type}(sz:Nat):Nat→List α→List (List α)
 |0,_=>[]
 |n+1,l=>l.take sz::chunks sz n (l.drop sz)
def ov(s:PS):V→Option (List (List D)×Option Nat)
 | .d .bd=>some ([],none)
 | .d .Kx=>some ([],none)
 | .d (.dt sz l)=>some (l,some sz)
 | .ref id ver len=>match s.els id ver with
  |some (sz,els)=>if els.length=len then some (els,some sz)else none
  |none=>none
 | .win id ver n o l=>match s.els id ver with
  |some (sz,els)=>if els.length=n∧o+l≤n then some ((els.drop o).take l,some sz)else none
  |none=>none
 |_=>none
def Ml:KK→D→Bool
 | .one _,_=>true
 | .row ks,.agg xs=>xs.length==ks.length
 |_,_=>false
def Fi{α:Type}(kk:KK)(k:D):List (D×α)→Option (Option α)
 |[]=>if Ml kk k=true then some none else none
 |(a,b)::r=>match Cs kk k a with
  |some true=>some (some b)
  |some false=>Fi kk k r
  |none=>none
def Kh{α:Type}(kk:KK)(k:D)(v:α):List (D×α)→Option (List (D×α))
 |[]=>if Ml kk k=true then some [(k,v)]else none
 |(a,b)::r=>match Cs kk k a with
  |some true=>some ((k,v)::r)
  |some false=>(Kh kk k v r).map ((a,b):: ·)
  |none=>none
def S9(s:PS):Option lb→Option (Option Nat)
 |none=>some none
 |some x=>match x.ev s with
  | .d (.int _ k)=>if 0≤k then some (some k.toNat)else none
  |_=>none
def Oh(s:PS)(n:Nat):Option lb→Option Nat
 |none=>some n
 |some x=>match x.ev s with
  | .d (.int _ k)=>if 0≤k then some k.toNat else none
  |_=>none
def Q0(s:PS)(n a:Nat):V→Option a2t
 | .d (.dt sz l)=>if sz=n∧a≤l.length then some (kn.qj (.d (if a=0∧l≠[]then .Kx else .dt sz (l.take a))))else none
 | .d .Kx=>if a=0 then some (kn.qj (.d .Kx))else none
 | .d .bd=>if a=0 then some (kn.qj (.d .bd))else none
 | .ref id ver n0=>match s.els id ver with
  |some (sz,els)=>if sz=n∧els.length=n0∧a≤n0 then some ([],.cut (.ref id (s.ver id+1) a) id (.arr sz (els.take a)))else none
  |none=>none
 |_=>none
def I2(s:PS):V→Option (List (D×C))
 | .d .L0=>some []
 | .d (.map es)=>some (es.map fun e=>(e.1,.d e.2))
 | .ku id ver=>s.ents id ver
 |_=>none
def mkt(cs:List C):V:=
 match J4 cs with
 |some ds=> .d (.yi ds)
 |none=> .yi cs
def V.ent(s:PS):V→Option C
 | .d x=>some (.d x)
 | .ref i v l=>if(V.ref i v l).live s then some (.ref i v l)else none
 | .ku i v=>if(V.ku i v).live s then some (.ku i v)else none
 | .dv i v o=>if(V.dv i v o).live s then some (.ptr i v o)else none
 |_=>none
def a1z(s:PS)(id ver m l:Nat)(lo hi mx:Option lb):Option V:=
 match S9 s lo,Oh s l hi,Oh s m mx with
 |some i,some j,some k=>if i.getD 0≤j∧j≤m∧k=m∧(hi=none→mx=none)then some (.win id ver m (i.getD 0) (j-i.getD 0))else none
 |_,_,_=>none
def Pz(s:PS):V→Option (List (List C)×Option Nat)
 | .d .bd=>some ([],none)
 | .d .Kx=>some ([],none)
 | .d (.dt sz l)=>some (l.map (·.map .d),some sz)
 | .ref id ver len=>match s.elc id ver with
  |some (sz,els)=>if els.length=len then some (els,some sz)else none
  |none=>none
 |_=>none
def O2(s:PS)(d sz bytes:Nat)(x y:V):Option a2t:=
 match Pz s y with
 |some (ys,osz)=>if osz.getD sz=sz∧(ys.all fun e=>e.all (C.one s))=true then match x with
   | .d .bd=>if ys.length=0 then some (kn.qj (.d .bd))else if ys.length*bytes≤2^47 then some ([],.new (.ref d (s.ver d+1) ys.length) d (.ny sz ys))else none
   | .ref id ver n0=>match s.elc id ver with
    |some (sz',els)=>if sz'=sz∧els.length=n0∧(n0+ys.length)*bytes≤2^47 then some ([],.grow (.ref id ver (n0+ys.length)) id (.ny sz (els++ys)))else none
    |none=>none
   |_=>none
  else none
 |none=>none
def j6.ml(d:Nat)(s:PS):j6→Option a2t
 | .ij x=>some (kn.qj (x.ev s))
 | .pick c a b=>match c.ev s with
  | .d (.bool true)=>some (kn.qj (a.ev s))
  | .d (.bool false)=>some (kn.qj (b.ev s))
  |_=>none
 | .alloc zero=>some ([],.new (.dv d (s.ver d+1) 0) d (.loc (zero.map .d)))
 | .box n x=>match(x.ev s).cells s with
  |some cs=>if cs.length=n then some ([],.new (.dv d (s.ver d+1) 0) d (.loc cs))else none
  |none=>none
 | .load n agg x=>(A8 s n agg (x.ev s)).map kn.qj
 | .store n a x=>match(x.ev s).cells s with
  |some cs=>w9 s n cs (a.ev s)
  |none=>v8 s n (x.ev s) (a.ev s)
 | .V3 x=>match isNil s .ptr (x.ev s),isNil s .fn (x.ev s)with
  |some false,_=>some (kn.qj (x.ev s))
  |_,some false=>some (kn.qj (x.ev s))
  |_,_=>none
 | .xj off x=>(Ox s off (x.ev s)).map kn.qj
 | .tf ln n x i=>match i.ev s with
  | .d (.int _ k)=>if 0≤k∧k<ln then(Ox s (k.toNat*n) (x.ev s)).map kn.qj else none
  |_=>none
 | .te n x i=>match i.ev s with
  | .d (.int _ k)=>(I3 s n k (x.ev s)).map kn.qj
  |_=>none
 | .Wy x i=>match x.ev s,i.ev s with
  | .d (.str b),.d (.int _ k)=>match(if 0≤k then b[k.toNat]? else none)with
   |some u=>some (kn.qj (.d (.int .u8 u.toNat)))
   |none=>none
  |_,_=>none
 | .Zh off n agg x=>match x.ev s with
  | .d (.agg ds)=>if off+n≤ds.length then some (kn.qj (mkd agg ((ds.drop off).take n)))else none
  | .agg cs=>if off+n≤cs.length then some (kn.qj (mkv agg ((cs.drop off).take n)))else none
  |_=>none
 | .len k x=>(Lw s k (x.ev s)).map fun n=>kn.qj (.d (.int .i64 n))
 | .bin op x y=>match x.ev s,y.ev s with
  | .d a,.d b=>(a4g op a b).map fun r=>kn.qj (.d r)
  |_,_=>none
 | .eqs ks neg x y=>match x.ev s,y.ev s with
  | .d (.agg a),.d (.agg b)=>(yr ks a b).map fun r=>kn.qj (.d (.bool (if neg then !r else r)))
  |_,_=>none
 | .beq neg x y=>match x.ev s,y.ev s with
  | .d (.bool a),.d (.bool b)=>some (kn.qj (.d (.bool (if neg then !(a==b)else a==b))))
  |_,_=>none
 | .Hp k neg x=>(isNil s k (x.ev s)).map fun r=>kn.qj (.d (.bool (if neg then !r else r)))
 | .un op x=>match op,x.ev s with
  | .not,.d (.bool b)=>some (kn.qj (.d (.bool !b)))
  | .neg,.d (.int k n)=>some (kn.qj (.d (.int k (k.wrap (0-n)))))
  |_,_=>none
 | .conv k x=>match x.ev s with
  | .d (.int _ n)=>some (kn.qj (.d (.int k (k.wrap n))))
  |_=>none
 | .Ye x=>match x.ev s with
  | .d (.str b)=>some (kn.qj (.d (.str b)))
  |_=>none
 | .build zero parts=>match Hl s parts with
  |some ps=>match Ju (zero.map .d) ps with
   |some cs=>some (kn.qj (mkv true cs))
   |none=>none
  |none=>none
 | .xi im n sz zero parts=>match Lp s parts with
  |some (ps,ids)=>match R5 ((gu n zero).flatten) ps with
   |some ds=>match im,ids with
    |true,[]=>some (kn.qj (.d (.dt sz (chunks sz n ds))))
    |true,_=>none
    |false,ids=>some (ids,.new (.ref d (s.ver d+1) n) d (.arr sz (chunks sz n ds)))
   |none=>none
  |none=>none
 | .app sz bytes x y=>match ov s (y.ev s)with
  |some (ys,osz)=>if osz.getD sz=sz then match x.ev s with
    | .d .bd=>if ys.length=0 then some (kn.qj (.d .bd))else if ys.length*bytes≤2^47 then some ([],.new (.ref d (s.ver d+1) ys.length) d (.arr sz ys))else none
    | .ref id ver n0=>match s.els id ver with
     |some (sz',els)=>if(ys.all fun e=>e.all D.one)=true∧sz'=sz∧els.length=n0∧(n0+ys.length)*bytes≤2^47 then some ([],.grow (.ref id ver (n0+ys.length)) id (.arr sz (els++ys)))else none
     |none=>O2 s d sz bytes (.ref id ver n0) (y.ev s)
    | .win id ver n o k=>match s.els id ver with
     |some (sz',els)=>if(ys.all fun e=>e.all D.one)=true∧sz'=sz∧els.length=n∧o=0∧k+ys.length≤n then some ([],.grow (.win id ver n 0 (k+ys.length)) id (.arr sz (els.take k++ys++els.drop (k+ys.length))))else none
     |none=>none
    |_=>none
   else none
  |none=>O2 s d sz bytes (x.ev s) (y.ev s)
 | .Xg n sz zero parts=>match Hl s parts with
  |some ps=>match Ju (((gu n zero).flatten).map .d) ps with
   |some cs=>if cs.all (C.one s)=true then some ([],.new (.ref d (s.ver d+1) n) d (.ny sz (chunks sz n cs)))else none
   |none=>none
  |none=>none
 | .Le n x j=>match x.ev s,j.ev s with
  | .ref id ver m,.d (.int _ k)=>match s.els id ver with
   |some (sz,els)=>if sz=n∧els.length=m∧0≤k∧k≤m then some ([],.cut (.ref id (s.ver id+1) k.toNat) id (.arr sz (els.take k.toNat)))else none
   |none=>none
  | .d .bd,.d (.int _ k)=>if k=0 then some (kn.qj (.d .bd))else none
  |_,_=>none
 | .Xc .. =>none
 | .bad=>none
 | .Kv n x lo hi mx=>match x.ev s with
  | .ref id ver m=>if 0<m∧s.Gl id ver=some (n,m)then(a1z s id ver m m lo hi mx).map kn.qj else none
  | .win id ver m o l=>if o=0∧s.Gl id ver=some (n,m)then(a1z s id ver m l lo hi mx).map kn.qj else none
  |_=>none
 | .trim x=>match x.ev s with
  | .win id ver n o l=>match s.els id ver with
   |some (sz,els)=>if els.length=n∧o=0 then some ([],.cut (.ref id (s.ver id+1) l) id (.arr sz (els.take l)))else none
   |none=>none
  |_=>none
 | .clr z x=>match x.ev s with
  | .win id ver n o l=>match s.els id ver with
   |some (sz,els)=>if els.length=n∧z.length=sz∧z.all D.one=true then some ([],.set id (.arr sz (els.take o++gu l z++els.drop (o+l))))else none
   |none=>none
  |_=>none
 | .Zi sz bytes zero x y=>match x.ev s,y.ev s with
  | .d .bd,.d (.int _ k)=>if 0<k∧k*bytes≤2^47 then some ([],.new (.ref d (s.ver d+1) k.toNat) d (.arr sz (gu k.toNat zero)))else none
  |_,_=>none
 | .a8n x=>match x.ev s with
  | .d .bd=>some (kn.qj (.d (.int .i64 0)))
  |_=>none
 | .a8v ln n x=>match x.ev s with
  | .dv id ver 0=>match s.cs id ver with
   |some cs=>if cs.length=ln*n then some (kn.qj (.Ig id ver ln n))else none
   |none=>none
  |_=>none
 | .Fo n x j k=>match x.ev s,j.ev s,k.ev s with
  | .ref id ver m,.d (.int _ a),.d (.int _ b)=>if a=b∧0≤a∧a≤m∧s.Gl id ver=some (n,m)then some (kn.qj (.Fo id ver m a.toNat))else none
  |_,_,_=>none
 | .slice n x lo hi=>match x.ev s,S9 s lo with
  | .d (.dt sz l),some i=>match Oh s l.length hi with
   |some j=>if sz=n∧i.getD 0≤j∧j≤l.length then some (kn.qj (.d (.dt sz ((l.take j).drop (i.getD 0)))))else none
   |none=>none
  | .d .bd,some i=>match Oh s 0 hi with
   |some j=>if i.getD 0=0∧j=0 then some (kn.qj (.d .bd))else none
   |none=>none
  |_,_=>none
 | .Ho=>some ([],.Yu (.ku d (s.ver d+1)) d)
 | .lookup kk zero x i ok=>match I2 s (x.ev s),i.ev s with
  |some es,.d k=>match Fi kk k es with
   |some r=>some (kn.qj (if ok then mkt [r.getD (.d zero),.d (.bool r.isSome)]else(r.getD (.d zero)).toV))
   |none=>none
  |_,_=>none
 | .Wq kk x k v=>match x.ev s,k.ev s,(v.ev s).ent s with
  | .ku id ver,.d k,some v=>match s.ents id ver with
   |some es=>(Kh kk k v es).map fun es'=>([],.W9 id es')
   |none=>none
  |_,_,_=>none
 | .Kr f caps=>match caps with
  |[.t a]=>match s.tmp a with
   | .dv id ver 0=>some (kn.qj (.mb f [(id,ver)]))
   | .d x=>some (kn.qj (.d (.mb f [x])))
   |_=>none
  |[.t a,.t b]=>match s.tmp a,s.tmp b with
   | .dv id ver 0,.dv id' a38 0=>some (kn.qj (.mb f [(id,ver),(id',a38)]))
   | .d x,.d y=>some (kn.qj (.d (.mb f [x,y])))
   |_,_=>none
  |[]=>some (kn.qj (.d (.mb f [])))
  |_=>none
 | .ext x i=>match x.ev s with
  | .d (.yi vs)=>(vs[i]?).map fun x=>kn.qj (.d x)
  | .yi cs=>(cs[i]?).map fun c=>kn.qj c.toV
  |_=>none
 | .Ce mx x y=>match x.ev s,y.ev s with
  | .d (.int k a),.d (.int _ b)=>some (kn.qj (.d (.int k (if mx then(if b>a then b else a)else(if b<a then b else a)))))
  |_,_=>none
 | .call .. =>none
 | .vb .. =>none
 | .w8 n=>some ([],.new (.dv d (s.ver d+1) 0) d (.Ph n))
 | .init g n x=>match s.tmp g,s.bm (s.base+g),(x.ev s).cells s with
  | .dv id ver 0,some (.Ph m),some cs=>if id=s.base+g∧s.ver (s.base+g)=ver∧m=n∧cs.length=n∧cs.all (C.one s)=true then some ([],.init (.dv (s.base+g) (s.ver (s.base+g)+1) 0) g (s.base+g) cs)else none
  |_,_,_=>none
 | .slice3 n x j k=>match j.ev s,k.ev s with
  | .d (.int _ a),.d (.int _ b)=>if a=b∧0≤a then Q0 s n a.toNat (x.ev s)else none
  |_,_=>none
 | .a14 ln n agg x i=>match x.ev s,i.ev s with
  | .d (.agg ds),.d (.int _ k)=>if 0≤k∧k<ln∧k.toNat*n+n≤ds.length then some (kn.qj (mkd agg ((ds.drop (k.toNat*n)).take n)))else none
  |_,_=>none
 | .ti .. =>none
 | .M0 .. =>none
 | .Kn .. =>none
 | .pz .. =>none
 | .Lz .. =>none
def PS.put(s:PS)(d:Option Nat)(v:V):PS:={s with tmp:=match d with|some d=>jf s.tmp d v|none=>s.tmp}
def PS.sn:List Nat→PS→PS
 |[],s=>s
 |i::r,s=>PS.sn r {s with bm:=jf s.bm i none,mp:=jf s.mp i none}
def C.rb(s:PS)(ids:List Nat):C→C
 | .d x=> .d x
 | .ref id ver len=>if id∈ids then match s.els id ver with
   |some (sz,els)=>if els.length=len then .d (.dt sz els)else .ref id ver len
   |none=> .ref id ver len
  else .ref id ver len
 | .ku id ver=>if id∈ids then match(s.ents id ver).bind Vr with
   |some es=> .d (.map es)
   |none=> .ku id ver
  else .ku id ver
 | .ptr id ver off=> .ptr id ver off
def V.rb(s:PS)(ids:List Nat):V→V
 | .ref id ver len=>(C.rb s ids (.ref id ver len)).toV
 | .ku id ver=>(C.rb s ids (.ku id ver)).toV
 | .agg cs=>mkv true (cs.map (C.rb s ids))
 | .yi cs=> .yi (cs.map (C.rb s ids))
 |v=>v
def PS.rb(s:PS)(ids:List Nat):PS:=
 match ids with
 |[]=>s
 |ids=>PS.sn ids {s with
   tmp:=fun t=>(s.tmp t).rb s ids
   bm:=fun i=>match s.bm i with
    |some (.loc cs)=>some (.loc (cs.map (C.rb s ids)))
    |some (.ny sz els)=>some (Uz (.ny sz (els.map fun e=>e.map (C.rb s ids))))
    |b=>b
   mp:=fun i=>(s.mp i).map fun es=>es.map fun e=>(e.1,C.rb s ids e.2)}
def kn.app(d:Option Nat)(s:PS):kn→PS
 | .val v=>s.put d v
 | .new v id b=>PS.put {s with bm:=jf s.bm id (some b),ver:=jf s.ver id (s.ver id+1)} d v
 | .set id b=>PS.put {s with bm:=jf s.bm id (some b)} d .no
 | .Gf id b id2 b2=>PS.put {s with bm:=jf (jf s.bm id (some b)) id2 (some b2),ver:=jf s.ver id (s.ver id+1)} d .no
 | .grow v id b=>PS.put {s with bm:=jf s.bm id (some b)} d v
 | .Yu v id=>PS.put {s with mp:=jf s.mp id (some []),ver:=jf s.ver id (s.ver id+1)} d v
 | .W9 id es=>PS.put {s with mp:=jf s.mp id (some es)} d .no
 | .init v t id cs=>{s with tmp:=jf s.tmp t v,bm:=jf s.bm id (some (.loc cs)),ver:=jf s.ver id (s.ver id+1)}
 | .cut v id b=>PS.put {s with bm:=jf s.bm id (some b),ver:=jf s.ver id (s.ver id+1)} d v
 | .mem m v=>(s.gl m).put d v
def Nt{α:Type}:List (Option α)→Option (List α)
 |[]=>some []
 |x::r=>match x,Nt r with
  |some x,some l=>some (x::l)
  |_,_=>none
def deep(s:PS):Nat→C→Option D
 |_,.d x=>some x
 |0,_=>none
 |n+1,.ref id ver len=>match s.elc id ver with
  |some (sz,els)=>if els.length=len then(Nt (els.map fun e=>Nt (e.map (deep s n)))).map (.dt sz)else none
  |none=>none
 |n+1,.ku id ver=>match s.ents id ver with
  |some es=>(Nt (es.map fun e=>(deep s n e.2).map fun x=>(e.1,x))).map .map
  |none=>none
 |_,.ptr .. =>none
def mc(s:PS):C→Option D
 | .d x=>some x
 | .ref id ver len=>match s.els id ver with
  |some (sz,els)=>if els.length=len then some (.dt sz els)else none
  |none=>deep s 6 (.ref id ver len)
 | .ku id ver=>deep s 6 (.ku id ver)
 | .ptr .. =>none
def iz(s:PS):List C→Option (List D)
 |[]=>some []
 |c::r=>match mc s c,iz s r with
  |some x,some l=>some (x::l)
  |_,_=>none
def snap(s:PS):V→Option D
 | .d x=>some x
 | .ref id ver len=>match s.els id ver with
  |some (sz,els)=>if els.length=len then some (.dt sz els)else none
  |none=>deep s 6 (.ref id ver len)
 | .ku id ver=>deep s 6 (.ku id ver)
 | .dv id ver off=>match s.cs id ver with
  |some cs=>(iz s cs).map fun ds=> .tz ds off
  |none=>none
 | .mb f [(id,ver)]=>match s.cs id ver with
  |some cs=>(iz s cs).map fun ds=> .mb f [.tz ds 0]
  |none=>none
 | .mb f [(id,ver),(id',a38)]=>match s.cs id ver,s.cs id' a38 with
  |some cs,some cs'=>match iz s cs,iz s cs' with
   |some ds,some ds'=>some (.mb f [.tz ds 0,.tz ds' 0])
   |_,_=>none
  |_,_=>none
 | .agg cs=>(iz s cs).map .agg
 | .Ig id ver len n=>match s.cs id ver with
  |some cs=>match iz s cs with
   |some ds=>if ds.length=len*n∧0<n then some (.dt n (chunks n len ds))else none
   |none=>none
  |none=>none
 |_=>none
def Gt(s:PS):List V→Option (List D)
 |[]=>some []
 |v::r=>match snap s v,Gt s r with
  |some x,some l=>some (x::l)
  |_,_=>none
def V.isD:V→Bool
 | .d _=>true
 |_=>false
def Dd(P:Program)(f:Nat)(args:List V)(caps:List D)(own:Bool)(d:Option Nat)(s:PS)(K:PS→Prop):Prop:=
 ∃ds r,Gt s args=some ds∧fp P f (ds++caps) r∧(r.flat=true∨(own=false∧args.all V.isD=true))∧K (s.put d (.d r))
structure xn(s s':PS)(i ver:Nat):Prop where
 els:s'.els i ver=s.els i ver
 cs:s'.cs i ver=s.cs i ver
 ents:s'.ents i ver=s.ents i ver
 elc:s'.elc i ver=s.elc i ver
 Gl:s'.Gl i ver=s.Gl i ver
 dp:∀n c,(∃l,c= .ref i ver l)∨c= .ku i ver→deep s' n c=deep s n c
def Fq(s s':PS):C→Prop
 | .d _=>True
 | .ref i ver _=>xn s s' i ver
 | .ku i ver=>xn s s' i ver
 | .ptr i ver _=>xn s s' i ver
def P5(s s':PS)(i ver:Nat):Prop:=xn s s' i ver∧∀cs,s.cs i ver=some cs→∀c∈cs,Fq s s' c
def Gh(s s':PS):V→Prop
 | .d _=>True
 | .ref i ver _=>xn s s' i ver
 | .ku i ver=>xn s s' i ver
 | .dv i ver _=>P5 s s' i ver
 | .Fl i ver _ _ _=>xn s s' i ver
 | .mb _ ids=>∀p∈ids,P5 s s' p.1 p.2
 | .agg cs=>∀c∈cs,Fq s s' c
 | .yi cs=>∀c∈cs,Fq s s' c
 | .Ig i ver _ _=>P5 s s' i ver
 | .Fo i ver _ _=>xn s s' i ver
 | .win i ver _ _ _=>xn s s' i ver
 | .no=>True
def nj(P:Program)(f:Nat)(m:Mem)(args:List V)(m':Mem)(r:V):Prop:=
 yh P f=true∧∀(s:PS) (B0:Nat) (w0:World) (nt:Nat) (G0 G:fc) (E:Env) (a:Act) (w:World) (vs:Array Value),s.mem=m→i6 B0 w0 nt G0 s G E a w→vs.size=args.length→
  (∀(i:Nat) (x:V) (v:Value),args[i]? =some x→vs[i]? =some v→fm G E s x v)→
  Calls P f vs w fun e w'=>∃v G' E',e= .returned v∧i6 B0 w0 nt G0 (s.gl m') G' E' a w'∧fm G' E' (s.gl m') r v
def al5(P:Program)(f:Nat)(s:PS)(args:List V)(r:D):Prop:=
 ∀s2:PS,(∀x∈args,Gh s s2 x)→nj P f s2.mem args s2.mem (.d r)
def Cw(P:Program)(f:Nat)(s:PS)(args:List V)(R:Mem→V→Prop):Prop:=
 yh P f=true∧∀(B0:Nat) (w0:World) (nt:Nat) (G0 G:fc) (E:Env) (a:Act) (w:World) (vs:Array Value),i6 B0 w0 nt G0 s G E a w→vs.size=args.length→
  (∀(i:Nat) (x:V) (v:Value),args[i]? =some x→vs[i]? =some v→fm G E s x v)→
  Calls P f vs w fun e w'=>∃v G' E' m' r,e= .returned v∧R m' r∧i6 B0 w0 nt G0 (s.gl m') G' E' a w'∧fm G' E' (s.gl m') r v
def PS.Xe(s:PS)(ts:List Nat):PS:={s with tmp:=fun t=>if t∈ts then .no else s.tmp t}
def ah8(s:PS)(id:Nat)(kk:KK)(sz bytes:Nat)(x k y:V)(ts:List Nat)(s':PS):Prop:=
 s.bm id=none∧s.mp id=none∧∃m ver key es ys osz,x= .ku m ver∧k= .d key∧s.ents m ver=some es∧ov s y=some (ys,osz)∧osz.getD sz=sz∧ys≠[]∧(ys.all fun e=>e.all D.one)=true∧es.length<2^30∧
  ((Fi kk key es=some none∧ys.length*bytes≤2^47∧∃es',Kh kk key (.ref id (s.ver id+1) ys.length) es=some es'∧
    s'=PS.Xe {s with bm:=jf s.bm id (some (.arr sz ys)),ver:=jf s.ver id (s.ver id+1),mp:=jf s.mp m (some es')} ts)∨
   (∃i v0 n0 els,Fi kk key es=some (some (.ref i v0 n0))∧s.els i v0=some (sz,els)∧els.length=n0∧(n0+ys.length)*bytes≤2^47∧∃es',Kh kk key (.ref i v0 (n0+ys.length)) es=some es'∧
    s'=PS.Xe {s with bm:=jf s.bm i (some (.arr sz (els++ys))),mp:=jf s.mp m (some es')} ts))
def Ev(P:Program)(o:RI)(s:PS)(K:PS→Prop):Prop:=
 match o.op with
 | .Xc kk sz bytes x k y ts=>∃id s',ah8 s id kk sz bytes (x.ev s) (k.ev s) (y.ev s) ts s'∧K (s'.put o.dst .no)
 | .pz f args=>∃R,Cw P f s (args.map (·.ev s)) R∧∀m' r,R m' r→K ((s.gl m').put o.dst r)
 | .Lz f args=>match f.ev s with
  | .d (.mb g caps)=>∃R,Cw P g s (args.map (·.ev s)++caps.map .d) R∧∀m' r,R m' r→K ((s.gl m').put o.dst r)
  |_=>False
 | .ti f args=>∃m' r,nj P f s.mem (args.map (·.ev s)) m' r∧K ((s.gl m').put o.dst r)
 | .M0 f args=>∃r,al5 P f s (args.map (·.ev s)) r∧K (s.put o.dst (.d r))
 | .Kn f args=>match f.ev s with
  | .d (.mb g caps)=>∃m' r,nj P g s.mem (args.map (·.ev s)++caps.map .d) m' r∧K ((s.gl m').put o.dst r)
  |_=>False
 | .call f args=>Dd P f (args.map (·.ev s)) [] false o.dst s K
 | .vb f args=>match snap s (f.ev s)with
  |some (.mb g caps)=>Dd P g (args.map (·.ev s)) caps (!(f.ev s).isD) o.dst s K
  |_=>False
 |op=>match op.ml (s.base+o.dst.getD 0) s with
  |some (ids,e)=>K (e.app o.dst (s.sn ids))
  |none=>False
def wanted(o:RI)(s:PS):Option Bool:=
 match o.guard with
 |none=>some true
 |some (t,b)=>match s.tmp t with
  | .d (.bool c)=>some (c==b)
  | .d (.yi [])=>some false
  |_=>none
def jn(P:Program):List RI→PS→(PS→Prop)→Prop
 |[],s,K=>K s
 |o::r,s,K=>match wanted o s with
  |some true=>Ev P o s fun s'=>jn P r s' K
  |some false=>jn P r (s.put o.dst (.d (.yi []))) K
  |none=>False
def RI.nw(o:RI):List Nat:=
 match o.op with
 | .alloc _| .box .. | .Ho| .w8 _=>o.dst.toList
 | .init g .. =>[g]
 |_=>[]
def nw(ops:List RI):List Nat:=ops.flatMap RI.nw
def sh(b:Nat)(l:List Nat):List Nat:=l.map (b+ ·)
def jd(P:Program):cn→(Exit→PS→Prop)→PS→Prop
 | .skip,Q,s=>Q .normal s
 | .region ops draw fz,Q,s=>jn P ops (if draw=true then(s.rb (sh s.base fz)).sn (sh s.base (nw ops))else s.rb (sh s.base fz)) (Q .normal)
 | .seq a b,Q,s=>jd P a (fun e s'=>match e with| .normal=>jd P b Q s'|e=>Q e s') s
 | .cond c a b,Q,s=>match c.ev s with
  | .d (.bool x)=>if x then jd P a Q s else jd P b Q s
  |_=>False
 | .block id c,Q,s=>jd P c (fun e s'=>match e with| .exit i=>if i=id then Q .normal s' else Q (.exit i) s'|e=>Q e s') s
 | .loop c,Q,s=>∃(I:PS→Prop) (m:PS→Nat),I s∧∀s',I s'→jd P c (fun e s''=>match e with| .normal=>I s''∧m s''<m s'|e=>Q e s'') s'
 | .freeze,Q,s=>∃ids,Q .normal (s.rb ids)
 | .both a b,Q,s=>jd P a Q s∧jd P b Q s
 | .exit id,Q,s=>Q (.exit id) s
 | .ret,Q,s=>Q .ret s
def Ut(s:PS):V→Option D
 | .d x=>some x
 | .ref id ver len=>(Nr s (.ref id ver len)).map (·.1)
 | .ku id ver=>(Nr s (.ku id ver)).map (·.1)
 | .agg cs=>(Mh s cs).map fun p=> .agg p.1
 |_=>none
inductive I7 where
 |tmp (t:Nat)
 |cell (t n:Nat) (agg:Bool)
 deriving Inhabited
def ady(s:PS):I7→Option D
 | .tmp t=>Ut s (s.tmp t)
 | .cell t n agg=>match A8 s n agg (s.tmp t)with
  |some v=>Ut s v
  |none=>none
def Xz(s:PS):List I7→Option (List D)
 |[]=>some []
 |r::l=>match ady s r,Xz s l with
  |some x,some xs=>some (x::xs)
  |_,_=>none
def Wg(s:PS)(l:List I7):Option D:=
 match l with
 |[r]=>ady s r
 |l=>(Xz s l).map .yi
def V.toC:V→Option C
 | .d x=>some (.d x)
 | .ref i v l=>some (.ref i v l)
 | .ku i v=>some (.ku i v)
 | .dv i v o=>some (.ptr i v o)
 |_=>none
def qa(s:PS):I7→Option V
 | .tmp t=>some (s.tmp t)
 | .cell t n agg=>A8 s n agg (s.tmp t)
def Gw(s:PS):List I7→Option (List C)
 |[]=>some []
 |r::l=>match(qa s r).bind V.toC,Gw s l with
  |some x,some xs=>some (x::xs)
  |_,_=>none
def nh(s:PS)(l:List I7):Option V:=
 match l with
 |[r]=>qa s r
 |l=>(Gw s l).map .yi
def Zx:Value→Option D
 | .int k n=>some (.int k n)
 | .bool b=>some (.bool b)
 | .string s=>some (.str s)
 | .slice none 0 0=>some .bd
 | .pointer none=>some .Ti
 | .map none=>some .L0
 | .nilFunc=>some .td
 | .func (.func f) a b=>if a.size=0∧b.size=0 then some (.mb f [])else none
 |_=>none
def ac7:List Value→Option (List D)
 |[]=>some []
 |v::r=>match Zx v,ac7 r with
  |some x,some l=>some (x::l)
  |_,_=>none
def U3:Value→Option D
 | .agg cs=>(ac7 cs.toList).map .agg
 |v=>Zx v
def ta:Operand→Option lb
 | .tmp t=>some (.t t)
 | .const v=>(U3 v).map .c
 | .func f=>some (.c (.mb f []))
 | .global _=>none
def Gn:List Operand→Option (List lb)
 |[]=>some []
 |x::r=>match ta x,Gn r with
  |some a,some l=>some (a::l)
  |_,_=>none
section
variable(P:Program)
def ji(t:TypeId):Option Nat:=(P.info? t).map (·.size)
def yp(t:TypeId):Option Bool:=
 match P.underlying t with
 |some (.struct _)|some (.array _ _)=>some true
 |some _=>some false
 |none=>none
def Dk(t:TypeId):Option (List D):=
 match(P.info? t).bind (·.zero)with
 |some v=>ac7 v.cells.toList
 |none=>none
def Eb(g:TypeId→Option (List LK)):List Field→Nat→Option (List LK)
 |[],_=>some []
 |f::r,off=>if f.name≠ "_"∧f.offset=off then match g f.type with
   |some l=>if ji P f.type=some l.length∧0<l.length then match Eb g r (off+l.length)with
     |some m=>some (l++m)
     |none=>none
    else none
   |none=>none
  else none
def zo:Nat→TypeId→Option (List LK)
 |0,_=>none
 |n+1,t=>match P.underlying t with
  |some .bool=>if ji P t=some 1 then some [.bool]else none
  |some (.int _)=>if ji P t=some 1 then some [.int]else none
  |some .string=>if ji P t=some 1 then some [.str]else none
  |some (.array len e)=>match zo n e with
   |some l=>if ji P e=some l.length∧0<l.length∧ji P t=some (len*l.length)then some (gu len l).flatten else none
   |none=>none
  |some (.struct fs)=>if P.stoodInHeld t=false then match Eb P (zo n) fs.toList 0 with
    |some l=>if ji P t=some l.length then some l else none
    |none=>none
   else none
  |_=>none
def O8(t:TypeId):Option KK:=
 match zo P 8 t,yp P t with
 |some [k],some false=>some (.one k)
 |some ks,some true=>some (.row ks)
 |_,_=>none
def a7t(k:TK):Operand→Bool
 | .const (.pointer none)=>k= .ptr
 | .const (.slice none 0 0)=>k= .dt
 | .const (.map none)=>k= .map
 | .const .nilFunc=>k= .fn
 |_=>false
def Xl(op:BinOp)(x y:Operand)(k:TK)(a b:lb):Option j6:=
 if op= .eql∨op= .neq then
  if a7t k y then some (.Hp k (op= .neq) a)else if a7t k x then some (.Hp k (op= .neq) b)else none
 else none
def Xd(fs:Array Field):List (Nat×Operand)→Option (List (Nat×Nat×lb))
 |[]=>some []
 |(i,x)::r=>match fs[i]?,ta x,Xd fs r with
  |some f,some a,some l=>match ji P f.type with
   |some n=>some ((f.offset,n,a)::l)
   |none=>none
  |_,_,_=>none
def O1(n:Nat):List (Nat×Operand)→Option (List (Nat×Nat×lb))
 |[]=>some []
 |(i,x)::r=>match ta x,O1 n r with
  |some a,some l=>some ((i*n,n,a)::l)
  |_,_=>none
structure Ann where
 imm:List Nat:=[]
 rb:List (Nat×List Nat):=[]
 ce:List Nat:=[]
 cf:List Nat:=[]
 cr:List Nat:=[]
 kp:List Nat:=[]
 cv:List Nat:=[]
 dyn:List Nat:=[]
 od:List Nat:=[]
def a2m:Option Operand→Option (Option lb)
 |none=>some none
 |some v=>(ta v).map some
def Pu(kp cv:Bool)(t:TypeId)(x:Operand)(lo hi mx:Option Operand):Option j6:=
 match P.underlying t with
 |some (.slice e)=>if kp=true then(match ji P e,ta x,a2m lo,a2m hi,a2m mx with
  |some n,some x,some lo,some hi,some mx=>some (.Kv n x lo hi mx)
  |_,_,_,_,_=>none)else match ji P e,ta x,mx with
  |some n,some x,none=>match cv,lo,hi with
   |true,none,some j=>(ta j).map fun j=> .Le n x j
   |_,lo,hi=>match a2m lo,a2m hi with
    |some lo,some hi=>some (.slice n x lo hi)
    |_,_=>none
  |some n,some x,some k=>match lo,hi,ta k with
   |none,some j,some k=>(ta j).map fun j=>if cv=true then .Fo n x j k else .slice3 n x j k
   |_,_,_=>none
  |_,_,_=>none
 |some (.array ln e)=>match ji P e,ta x,lo,hi,mx with
  |some n,some x,none,none,none=>some (.a8v ln n x)
  |_,_,_,_,_=>none
 |_=>none
def cOp(im kp cv:Bool)(cm:Nat)(o:Op):Option j6:=
 match o with
 | .makeInterface .. =>some .bad
 | .panic _=>some .bad
 | .move x| .assign x=>(ta x).map (if kp=true then .trim else .ij)
 | .pick c a b=>match ta c,ta a,ta b with
  |some c,some a,some b=>some (.pick c a b)
  |_,_,_=>none
 | .alloc e=>(Dk P e).map .alloc
 | .box e x=>match ji P e,ta x with
  |some n,some x=>some (.box n x)
  |_,_=>none
 | .load t a=>match ji P t,yp P t,ta a with
  |some n,some g,some a=>if g=true∨n=1 then some (.load n g a)else none
  |_,_,_=>none
 | .store t a x=>match ji P t,ta a,ta x with
  |some n,some a,some x=>some (.store n a x)
  |_,_,_=>none
 | .nilCheck x=>(ta x).map .V3
 | .fieldAddr s x f=>match P.underlying s,ta x with
  |some (.struct fs),some x=>match fs[f]? with
   |some f=>match ji P f.type with
    |some n=>if n=0 then none else some (.xj f.offset x)
    |none=>none
   |none=>none
  |_,_=>none
 | .indexAddr t x i=>match P.underlying t,ta x,ta i with
  |some (.array len e),some x,some i=>(ji P e).map fun n=> .tf len n x i
  |some (.slice e),some x,some i=>(ji P e).map fun n=> .te n x i
  |_,_,_=>none
 | .index t x i=>match P.underlying t,ta x,ta i with
  |some .string,some x,some i=>some (.Wy x i)
  |some (.array len e),some x,some i=>match ji P e,yp P e with
   |some n,some g=>if g=true∨n=1 then some (.a14 len n g x i)else none
   |_,_=>none
  |_,_,_=>none
 | .field t x f=>match P.underlying t,ta x with
  |some (.struct fs),some x=>match fs[f]? with
   |some f=>match ji P f.type,yp P f.type with
    |some n,some g=>if g=true∨n=1 then some (.Zh f.offset n g x)else none
    |_,_=>none
   |none=>none
  |_,_=>none
 | .binOp op t x y yt=>match ta x,ta y with
  |some a,some b=>
   match P.underlying t with
   |some (.int _)|some .string=>some (.bin op a b)
   |some .bool=>if op= .eql∨op= .neq then some (.beq (op= .neq) a b)else none
   |some (.pointer _)=>Xl op x y .ptr a b
   |some (.slice _)=>Xl op x y .dt a b
   |some (.map ..)=>Xl op x y .map a b
   |some (.func ..)=>Xl op x y .fn a b
   |some (.struct _)|some (.array ..)=>match zo P 8 t with
    |some ks=>if(op= .eql∨op= .neq)∧P.eqGuardType P.depth t=false then some (.eqs ks (op= .neq) a b)else none
    |none=>none
   |_=>none
  |_,_=>none
 | .unOp op _ x=>(ta x).map (.un op)
 | .convert s d x=>match P.underlying s,P.underlying d,ta x with
  |some (.int _),some (.int k),some x=>some (.conv k x)
  |some .string,some .string,some x=>some (.Ye x)
  |_,_,_=>none
 | .build t ps=>match P.underlying t,Dk P t with
  |some (.struct fs),some z=>if fs.toList.all (fun f=>(ji P f.type).isSome)=true then(Xd P fs ps.toList).map (.build z)else none
  |some (.array _ e),some z=>match ji P e with
   |some n=>(O1 n ps.toList).map (.build z)
   |none=>none
  |_,_=>none
 | .buildSlice t n ps=>match P.underlying t with
  |some (.slice e)=>match ji P e,Dk P e with
   |some sz,some z=>if n*sz≤2^20∧z.length=sz∧0<sz then(O1 sz ps.toList).map (if kp=true then .Xg n sz z else .xi im n sz z)else none
   |_,_=>none
  |_=>none
 | .slice t x lo hi mx=>Pu P kp cv t x lo hi mx
 | .makeMap t none=>match P.underlying t with
  |some (.map ..)=>some .Ho
  |_=>none
 | .lookup t x i ok=>match P.underlying t with
  |some (.map kt e)=>match(P.info? e).bind (·.zero),ta x,ta i,O8 P kt with
   |some z,some x,some i,some kk=>(U3 z).map fun z=> .lookup kk z x i ok
   |_,_,_,_=>none
  |_=>none
 | .mapUpdate t m k v=>match P.underlying t,ta m,ta k,ta v with
  |some (.map kt _),some m,some k,some v=>(O8 P kt).map fun kk=> .Wq kk m k v
  |_,_,_,_=>none
 | .makeFunc (.func f) first caps=>if first.size=0 then(Gn caps.toList).map (.Kr f)else none
 | .extract x i=>(ta x).map (.ext · i)
 | .call {callee:= .builtin .len,args,argTypes}=>match argTypes[0]?,args[0]? with
  |some t,some x=>match P.underlying t,ta x with
   |some (.array n _),_=>some (.ij (.c (.int .i64 n)))
   |some .string,some x=>some (.len .str x)
   |some (.slice _),some x=>some (.len .dt x)
   |some (.map ..),some x=>some (.len .map x)
   |_,_=>none
  |_,_=>none
 | .call {callee:= .builtin .cap,args,argTypes}=>match argTypes[0]?,args[0]? with
  |some t,some x=>match P.underlying t,ta x with
   |some (.slice _),some x=>some (.a8n x)
   |_,_=>none
  |_,_=>none
 | .call {callee:= .builtin .clear,args,argTypes}=>match argTypes[0]?,args[0]? with
  |some t,some x=>match P.underlying t,ta x with
   |some (.slice e),some x=>match P.info? e,Dk P e with
    |some i,some z=>if i.zero.map (·.cells.size)=some i.size∧z.length=i.size then some (.clr z x)else none
    |_,_=>none
   |_,_=>none
  |_,_=>none
 | .call {callee:= .builtin .append,args,argTypes}=>match argTypes[0]?,argTypes[1]?,args[0]?,args[1]? with
  |some t,some u,some x,some y=>match P.underlying t,P.underlying u,ta x,ta y with
   |some (.slice e),some (.int _),some x,some y=>match P.info? e,Dk P e with
    |some i,some z=>if i.zero.map (·.cells.size)=some i.size∧z.length=i.size∧0<i.size∧0<i.bytes∧i.size≤2^10∧i.bytes≤2^14 then some (.Zi i.size i.bytes z x y)else none
    |_,_=>none
   |some (.slice e),some (.slice _),some x,some y=>match P.info? e with
    |some i=>if i.zero.map (·.cells.size)=some i.size∧0<i.size∧0<i.bytes∧i.size≤2^10∧i.bytes≤2^14 then some (.app i.size i.bytes x y)else none
    |none=>none
   |_,_,_,_=>none
  |_,_,_,_=>none
 | .call {callee:= .builtin .min,args,.. }=>match args.toList with
  |[x,y]=>match ta x,ta y with
   |some x,some y=>some (.Ce false x y)
   |_,_=>none
  |_=>none
 | .call {callee:= .builtin .max,args,.. }=>match args.toList with
  |[x,y]=>match ta x,ta y with
   |some x,some y=>some (.Ce true x y)
   |_,_=>none
  |_=>none
 | .call {callee:= .value (.func f),args,.. }=>match Gn args.toList with
  |some l=>if cm=0 then some (.call f l)else if cm=1 then some (.M0 f l)else if cm=2 then some (.ti f l)else some (.pz f l)
  |none=>none
 | .call {callee:= .value f,args,.. }=>match ta f,Gn args.toList with
  |some f,some l=>if cm=0 then some (.vb f l)else if cm=2 then some (.Kn f l)else some (.Lz f l)
  |_,_=>none
 |_=>none
def a2l(nt:Nat)(an:Ann)(ops:Array Oper)(o:Oper):Option RI:=
 match cOp P (an.imm.contains (o.dst.getD 0)) (an.kp.contains (o.dst.getD 0)) (an.cv.contains (o.dst.getD 0)) (if an.ce.contains (o.dst.getD 0)then 2 else if an.cf.contains (o.dst.getD 0)then 1 else if an.cr.contains (o.dst.getD 0)then 3 else 0) o.op with
 |none=>none
 |some r=>
  match o.guard with
  |none=>if o.dst.all (· <nt)then some {dst:=o.dst,op:=r,guard:=none,after:=(o.after.toList.filter (aFc .any)).map (·.on)}else none
  |some (j,b)=>match(ops[j]?).bind (·.dst)with
   |some t=>if o.dst.all (· <nt)then some {dst:=o.dst,op:=r,guard:=some (t,b),after:=(o.after.toList.filter (aFc .any)).map (·.on)}else none
   |none=>none
def api(nt:Nat)(o1 o2 o3 o4 o5:Oper):Option RI:=
 match o1.dst,o1.op,o2.dst,o2.op,o3.dst,o3.op,o4.dst,o4.op,o5.dst,o5.op with
 |some d1,.mapEntry t (.tmp m) (.tmp k),some d2,.extract (.tmp e2) 0,some d3,.call c,some d4,.extract (.tmp e4) 1,none,.entryStore _ (.tmp m') (.tmp e5) (.tmp e6)=>
  match c.callee,c.args.toList,c.argTypes[0]?,c.argTypes[1]?,P.underlying t with
  | .builtin .append,[.tmp a0,.tmp y],some at_,some au,some (.map kt et)=>
   if e2=d1∧e4=d1∧e5=d4∧e6=d3∧m'=m∧a0=d2∧at_=et∧d1≠d2∧d1≠d3∧d3≠d4∧o1.guard=none∧o2.guard=none∧o3.guard=none∧o4.guard=none∧o5.guard=none∧
     d1<nt∧d2<nt∧d3<nt∧d4<nt∧y≠d1∧y≠d2∧m≠d1∧m≠d2∧m≠d3∧m≠d4 then
    match P.underlying at_,P.underlying au,(P.info? et).bind (·.zero),O8 P kt with
    |some (.slice e),some (.slice _),some (.slice none 0 0),some kk=>match P.info? e with
     |some i=>if i.zero.map (·.cells.size)=some i.size∧0<i.size∧0<i.bytes∧i.size≤2^10∧i.bytes≤2^14 then some {dst:=none,op:= .Xc kk i.size i.bytes (.t m) (.t k) (.t y) [d1,d2,d3,d4],guard:=none,after:=[]}else none
     |none=>none
    |_,_,_,_=>none
   else none
  |_,_,_,_,_=>none
 |_,_,_,_,_,_,_,_,_,_=>none
def Rh(nt:Nat)(an:Ann)(ops:Array Oper):List Oper→Option (List RI)
 |[]=>some []
 |o::r=>match a2l P nt an ops o,Rh nt an ops r with
  |some a,some l=>some (a::l)
  |_,_=>none
inductive Kind where
 |pure|read|alloc|write
 deriving DecidableEq
def j6.kind:j6→Kind
 | .ij _| .pick .. | .conv .. | .Ye _| .un .. | .bin .. | .beq .. | .eqs .. | .Zh .. | .ext .. | .Ce .. | .Wy .. | .a14 .. => .pure
 | .alloc _| .box .. | .Ho| .w8 _| .init .. => .alloc
 | .xi im .. =>if im then .read else .write
 | .app .. | .Zi .. | .Xg .. | .Xc .. | .store .. | .Wq .. | .slice3 .. | .Le .. | .trim _| .clr .. | .ti .. | .Kn .. | .pz .. | .Lz .. => .write
 |_=> .read
def Kind.ok:Kind→Kind→Bool
 | .pure,_|_,.pure=>true
 | .write,_|_,.write=>false
 |_,_=>true
def lb.ts:lb→List Nat
 | .t n=>[n]
 | .c _=>[]
def j6.pj:j6→List lb
 | .ij x=>[x]
 | .pick c a b=>[c,a,b]
 | .alloc _=>[]
 | .box _ x=>[x]
 | .load _ _ x=>[x]
 | .store _ a x=>[a,x]
 | .V3 x=>[x]
 | .xj _ x=>[x]
 | .tf _ _ x i=>[x,i]
 | .te _ x i=>[x,i]
 | .Wy x i=>[x,i]
 | .Zh _ _ _ x=>[x]
 | .len _ x=>[x]
 | .bin _ x y=>[x,y]
 | .eqs _ _ x y=>[x,y]
 | .Hp _ _ x=>[x]
 | .beq _ x y=>[x,y]
 | .un _ x=>[x]
 | .conv _ x=>[x]
 | .Ye x=>[x]
 | .build _ ps=>ps.map (·.2.2)
 | .xi _ _ _ _ ps=>ps.map (·.2.2)
 | .app _ _ x y=>[x,y]
 | .Xg _ _ _ ps=>ps.map (·.2.2)
 | .Xc _ _ _ x k y _=>[x,k,y]
 | .Zi _ _ _ x y=>[x,y]
 | .a8n x=>[x]
 | .a8v _ _ x=>[x]
 | .Fo _ x j k=>[x,j,k]
 | .Le _ x j=>[x,j]
 | .Kv _ x lo hi mx=>x::(lo.toList++hi.toList++mx.toList)
 | .trim x=>[x]
 | .clr _ x=>[x]
 | .bad=>[]
 | .slice _ x lo hi=>x::(lo.toList++hi.toList)
 | .Ho=>[]
 | .lookup _ _ x i _=>[x,i]
 | .Wq _ x k v=>[x,k,v]
 | .Kr _ caps=>caps
 | .ext x _=>[x]
 | .Ce _ x y=>[x,y]
 | .call _ args=>args
 | .vb f args=>f::args
 | .w8 _=>[]
 | .init g _ x=>[.t g,x]
 | .slice3 _ x j k=>[x,j,k]
 | .a14 _ _ _ x i=>[x,i]
 | .ti _ args=>args
 | .M0 _ args=>args
 | .Kn f args=>f::args
 | .pz _ args=>args
 | .Lz f args=>f::args
def RI.looks(o:RI):List Nat:=(o.op.pj.flatMap lb.ts)++(match o.guard with|some (t,_)=>[t]|none=>[])
def RI.writes(o:RI):Option Nat:=
 match o.op with
 | .init g .. =>if o.dst=none then some g else none
 |_=>o.dst
def RI.makes(o:RI):List Nat:=
 match o.op with
 | .alloc _| .box .. | .Ho| .app .. | .Zi .. | .Xg .. =>[o.dst.getD 0]
 | .xi im .. =>if im then[]else[o.dst.getD 0]
 | .init g .. =>[g]
 |_=>[]
def RI.isE(o:RI):Bool:=
 match o.op with
 | .ti .. | .Kn .. =>true
 |_=>false
def RI.isR(o:RI):Bool:=
 match o.op with
 | .pz .. | .Lz .. | .Xc .. =>true
 |_=>false
def RI.far(x y:RI):Bool:=(x.makes.all fun d=> !y.nw.contains d)&&(!x.isE||y.nw.isEmpty)
def RI.soft(x y:RI):Bool:=
 match x.op,y.op with
 | .Fo ..,.store n _ _=>n !=1
 |_,_=>false
def RI.a8l(x y:RI):Bool:=
 (x.op.kind.ok y.op.kind||(x.soft y||y.soft x))&&x.far y&&y.far x&&(x.nw.all fun d=>d !=y.dst.getD 0)&&(y.nw.all fun d=>d !=x.dst.getD 0)&&
 (match x.writes with|some d=> !y.looks.contains d&&y.writes !=some d|none=>x.op.kind != .alloc)&&
 (match y.writes with|some d=> !x.looks.contains d|none=>y.op.kind != .alloc)
def ay4(l:List RI)(d n:Nat):Bool:=
 (l.countP fun o=>o.looks.contains d)==1&&l.any fun o=>match o.op with
  | .store m (.t g) x=>g==d&&m==n&& !x.ts.contains d&&o.guard.isNone&&o.dst.isNone
  |_=>false
def RI.aey(l:List RI)(o:RI):RI:=
 match o.op,o.dst with
 | .alloc z,some d=>if o.guard.isNone&&ay4 l d z.length then{o with op:= .w8 z.length}else o
 | .store n (.t g) x,none=>if o.guard.isNone&&ay4 l g n&&(l.any fun o'=>o'.dst==some g&&o'.guard.isNone&&match o'.op with| .alloc z=>z.length==n|_=>false)then{o with op:= .init g n x}else o
 |_,_=>o
def ahead(ops:List RI):Nat→Nat→List Nat
 |0,_=>[]
 |n+1,i=>match ops[i]? with
  |some o=>o.after++o.after.flatMap (ahead ops n)
  |none=>[]
def an2(ops:List RI)(k i:Nat):Bool:=
 match ops[k]?,ops[i]? with
 |some x,some y=>x.a8l y||(ahead ops ops.length i).contains k
 |_,_=>false
def U2(ops:List RI):Bool:=
 (ops.all fun o=> !o.isR)&&(cq ops.length).all fun i=>(match ops[i]? with|some o=>o.after.all (· <i)|none=>false)&&(cq i).all fun k=>an2 ops k i&&((ops.getD k default).far (ops.getD i default))
def aph(nt:Nat):List Oper→Option RI
 |o1::o2::o3::o4::o5::_=>api P nt o1 o2 o3 o4 o5
 |_=>none
def a4f(nt:Nat)(an:Ann)(ops:Array Oper):Nat→List Oper→Option (List RI)
 |_,[]=>some []
 |k+1,_::r=>a4f nt an ops k r
 |0,o::r=>match aph P nt (o::r)with
  |some a=>(a4f nt an ops 4 r).map (a:: ·)
  |none=>match a2l P nt an ops o,a4f nt an ops 0 r with
   |some a,some l=>some (a::l)
   |_,_=>none
def a8p(nt:Nat)(an:Ann)(id:Nat)(ops:Array Oper)(draw:Bool):Option cn:=
 if draw=false then match a4f P nt an ops 0 ops.toList with
  |some l=>some (.region l false ((an.rb.lookup id).getD []))
  |none=>none
 else match Rh P nt an ops ops.toList with
  |some l=>if U2 (l.map (RI.aey l))=true then some (.region (l.map (RI.aey l)) true ((an.rb.lookup id).getD []))else none
  |none=>none
def apj:List cn→cn
 |[]=> .skip
 |[x]=>x
 |x::r=> .both x (apj r)
def acn(ops:Array Oper)(l:List RI):Nat→Array Bool→Option cn
 |0,A=>if ahp .any ops A=[]then some .skip else none
 |n+1,A=>if ahp .any ops A=[]then some .skip else
  (Nt ((ahp .any ops A).map fun i=>(acn ops l n (A.setIfInBounds i true)).map fun t=> .seq (.region [l.getD i default] false []) t)).map apj
def ax4(nt:Nat)(an:Ann)(ops:Array Oper):Option cn:=
 match Rh P nt an ops ops.toList with
 |some l=>acn ops l ops.size (ag7 ops.size false)
 |none=>none
def comp(nt:Nat)(an:Ann):Code→Option cn
 | .skip=>some .skip
 | .label _=>some .skip
 | .region id ops draw=>(if draw=true∧an.od.contains id=true then ax4 P nt an ops else a8p P nt an id ops draw).map fun r=>if an.dyn.contains id=true then .seq .freeze r else r
 | .seq a b=>match comp nt an a,comp nt an b with
  |some a,some b=>some (.seq a b)
  |_,_=>none
 | .cond c a b=>match ta c,comp nt an a,comp nt an b with
  |some c,some a,some b=>some (.cond c a b)
  |_,_,_=>none
 | .block id c=>(comp nt an c).map (.block id)
 | .loop c=>(comp nt an c).map .loop
 | .exit id=>some (.exit id)
 | .scope c=>comp nt an c
 | .ret=>some .ret
 |_=>none
end
end Go.PI
namespace Go.PI
section
variable{P:Program}{Q:Exit→PS→Prop}{s:PS}
theorem aa8:jd P .skip Q s=Q .normal s:=db rfl (dz _)
theorem avm{ops:List RI}{fz:List Nat}:jd P (.region ops false fz) Q s=jn P ops (s.rb (sh s.base fz)) (Q .normal):=db rfl (dz _)
theorem ay9{ops:List RI}{fz:List Nat}:jd P (.region ops true fz) Q s=jn P ops ((s.rb (sh s.base fz)).sn (sh s.base (nw ops))) (Q .normal):=db rfl (dz _)
theorem aAw:s.rb []=s:=db rfl (dz _)
theorem Zl{a b:cn}:jd P (.seq a b) Q s=jd P a (fun e s'=>match e with| .normal=>jd P b Q s'|e=>Q e s') s:=db rfl (dz _)
theorem aya{c:lb}{a b:cn}:jd P (.cond c a b) Q s=match c.ev s with
  | .d (.bool x)=>if x then jd P a Q s else jd P b Q s
  |_=>False:=db rfl (dz _)
theorem Wb{id:Nat}{c:cn}:jd P (.block id c) Q s=jd P c (fun e s'=>match e with| .exit i=>if i=id then Q .normal s' else Q (.exit i) s'|e=>Q e s') s:=db rfl (dz _)
theorem avn:jd P .freeze Q s=∃ids,Q .normal (s.rb ids):=db rfl (dz _)
theorem amm{id:Nat}:jd P (.exit id) Q s=Q (.exit id) s:=db rfl (dz _)
theorem a6y:jd P .ret Q s=Q .ret s:=db rfl (dz _)
theorem aml{c:cn}(I:PS→Prop)(m:PS→Nat)(h0:I s)
  (h:∀s',I s'→jd P c (fun e s''=>match e with| .normal=>I s''∧m s''<m s'|e=>Q e s'') s'):jd P (.loop c) Q s:=
 ⟨I,m,h0,h⟩
theorem Qk{K:PS→Prop}:jn P [] s K=K s:=db rfl (dz _)
theorem zc{o:RI}{r:List RI}{K:PS→Prop}:jn P (o::r) s K=match wanted o s with
  |some true=>Ev P o s fun s'=>jn P r s' K
  |some false=>jn P r (s.put o.dst (.d (.yi []))) K
  |none=>False:=db rfl (dz _)
end
def aE7:V→Int
 | .d (.int _ n)=>n
 |_=>0
theorem br(n:Int)(h0: -9223372036854775808≤n)(h1:n≤9223372036854775807):Mx .i64 n=n:=by
 unfold Mx
 have e:(2:Int)^kc.bits=18446744073709551616:=by decide
 have e':(2:Int)^(kc.bits-1)=9223372036854775808:=by decide
 simp only[e,e',aFk,qu,decide_eq_true_eq];split<;>omega
end Go.PI
namespace Go.PI
open Go Go.RowKit
structure Fs(E E':Env)(s s':PS):Prop where
 ver:∀id,s.ver id≤s'.ver id
 arr:∀id sz n',s'.ver id=s.ver id→s'.Bg id=some (sz,n')→
  ∃n,s.Bg id=some (sz,n)∧n≤n'∧(n=n'→E'.b id=E.b id∧E'.n id=E.n id)
 loc:∀id b',s'.ver id=s.ver id→s'.bm id=some b'→b'.isVar=true→(∃b,s.bm id=some b∧b.isVar=true)∧E'.b id=E.b id
 mp:∀id,s'.ver id=s.ver id→(s'.mp id).isSome→(s.mp id).isSome∧E'.m id=E.m id
theorem ub.iff{G:fc}{E:Env}{s:PS}{c:C}{u:Value}:ub G E s c u↔fm G E s c.toV u:=Iff.rfl
theorem fm.Bv{G G':fc}{E E':Env}{s s':PS}(hG:G.le G')(h:Fs E E' s s'){c:C}{v:Value}(hv:ub G E s c v):ub G' E' s' c v:=by
 cases c with
 |d x=>exact fh.mono hG hv
 |ref id ver len=>
  obtain⟨h1,h2⟩:=hv
  refine⟨gn h1 (h.ver id),fun he sz n' hb=>?_⟩
  have hv':s'.ver id=s.ver id:=by have:=h.ver id;omega
  obtain⟨n,hb0,hl,hE⟩:=h.arr id sz n' hv' hb
  obtain⟨k1,k2⟩:=h2 (by omega) sz n hb0
  refine⟨by omega,fun hl'=>?_⟩
  have hll:n=n':=by omega
  obtain⟨e1,e2⟩:=hE hll;rw[e1,e2]
  exact k2 (by omega)
 |ku id ver=>
  obtain⟨h1,h2⟩:=hv
  refine⟨gn h1 (h.ver id),fun he hm=>?_⟩
  have hv':s'.ver id=s.ver id:=by have:=h.ver id;omega
  obtain⟨k1,k2⟩:=h.mp id hv' hm;rw[k2]
  exact h2 (by omega) k1
 |ptr id ver off=>
  obtain⟨h1,h2⟩:=hv
  refine⟨gn h1 (h.ver id),fun he ⟨b',hb,hva⟩=>?_⟩
  have hv':s'.ver id=s.ver id:=by have:=h.ver id;omega
  obtain⟨k1,k2⟩:=h.loc id b' hv' hb hva;rw[k2]
  exact h2 (by omega) k1
theorem fm.move{G G':fc}{E E':Env}{s s':PS}(hG:G.le G')(h:Fs E E' s s'){x:V}{v:Value}(hv:fm G E s x v):fm G' E' s' x v:=by
 cases x with
 |d x=>exact fh.mono hG hv
 |ref id ver len=>exact fm.Bv (c:= .ref id ver len) hG h hv
 |ku id ver=>exact fm.Bv (c:= .ku id ver) hG h hv
 |dv id ver off=>
  obtain⟨h1,h2⟩:=hv
  refine⟨gn h1 (h.ver id),fun he ⟨b',hb,hva⟩=>?_⟩
  have hv':s'.ver id=s.ver id:=by have:=h.ver id;omega
  obtain⟨k1,k2⟩:=h.loc id b' hv' hb hva;rw[k2]
  exact h2 (by omega) k1
 |Fl id ver ln i off=>
  obtain⟨h1,h2⟩:=hv
  refine⟨gn h1 (h.ver id),fun he sz n' hb=>?_⟩
  have hv':s'.ver id=s.ver id:=by have:=h.ver id;omega
  obtain⟨n,hb0,hl,hE⟩:=h.arr id sz n' hv' hb
  obtain⟨k1,k2⟩:=h2 (by omega) sz n hb0
  refine⟨by omega,fun hl'=>?_⟩
  have hll:n=n':=by omega
  obtain⟨e1,e2⟩:=hE hll;rw[e1]
  exact k2 (by omega)
 |mb f ids=>
  obtain⟨h1,h2⟩:=hv
  refine⟨fun p hp=>gn (h1 p hp) (h.ver p.1),fun zx=>?_⟩
  have key:∀p∈ids,s.ver p.1=p.2∧(∃b,s.bm p.1=some b∧b.isVar=true)∧E'.b p.1=E.b p.1:=by
   intro p hp;obtain⟨e,b',hb,hva⟩:=zx p hp;have:=h1 p hp;have:=h.ver p.1
   have hv':s'.ver p.1=s.ver p.1:=by omega
   obtain⟨k1,k2⟩:=h.loc p.1 b' hv' hb hva
   exact⟨by omega,k1,k2⟩
  have e:(ids.map fun p=>aFw (some ⟨E'.b p.1,0,none⟩))=ids.map fun p=>aFw (some ⟨E.b p.1,0,none⟩):=
   Mv fun p hp=>by rw[(key p hp).2.2]
  rw[e]
  exact h2 fun p hp=>⟨(key p hp).1,(key p hp).2.1⟩
 |agg cs=>
  rw[Cv]at hv⊢;obtain⟨vs,e,hl,hc⟩:=hv
  exact⟨vs,e,hl,fun i c u hi hu=>fm.Bv hG h (hc i c u hi hu)⟩
 |yi cs=>
  rw[I6]at hv⊢;obtain⟨vs,e,hl,hc⟩:=hv
  exact⟨vs,e,hl,fun i c u hi hu=>fm.Bv hG h (hc i c u hi hu)⟩
 |Ig id ver ln n=>
  obtain⟨h1,h2⟩:=hv
  refine⟨gn h1 (h.ver id),fun he ⟨b',hb,hva⟩=>?_⟩
  have hv':s'.ver id=s.ver id:=by have:=h.ver id;omega
  obtain⟨k1,k2⟩:=h.loc id b' hv' hb hva;rw[k2]
  exact h2 (by omega) k1
 |Fo id ver m a=>
  obtain⟨h0,h1,h2⟩:=hv
  refine⟨h0,gn h1 (h.ver id),fun he sz n' hb=>?_⟩
  have hv':s'.ver id=s.ver id:=by have:=h.ver id;omega
  obtain⟨n,hb0,hl,hE⟩:=h.arr id sz n' hv' hb
  obtain⟨k1,k2⟩:=h2 (by omega) sz n hb0
  refine⟨by omega,fun hl'=>?_⟩
  have hll:n=n':=by omega
  obtain⟨e1,e2⟩:=hE hll;rw[e1,e2]
  exact k2 (by omega)
 |win id ver m o l=>
  obtain⟨h0,h1,h2⟩:=hv
  refine⟨h0,gn h1 (h.ver id),fun he sz n' hb=>?_⟩
  have hv':s'.ver id=s.ver id:=by have:=h.ver id;omega
  obtain⟨n,hb0,hl,hE⟩:=h.arr id sz n' hv' hb
  obtain⟨k1,k2⟩:=h2 (by omega) sz n hb0
  refine⟨by omega,fun hl'=>?_⟩
  have hll:n=n':=by omega
  obtain⟨e1,e2⟩:=hE hll;rw[e1,e2]
  exact k2 (by omega)
 |no=>trivial
theorem a2r{G:fc}{E:Env}{s:PS}{d:Option Nat}{y:V}{x:V}{v:Value}:fm G E (s.put d y) x v↔fm G E s x v:=by
 cases x<;>exact Iff.rfl
theorem a2v{G:fc}{E:Env}{s:PS}{d:Option Nat}{y:V}{x:C}{v:Value}:ub G E (s.put d y) x v↔ub G E s x v:=a2r
theorem al6{G:fc}{E:Env}{s:PS}{d:Option Nat}{y:V}{B0:Nat}{w:World}{id:Nat}{b:B}(h:Q3 G E s B0 w id b):Q3 G E (s.put d y) B0 w id b:=by
 obtain⟨h1,h2,cells,et,h3,h4,h5⟩:=h;refine⟨h1,h2,cells,et,h3,h4,?_⟩
 cases b with
 |arr sz els=>exact h5
 |ny sz els=>exact⟨h5.1,h5.2.1,fun i e j x u a b c=>a2v.2 (h5.2.2 i e j x u a b c)⟩
 |loc cs=>exact⟨h5.1,fun j c u hc hu=>a2v.2 (h5.2 j c u hc hu)⟩
 |Ph n=>exact h5
section
variable{B0 nt:Nat}{w0 w:World}{G0 G:fc}{s:PS}{E:Env}{a:Act}
theorem i6.a3f(h:i6 B0 w0 nt G0 s G E a w){d:Option Nat}(hd:d.all (· <nt)=true){x:V}{v:Value}(hv:fm G E s x v):i6 B0 w0 nt G0 (s.put d x) G E (a.put d v) w where
 size:=by cases d<;>simp[Act.put,h.size]
 defers:=by cases d<;>exact h.defers
 base:=h.base
 below:=h.below
 gok:=h.gok
 gle:=h.gle
 Gk:=h.Gk
 tmp t:=by
  rw[a2r]
  cases d with
  |none=>exact h.tmp t
  |some d=>
   simp only[Option.all,decide_eq_true_eq]at hd;have hs:=h.size;simp only[PS.put,Act.put,jf];by_cases e:t=d
   ·subst e
    rw[if_pos rfl];rw[jo,Qd]
    rw[if_pos (by omega)]
    exact hv
   ·rw[if_neg e,jo,T8 (fun h=>e h.symm),←jo]
    exact h.tmp t
 bm id b hb:=al6 (h.bm id b hb)
 inj:=h.inj
 mp id es he:=by
  obtain⟨h1,h2,ents,clock,h3,h4,h5,h6⟩:=h.mp id es he
  exact⟨h1,h2,ents,clock,h3,h4,fun i e x hx hy=>⟨(h5 i e x hx hy).1,a2v.2 (h5 i e x hx hy).2⟩,h6⟩
 Oi:=h.Oi
 ctx p:=by rw[a2r];exact h.ctx p
theorem fm.aBp{G:fc}{E:Env}{s:PS}{v:Value}:fm G E s .no v:=trivial
theorem i6.ev(h:i6 B0 w0 nt G0 s G E a w){x:Operand}{o:lb}(hx:ta x=some o):fm G E s (o.ev s) (a.eval x):=by
 cases x with
 |tmp t=>
  simp only[ta,ah]at hx;subst hx;exact h.tmp t
 |const v=>
  simp only[ta]at hx
  have cell:∀(v:Value) (d:D),Zx v=some d→fh G d v:=by
   intro v d hd;unfold Zx at hd
   split at hd<;>first|(injection hd with hd;subst hd;constructor)|(cases hd)|skip
   split at hd
   ·rename_i f x y hxy
    injection hd with hd
    subst hd;have e1:x= #[]:=Ud hxy.1;have e2:y= #[]:=Ud hxy.2;subst e1 e2
    exact .mb rfl (by simp)
   ·cases hd
  have cells:∀(l:List Value) (ds:List D),ac7 l=some ds→l.length=ds.length∧∀(i:Nat) (x:D) (v:Value),ds[i]? =some x→l[i]? =some v→fh G x v:=by
   intro l
   induction l with
   |nil=>intro ds hd;simp only[ac7,ah]at hd;subst hd;simp
   |cons v l ih=>
    intro ds hd;simp only[ac7]at hd;split at hd
    ·rename_i x l' h1 h2
     injection hd with hd
     subst hd;obtain⟨k1,k2⟩:=ih l' h2
     refine⟨by simp[k1],fun i x' v' hx' hv'=>?_⟩
     cases i with
     |zero=>simp at hx' hv';subst hx' hv';exact cell _ _ h1
     |succ i=>simp at hx' hv';exact k2 i x' v' hx' hv'
    ·cases hd
  cases hv:U3 v with
  |none=>rw[hv]at hx;cases hx
  |some d=>
   rw[hv]at hx;simp only[aGm,ah]at hx;subst hx;show fh G d v
   cases v with
   |agg cs=>
    simp only[U3]at hv
    cases hc:ac7 cs.toList with
    |none=>rw[hc]at hv;cases hv
    |some ds=>
     rw[hc]at hv;simp only[aGm,ah]at hv;subst hv;obtain⟨k1,k2⟩:=cells _ _ hc
     exact .agg (by simpa using k1) fun i x v hi hv=>k2 i x v hi (by simpa using hv)
   |_=>exact cell _ _ hv
 |func f=>
  simp only[ta,ah]at hx;subst hx
  exact fh.mb rfl (by simp)
 |global g=>cases hx
theorem i6.drew(h:i6 B0 w0 nt G0 s G E a w):i6 B0 w0 nt G0 s G E a w.drew where
 size:=h.size
 defers:=h.defers
 base:=h.base
 below:=h.below.drew
 gok:=⟨h.gok.cv,h.gok.mv⟩
 gle:=h.gle
 Gk:=h.Gk
 tmp:=h.tmp
 bm:=h.bm
 inj:=h.inj
 mp:=h.mp
 Oi:=h.Oi
 ctx:=h.ctx
end
section
variable{B0 nt:Nat}{w0 w w':World}{G0 G G':fc}{s s':PS}{E E':Env}{a:Act}
theorem Q3.lt{id:Nat}{b:B}(h:Q3 G E s B0 w id b):E.b id<w.heap.size:=by
 obtain⟨_,_,cells,et,h3,_⟩:=h;exact(j4.1 h3).1
theorem Q3.move{id:Nat}{b:B}(h:Q3 G E s B0 w id b)(hG:G.le G')(hm:Fs E E' s s')(hw:w'.heap[E.b id]? =w.heap[E.b id]?)
  (hc:∀o,G'.cv (E.b id) o=none)(e1:E'.b id=E.b id)(e2:E'.n id=E.n id):Q3 G' E' s' B0 w' id b:=by
 obtain⟨h1,h2,cells,et,h3,h4,h5⟩:=h;unfold Q3;rw[e1,e2];refine⟨h1,hc,cells,et,hw.trans h3,h4,?_⟩
 cases b with
 |arr sz els=>exact⟨h5.1,h5.2.1,fun i e j x u a b c=>(h5.2.2 i e j x u a b c).mono hG⟩
 |ny sz els=>exact⟨h5.1,h5.2.1,fun i e j x u a b c=>fm.Bv hG hm (h5.2.2 i e j x u a b c)⟩
 |loc cs=>exact⟨h5.1,fun j c u hc hu=>fm.Bv hG hm (h5.2 j c u hc hu)⟩
 |Ph n=>exact h5
theorem yw(w:World)(o:Obj)(k:Nat)(h:k<w.heap.size):(w.alloc o).heap[k]? =w.heap[k]? :=Below.heap_alloc w o k h
theorem Jc(w:World)(o:Obj):(w.alloc o).heap[w.heap.size]? =some o:=by
 show(w.heap.push o)[w.heap.size]? =_;simp
theorem GOk.alloc(h:GOk G w)(o:Obj):GOk G (w.alloc o):=h.below (Below.alloc (Below.refl _ _) (ar _) o)
theorem GOk.agw(h:GOk G w){b:Nat}(hb:w.heap.size≤b)(o:Nat):G.cv b o=none:=by
 cases hc:G.cv b o with
 |none=>rfl
 |some v=>have:=h.lt hc;omega
theorem GOk.aw9(h:GOk G w){b:Nat}(hb:w.heap.size≤b):G.mv b=none:=by
 cases hc:G.mv b with
 |none=>rfl
 |some v=>have:=h.ltm hc;omega
def Holds(G:fc)(E:Env)(s:PS)(cells:Array Value):B→Prop
 | .arr sz els=>els.length*sz≤cells.size∧(∀(i:Nat) (e:List D),els[i]? =some e→e.length=sz)∧
   ∀(i:Nat) (e:List D) (j:Nat) (x:D) (u:Value),els[i]? =some e→e[j]? =some x→cells[i*sz+j]? =some u→fh G x u
 | .ny sz els=>els.length*sz≤cells.size∧(∀(i:Nat) (e:List C),els[i]? =some e→e.length=sz)∧
   ∀(i:Nat) (e:List C) (j:Nat) (x:C) (u:Value),els[i]? =some e→e[j]? =some x→cells[i*sz+j]? =some u→ub G E s x u
 | .loc cs=>cs.length=cells.size∧∀(j:Nat) (c:C) (u:Value),cs[j]? =some c→cells[j]? =some u→ub G E s c u
 | .Ph n=>n=cells.size
theorem Holds.move{cells:Array Value}{b:B}(h:Holds G E s cells b)(hG:G.le G')(hm:Fs E E' s s'):Holds G' E' s' cells b:=by
 cases b with
 |arr sz els=>exact⟨h.1,h.2.1,fun i e j x u a b c=>(h.2.2 i e j x u a b c).mono hG⟩
 |ny sz els=>exact⟨h.1,h.2.1,fun i e j x u a b c=>fm.Bv hG hm (h.2.2 i e j x u a b c)⟩
 |loc cs=>exact⟨h.1,fun j c u hc hu=>fm.Bv hG hm (h.2 j c u hc hu)⟩
 |Ph n=>exact h
theorem i6.new(h:i6 B0 w0 nt G0 s G E a w)(id:Nat)(b:B)(cells:Array Value)(et:TypeId)(hb:Holds G E s cells b):
  i6 B0 w0 nt G0 {s with bm:=jf s.bm id (some b),ver:=jf s.ver id (s.ver id+1)} G
   {E with b:=jf E.b id w.heap.size,n:=jf E.n id cells.size} a (w.alloc (.cells cells et)):=by
 have hm:Fs E {E with b:=jf E.b id w.heap.size,n:=jf E.n id cells.size} s {s with bm:=jf s.bm id (some b),ver:=jf s.ver id (s.ver id+1)}:=by
  have kg:∀i,jf s.ver id (s.ver id+1) i=s.ver i→i≠id:=by
   intro i hi e;subst e;rw[bh]at hi;omega
  refine⟨fun i=>?_,fun i sz Qc hv ow=>?_,fun i b1 hv ow hva=>?_,fun i hv hp=>?_⟩
  ·show _≤jf s.ver id (s.ver id+1) i
   by_cases e:i=id
   ·subst e;rw[bh];omega
   ·rw[er _ _ _ _ e];exact ar _
  ·have e:=kg i hv
   simp only[PS.Bg,er _ _ _ _ e]at ow
   exact⟨Qc,ow,ar _,fun _=>⟨er _ _ _ _ e,er _ _ _ _ e⟩⟩
  ·have e:=kg i hv
   simp only[er _ _ _ _ e]at ow;exact⟨⟨b1,ow,hva⟩,er _ _ _ _ e⟩
  ·exact⟨hp,rfl⟩
 have hbw:w.heap.size=w.heap.size:=rfl
 have hB0:B0≤w.heap.size:=by rw[h.base];exact h.below.size
 refine⟨h.size,h.defers,h.base,h.below.alloc (by rw[h.base];exact h.below.size) _,h.gok.alloc _,h.gle,h.Gk,fun t=>fm.move (fc.le_refl _) hm (h.tmp t),fun i b' ow=>?_,fun i j bi bj hi hj hij=>?_,fun i es hi=>?_,h.Oi,fun p=>fm.move (fc.le_refl _) hm (h.ctx p)⟩
 ·by_cases e:i=id
  ·subst e
   simp only[bh,ah]at ow;subst ow;unfold Q3;simp only[bh]
   refine⟨hB0,fun o=>h.gok.agw (ar _) o,cells,et,Jc _ _,ar _,?_⟩
   have:=hb.move (fc.le_refl G) hm;cases b<;>exact this
  ·simp only[er _ _ _ _ e]at ow
   have k:=h.bm i _ ow;exact k.move (fc.le_refl _) hm (yw _ _ _ k.lt) k.2.1 (er _ _ _ _ e) (er _ _ _ _ e)
 ·have lt:∀i b,s.bm i=some b→E.b i≠w.heap.size:=fun i b hi=>by have:=(h.bm i b hi).lt;omega
  by_cases ei:i=id
  ·subst ei
   have ej:j≠i:=fun e=>hij e.symm
   simp only[er _ _ _ _ ej]at hj;simp only[bh,er _ _ _ _ ej]
   exact fun e=>lt j bj hj e.symm
  ·simp only[er _ _ _ _ ei]at hi⊢
   by_cases ej:j=id
   ·subst ej
    simp only[bh];exact lt i bi hi
   ·simp only[er _ _ _ _ ej]at hj⊢
    exact h.inj i j bi bj hi hj hij
 ·obtain⟨h1,h2,ents,clock,h3,h4,h5,h6⟩:=h.mp i es hi
  exact⟨h1,h2,ents,clock,(yw _ _ _ (j4.1 h3).1).trans h3,h4,fun i e x hx hy=>⟨(h5 i e x hx hy).1,fm.Bv (fc.le_refl _) hm (h5 i e x hx hy).2⟩,h6⟩
structure y9(w w':World)(g:Nat)(o:Obj):Prop where
 os:w'.os=w.os
 tape:w'.tape=w.tape
 output:w'.output=w.output
 drawn:w'.drawn=w.drawn
 size:w'.heap.size=w.heap.size
 other:∀k,k≠g→w'.heap[k]? =w.heap[k]?
 at_:w'.heap[g]? =some o
theorem y9.below{g:Nat}{o:Obj}(h:y9 w w' g o)(hg:B0≤g):Bel B0 w w':=
 ⟨⟨h.os,h.tape,h.output,by rw[h.size];exact ar _,fun k hk=>h.other k (by omega)⟩,by rw[h.drawn];exact ar _⟩
theorem afp{k:Nat}(h:w'.heap[k]? =w.heap[k]?)(o:Nat):w'.cell? ⟨k,o,none⟩=w.cell? ⟨k,o,none⟩:=World.cell?_of_block (w:=w) h
theorem GOk.ale{g:Nat}{o:Obj}(h:GOk G w)(ht:y9 w w' g o)(hc:∀o,G.cv g o=none)(hm:G.mv g=none):GOk G w' where
 cv b o v hv:=by
  have:b≠g:=fun e=>by subst e;rw[hc]at hv;cases hv
  exact(afp (ht.other b this) o).trans (h.cv b o v hv)
 mv b es hv:=by
  have:b≠g:=fun e=>by subst e;rw[hm]at hv;cases hv
  obtain⟨ents,clock,h1,h2⟩:=h.mv b es hv;exact⟨ents,clock,(ht.other b this).trans h1,h2⟩
def Alike(b b':B):Prop:=b.isVar=b'.isVar∧∀sz n',b'.Bg=some (sz,n')→∃n,b.Bg=some (sz,n)∧n≤n'
theorem tp{s:PS}{id:Nat}{b:B}(h:s.bm id=some b):s.Bg id=b.Bg:=by unfold PS.Bg;rw[h];rfl
theorem Alike.arr{sz:Nat}{els Qc:List (List D)}(h:els.length≤Qc.length):Alike (.arr sz els) (.arr sz Qc):=⟨rfl,fun sz' n' h'=>by simp only[B.Bg,ah,ay]at h';obtain⟨rfl,rfl⟩:=h';exact⟨_,rfl,h⟩⟩
theorem Alike.loc{cs cs':List C}:Alike (.loc cs) (.loc cs'):=⟨rfl,fun sz' n' h'=>by simp[B.Bg]at h'⟩
theorem i6.asb(h:i6 B0 w0 nt G0 s G E a w){id:Nat}{b:B}(hb:s.bm id=some b):G.mv (E.b id)=none:=by
 cases hm:G.mv (E.b id)with
 |none=>rfl
 |some es=>
  obtain⟨ents,clock,h1,_⟩:=h.gok.mv _ _ hm;obtain⟨_,_,cells,et,h3,_⟩:=h.bm id b hb;rw[h1]at h3;cases h3
theorem i6.set(h:i6 B0 w0 nt G0 s G E a w){id:Nat}{b b':B}(hb:s.bm id=some b)(hal:Alike b b'){cells:Array Value}{et:TypeId}
  (ht:y9 w w' (E.b id) (.cells cells et (0,0)))(hn:E.n id≤cells.size)(hh:Holds G E s cells b'):
  i6 B0 w0 nt G0 {s with bm:=jf s.bm id (some b')} G E a w':=by
 have hm:Fs E E s {s with bm:=jf s.bm id (some b')}:=by
  refine⟨fun i=>ar _,fun i sz Qc _ ow=>?_,fun i b1 _ ow hva=>?_,fun i hv hp=>⟨hp,rfl⟩⟩
  ·by_cases e:i=id
   ·subst e
    rw[tp (b:=b') (bh _ _ _)]at ow;obtain⟨n,hn,hle⟩:=hal.2 _ _ ow
    exact⟨n,(tp hb).trans hn,hle,fun _=>⟨rfl,rfl⟩⟩
   ·simp only[PS.Bg,er _ _ _ _ e]at ow
    exact⟨Qc,ow,ar _,fun _=>⟨rfl,rfl⟩⟩
  ·by_cases e:i=id
   ·subst e
    simp only[bh,ah]at ow;subst ow;exact⟨⟨_,hb,hal.1.trans hva⟩,rfl⟩
   ·simp only[er _ _ _ _ e]at ow
    exact⟨⟨b1,ow,hva⟩,rfl⟩
 have k0:=h.bm id b hb;have hg:=k0.1
 refine⟨h.size,h.defers,h.base,h.below.trans (ht.below hg),h.gok.ale ht k0.2.1 (h.asb hb),h.gle,h.Gk,fun t=>fm.move (fc.le_refl _) hm (h.tmp t),fun i b1 hb1=>?_,fun i j bi bj hi hj hij=>?_,fun i es hi=>?_,h.Oi,fun p=>fm.move (fc.le_refl _) hm (h.ctx p)⟩
 ·by_cases e:i=id
  ·subst e
   simp only[bh,ah]at hb1;subst hb1;refine⟨hg,k0.2.1,cells,et,ht.at_,hn,?_⟩;have:=hh.move (fc.le_refl G) hm;cases b'<;>exact this
  ·simp only[er _ _ _ _ e]at hb1
   have k:=h.bm i b1 hb1;exact k.move (fc.le_refl _) hm (ht.other _ (h.inj i id b1 b hb1 hb e)) k.2.1 rfl rfl
 ·have un:∀i bi,jf s.bm id (some b') i=some bi→∃b2,s.bm i=some b2:=by
   intro i bi hi;by_cases e:i=id
   ·subst e;exact⟨b,hb⟩
   ·rw[er _ _ _ _ e]at hi;exact⟨bi,hi⟩
  obtain⟨b2,h2⟩:=un i bi hi;obtain⟨b3,h3⟩:=un j bj hj;exact h.inj i j b2 b3 h2 h3 hij
 ·obtain⟨h1,h2,ents,clock,h3,h4,h5,h6⟩:=h.mp i es hi
  refine⟨h1,h2,ents,clock,(ht.other _ fun e=>?_).trans h3,h4,fun i e x hx hy=>⟨(h5 i e x hx hy).1,fm.Bv (fc.le_refl _) hm (h5 i e x hx hy).2⟩,h6⟩
  obtain⟨_,_,aDn,et0,h6,_⟩:=k0;rw[e,h6]at h3;cases h3
theorem i6.avq(h:i6 B0 w0 nt G0 s G E a w){id sz n n':Nat}{b b':B}(hb:s.bm id=some b)(hd:b.Bg=some (sz,n))(hd':b'.Bg=some (sz,n'))(hl:n<n')
  (cells:Array Value)(et:TypeId)(hh:Holds G E s cells b'):
  i6 B0 w0 nt G0 {s with bm:=jf s.bm id (some b')} G {E with b:=jf E.b id w.heap.size,n:=jf E.n id cells.size} a (w.alloc (.cells cells et)):=by
 have hm:Fs E {E with b:=jf E.b id w.heap.size,n:=jf E.n id cells.size} s {s with bm:=jf s.bm id (some b')}:=by
  refine⟨fun i=>ar _,fun i sz1 aCt _ ow=>?_,fun i b1 _ ow hva=>?_,fun i hv hp=>⟨hp,rfl⟩⟩
  ·by_cases e:i=id
   ·subst e
    rw[tp (b:=b') (bh _ _ _),hd']at ow;simp only[ah,ay]at ow;obtain⟨rfl,rfl⟩:=ow
    exact⟨n,(tp hb).trans hd,aFy hl,fun e=>by omega⟩
   ·simp only[PS.Bg,er _ _ _ _ e]at ow
    exact⟨aCt,ow,ar _,fun _=>⟨er _ _ _ _ e,er _ _ _ _ e⟩⟩
  ·by_cases e:i=id
   ·subst e
    simp only[bh,ah]at ow;subst ow
    cases b'<;>first|(cases hva;done)|(simp[B.Bg]at hd';done)
   ·simp only[er _ _ _ _ e]at ow
    exact⟨⟨b1,ow,hva⟩,er _ _ _ _ e⟩
 have hB0:B0≤w.heap.size:=by rw[h.base];exact h.below.size
 refine⟨h.size,h.defers,h.base,h.below.alloc hB0 _,h.gok.alloc _,h.gle,h.Gk,fun t=>fm.move (fc.le_refl _) hm (h.tmp t),fun i b1 ow=>?_,fun i j bi bj hi hj hij=>?_,fun i es hi=>?_,h.Oi,fun p=>fm.move (fc.le_refl _) hm (h.ctx p)⟩
 ·by_cases e:i=id
  ·subst e
   simp only[bh,ah]at ow;subst ow;unfold Q3;simp only[bh]
   refine⟨hB0,fun o=>h.gok.agw (ar _) o,cells,et,Jc _ _,ar _,?_⟩
   have:=hh.move (fc.le_refl G) hm;cases b'<;>exact this
  ·simp only[er _ _ _ _ e]at ow
   have k:=h.bm i _ ow;exact k.move (fc.le_refl _) hm (yw _ _ _ k.lt) k.2.1 (er _ _ _ _ e) (er _ _ _ _ e)
 ·have lt:∀i b,s.bm i=some b→E.b i≠w.heap.size:=fun i b hi=>by have:=(h.bm i b hi).lt;omega
  by_cases ei:i=id
  ·subst ei
   have ej:j≠i:=fun e=>hij e.symm
   simp only[er _ _ _ _ ej]at hj;simp only[bh,er _ _ _ _ ej]
   exact fun e=>lt j bj hj e.symm
  ·simp only[er _ _ _ _ ei]at hi⊢
   by_cases ej:j=id
   ·subst ej
    simp only[bh];exact lt i bi hi
   ·simp only[er _ _ _ _ ej]at hj⊢
    exact h.inj i j bi bj hi hj hij
 ·obtain⟨h1,h2,ents,clock,h3,h4,h5,h6⟩:=h.mp i es hi
  exact⟨h1,h2,ents,clock,(yw _ _ _ (j4.1 h3).1).trans h3,h4,fun i e x hx hy=>⟨(h5 i e x hx hy).1,fm.Bv (fc.le_refl _) hm (h5 i e x hx hy).2⟩,h6⟩
end
section
variable{B0 nt:Nat}{w0 w w':World}{G0 G G':fc}{s s':PS}{E E':Env}{a:Act}
def Vz(G' G:fc)(E:Env)(s:PS)(id:Nat):Prop:=
 (∀sz els ver v,s.bm id=some (.arr sz els)→s.ver id=ver→fm G E s (.ref id ver els.length) v→fh G' (.dt sz els) v)∧
 (∀es ds ver v,s.mp id=some es→Vr es=some ds→s.ver id=ver→fm G E s (.ku id ver) v→fh G' (.map ds) v)
def PS.G8(i:Nat)(s:PS):PS:={s with bm:=jf s.bm i none,mp:=jf s.mp i none}
theorem PS.Jo(i:Nat)(r:List Nat)(s:PS):s.sn (i::r)=(s.G8 i).sn r:=rfl
theorem Fs.G8(id:Nat):Fs E E s (s.G8 id):=by
 refine⟨fun i=>ar _,fun i sz Qc _ ow=>?_,fun i b1 _ ow hva=>?_,fun i _ hp=>?_⟩
 ·by_cases e:i=id
  ·subst e;simp[PS.G8,PS.Bg,bh]at ow
  ·simp only[PS.G8,PS.Bg,er _ _ _ _ e]at ow;exact⟨Qc,ow,ar _,fun _=>⟨rfl,rfl⟩⟩
 ·by_cases e:i=id
  ·subst e;simp[PS.G8,bh]at ow
  ·simp only[PS.G8,er _ _ _ _ e]at ow;exact⟨⟨b1,ow,hva⟩,rfl⟩
 ·by_cases e:i=id
  ·subst e;simp[PS.G8,bh]at hp
  ·simp only[PS.G8,er _ _ _ _ e]at hp;exact⟨hp,rfl⟩
theorem akn:∀{es:List (D×C)} {ds:List (D×D)},Vr es=some ds→es=ds.map fun e=>(e.1,.d e.2):=by
 intro es
 induction es with
 |nil=>intro ds h;simp only[Vr,ah]at h;subst h;rfl
 |cons e r ih=>
  intro ds h;obtain⟨k,c⟩:=e
  cases c with
  |d x=>
   simp only[Vr]at h;split at h
   ·rename_i l hl
    injection h with h
    subst h;rw[ih hl];rfl
   ·cases h
  |ref _ _ _=>cases h
  |ku _ _=>cases h
  |ptr _ _ _=>cases h
theorem i6.G8(h:i6 B0 w0 nt G0 s G E a w)(id:Nat):∃G',G.le G'∧i6 B0 w0 nt G0 (s.G8 id) G' E a w∧Vz G' G E s id:=by
 classical
 let G':fc:=
  {cv:=fun b o=>match s.bm id with
    |some (.arr sz els)=>if b=E.b id∧o<els.length*sz then w.cell? ⟨b,o,none⟩else G.cv b o
    |_=>G.cv b o
   mv:=fun b=>match s.mp id with
    |some _=>if b=E.m id then(match w.heap[b]? with|some (.map ents _)=>some (ents.toList.map fun(e:MapEntry)=>(e.key,e.val))|_=>none)else G.mv b
    |none=>G.mv b}
 have hcv:∀b o,b≠E.b id→G'.cv b o=G.cv b o:=by
  intro b o hb
  show(match s.bm id with|some (.arr sz els)=>if b=E.b id∧o<els.length*sz then w.cell? ⟨b,o,none⟩else G.cv b o|_=>G.cv b o)=_
  split
  ·rw[if_neg (fun h=>hb h.1)]
  ·rfl
 have hle:G.le G':=by
  refine⟨fun b o v hv=>?_,fun b es hv=>?_⟩
  ·show(match s.bm id with|some (.arr sz els)=>if b=E.b id∧o<els.length*sz then w.cell? ⟨b,o,none⟩else G.cv b o|_=>G.cv b o)=_
   split
   ·split
    ·exact h.gok.cv b o v hv
    ·exact hv
   ·exact hv
  ·show(match s.mp id with|some _=>if b=E.m id then(match w.heap[b]? with|some (.map ents _)=>some (ents.toList.map fun(e:MapEntry)=>(e.key,e.val))|_=>none)else G.mv b|none=>G.mv b)=_
   split
   ·split
    ·obtain⟨ents,clock,h1,h2⟩:=h.gok.mv b es hv
     rw[h1];simp[h2]
    ·exact hv
   ·exact hv
 have hok:GOk G' w:=by
  refine⟨fun b o v hv=>?_,fun b es hv=>?_⟩
  ·change(match s.bm id with|some (.arr sz els)=>if b=E.b id∧o<els.length*sz then w.cell? ⟨b,o,none⟩else G.cv b o|_=>G.cv b o)=_ at hv
   split at hv
   ·split at hv
    ·exact hv
    ·exact h.gok.cv b o v hv
   ·exact h.gok.cv b o v hv
  ·change(match s.mp id with|some _=>if b=E.m id then(match w.heap[b]? with|some (.map ents _)=>some (ents.toList.map fun(e:MapEntry)=>(e.key,e.val))|_=>none)else G.mv b|none=>G.mv b)=_ at hv
   split at hv
   ·split at hv
    ·split at hv
     ·rename_i ents clock hh
      injection hv with hv
      exact⟨ents,clock,hh,hv⟩
     ·cases hv
    ·exact h.gok.mv b es hv
   ·exact h.gok.mv b es hv
 have hm:=Fs.G8 (E:=E) (s:=s) id
 have hblk:∀i b,(s.G8 id).bm i=some b→i≠id∧s.bm i=some b:=by
  intro i b hb;by_cases e:i=id
  ·subst e;simp[PS.G8,bh]at hb
  ·simp only[PS.G8,er _ _ _ _ e]at hb;exact⟨e,hb⟩
 have hmp:∀i es,(s.G8 id).mp i=some es→i≠id∧s.mp i=some es:=by
  intro i b hb;by_cases e:i=id
  ·subst e;simp[PS.G8,bh]at hb
  ·simp only[PS.G8,er _ _ _ _ e]at hb;exact⟨e,hb⟩
 refine⟨G',hle,⟨h.size,h.defers,h.base,h.below,hok,fc.le_trans h.gle hle,⟨fun b o hb=>?_,fun b hb=>?_⟩,fun t=>fm.move hle hm (h.tmp t),fun i b hb=>?_,fun i j bi bj hi hj hij=>?_,fun i es hi=>?_,fun i j bi bj hi hj hij=>?_,fun p=>fm.move hle hm (h.ctx p)⟩,?_⟩
 ·rw[←h.Gk.1 b o hb]
  show(match s.bm id with|some (.arr sz els)=>if b=E.b id∧o<els.length*sz then w.cell? ⟨b,o,none⟩else G.cv b o|_=>G.cv b o)=_
  split
  ·rename_i sz els hs
   have:=(h.bm id _ hs).1
   rw[if_neg (fun h=>by omega)]
  ·rfl
 ·rw[←h.Gk.2 b hb]
  show(match s.mp id with|some _=>if b=E.m id then(match w.heap[b]? with|some (.map ents _)=>some (ents.toList.map fun(e:MapEntry)=>(e.key,e.val))|_=>none)else G.mv b|none=>G.mv b)=_
  split
  ·rename_i es hs
   have:=(h.mp id es hs).1
   rw[if_neg (by omega)]
  ·rfl
 ·obtain⟨e,hb⟩:=hblk i b hb
  have k:=h.bm i b hb
  refine k.move hle hm rfl (fun o=>?_) rfl rfl
  show(match s.bm id with|some (.arr sz els)=>if E.b i=E.b id∧o<els.length*sz then w.cell? ⟨E.b i,o,none⟩else G.cv (E.b i) o|_=>G.cv (E.b i) o)=_
  split
  ·rename_i sz els hs
   rw[if_neg (fun h'=>h.inj i id b _ hb hs e h'.1)]
   exact k.2.1 o
  ·exact k.2.1 o
 ·exact h.inj i j bi bj (hblk i bi hi).2 (hblk j bj hj).2 hij
 ·obtain⟨e,hi⟩:=hmp i es hi
  obtain⟨h1,h2,ents,clock,h3,h4,h5,h6⟩:=h.mp i es hi
  refine⟨h1,?_,ents,clock,h3,h4,fun i e x hx hy=>⟨(h5 i e x hx hy).1.mono hle,fm.Bv hle hm (h5 i e x hx hy).2⟩,h6⟩
  show(match s.mp id with|some _=>if E.m i=E.m id then _ else G.mv (E.m i)|none=>G.mv (E.m i))=_
  split
  ·rename_i es' hs
   rw[if_neg (h.Oi i id es es' hi hs e)];exact h2
  ·exact h2
 ·exact h.Oi i j bi bj (hmp i bi hi).2 (hmp j bj hj).2 hij
 ·refine⟨fun sz els ver v hs hv hr=>?_,fun es ds ver v hs hds hv hr=>?_⟩
  ·obtain⟨_,h2⟩:=hr
   obtain⟨_,k2⟩:=h2 hv sz els.length (tp hs);obtain⟨cap,e1,e2,rfl⟩:=k2 rfl;obtain⟨_,_,cells,et,h3,h4,h5,h6,h7⟩:=h.bm id _ hs
   have Ii:∀o,o<els.length*sz→G'.cv (E.b id) o=w.cell? ⟨E.b id,o,none⟩:=by
    intro o ho
    show(match s.bm id with|some (.arr sz els)=>if E.b id=E.b id∧o<els.length*sz then w.cell? ⟨E.b id,o,none⟩else G.cv (E.b id) o|_=>G.cv (E.b id) o)=_
    rw[hs];simp only[];rw[if_pos ⟨trivial,ho⟩]
   have hw:∀o,w.cell? ⟨E.b id,o,none⟩=cells[o]? :=by
    intro o;simp[aG5,h3]
   have iy:∀i j,i<els.length→j<sz→i*sz+j<els.length*sz:=by
    intro i j hi hj;have:(i+1)*sz≤els.length*sz:=ep _ hi;rw[iw]at this;omega
   refine fh.dt e2 h6 (fun i j hi hj=>?_) (fun i e j x v he hx hv=>?_)
   ·have:=iy i j hi hj
    rw[eh,Ii _ this,hw,av (by omega)]
    rfl
   ·have hil:i<els.length:=(aq.1 he).1
    have hjl:j<sz:=by have:=h6 i e he;have:=(aq.1 hx).1;omega
    rw[eh,Ii _ (iy i j hil hjl),hw]at hv;exact(h7 i e j x v he hx hv).mono hle
  ·obtain⟨_,h2⟩:=hr
   have e:=h2 hv (by rw[hs];rfl)
   subst e;have hm:=akn hds;subst hm;obtain⟨h1,_,ents,clock,h3,h4,h5,_⟩:=h.mp id _ hs
   have hmv:G'.mv (E.m id)=some (ents.toList.map fun(e:MapEntry)=>(e.key,e.val)):=by
    show(match s.mp id with|some _=>if E.m id=E.m id then(match w.heap[E.m id]? with|some (.map ents _)=>some (ents.toList.map fun(e:MapEntry)=>(e.key,e.val))|_=>none)else G.mv (E.m id)|none=>G.mv (E.m id))=_
    rw[hs,h3];simp
   refine fh.map hmv (by simpa using h4) (fun i e f he hf=>?_) (fun i e f he hf=>?_)
   all_goals
    simp only[bp,ak]at hf;obtain⟨x,hx,rfl⟩:=hf
    have:=h5 i (e.1,.d e.2) x (by simp[he]) (by simpa using hx)
   ·exact this.1.mono hle
   ·exact fh.mono hle this.2
theorem i6.sn:∀(ids:List Nat) {s:PS} {G:fc},i6 B0 w0 nt G0 s G E a w→∃G',G.le G'∧i6 B0 w0 nt G0 (s.sn ids) G' E a w∧∀id∈ids,Vz G' G E s id:=by
 intro ids
 induction ids with
 |nil=>exact fun h=>⟨_,fc.le_refl _,h,fun id hid=>by cases hid⟩
 |cons i r ih=>
  intro s G h;obtain⟨G1,l1,h1,g1⟩:=h.G8 i;obtain⟨G2,l2,h2,g2⟩:=ih h1
  refine⟨G2,fc.le_trans l1 l2,h2,fun id hid=>?_⟩
  have first:Vz G2 G E s i:=⟨fun sz els ver v a b c=>(g1.1 sz els ver v a b c).mono l2,fun es ds ver v a b c d=>(g1.2 es ds ver v a b c d).mono l2⟩
  by_cases e:id=i
  ·subst e;exact first
  ·have azc:id∈r:=by
    cases hid with
    |head=>exact absurd rfl e
    |tail _ h=>exact h
   have g:=g2 id azc
   refine⟨fun sz els ver v hb hv hr=>?_,fun es ds ver v hb hd hv hr=>?_⟩
   ·exact g.1 sz els ver v (by simp only[PS.G8,er _ _ _ _ e];exact hb) hv (fm.move l1 (Fs.G8 i) hr)
   ·exact g.2 es ds ver v (by simp only[PS.G8,er _ _ _ _ e];exact hb) hd hv (fm.move l1 (Fs.G8 i) hr)
theorem v7{id ver sz:Nat}{els:List (List D)}(h:s.els id ver=some (sz,els)):s.ver id=ver∧s.bm id=some (.arr sz els):=by
 unfold PS.els at h;split at h
 ·rename_i hv
  split at h
  ·rename_i sz' Qc hb
   injection h with h
   injection h with h1 h2
   subst h1 h2;exact⟨hv,hb⟩
  ·cases h
 ·cases h
theorem Fm{id ver sz:Nat}{els:List (List C)}(h:s.elc id ver=some (sz,els)):s.ver id=ver∧∃b,s.bm id=some b∧b.Bg=some (sz,els.length)∧
  ((∃ds,b= .arr sz ds∧els=ds.map fun e=>e.map .d)∨b= .ny sz els):=by
 unfold PS.elc at h;split at h
 ·rename_i hv
  split at h
  ·rename_i sz' ds hb
   simp only[ah,ay]at h;obtain⟨rfl,rfl⟩:=h
   exact⟨hv,_,hb,by simp[B.Bg],.inl ⟨ds,rfl,rfl⟩⟩
  ·rename_i sz' Qc hb
   simp only[ah,ay]at h;obtain⟨rfl,rfl⟩:=h;exact⟨hv,_,hb,rfl,.inr rfl⟩
  ·cases h
 ·cases h
theorem Ef{id ver sz n:Nat}(h:s.Gl id ver=some (sz,n)):s.ver id=ver∧s.Bg id=some (sz,n):=by
 unfold PS.Gl at h;split at h
 ·rename_i hv
  split at h
  ·rename_i b hb
   exact⟨hv,(tp hb).trans h⟩
  ·cases h
 ·cases h
theorem awy{id ver sz:Nat}{els:List (List C)}(h:s.elc id ver=some (sz,els)):s.Gl id ver=some (sz,els.length):=by
 obtain⟨h1,b,h2,h3,_⟩:=Fm h;unfold PS.Gl;rw[if_pos h1,h2];exact h3
theorem af7{id ver sz:Nat}{els:List (List D)}(h:s.els id ver=some (sz,els)):s.Gl id ver=some (sz,els.length):=by
 obtain⟨h1,h2⟩:=v7 h;unfold PS.Gl;rw[if_pos h1,h2];rfl
theorem a1w{id ver sz:Nat}{els:List (List D)}(h:s.els id ver=some (sz,els)):s.elc id ver=some (sz,els.map fun e=>e.map .d):=by
 obtain⟨h1,h2⟩:=v7 h;unfold PS.elc;rw[if_pos h1,h2]
theorem ato{id sz n:Nat}(h:s.Bg id=some (sz,n)):∃b,s.bm id=some b∧b.Bg=some (sz,n):=by
 unfold PS.Bg at h
 cases hb:s.bm id with
 |none=>rw[hb]at h;cases h
 |some b=>rw[hb]at h;exact⟨b,rfl,h⟩
theorem s9{id ver:Nat}{cs:List C}(h:s.cs id ver=some cs):s.ver id=ver∧s.bm id=some (.loc cs):=by
 unfold PS.cs at h;split at h
 ·rename_i hv
  split at h
  ·rename_i cs' hb
   injection h with h
   subst h;exact⟨hv,hb⟩
  ·cases h
 ·cases h
theorem D7{id ver:Nat}{es:List (D×C)}(h:s.ents id ver=some es):s.ver id=ver∧s.mp id=some es:=by
 unfold PS.ents at h;split at h
 ·rename_i hv;exact⟨hv,h⟩
 ·cases h
theorem a0k{c:C}{x:D}{ids:List Nat}{u:Value}(hp:Nr s c=some (x,ids))(hc:ub G E s c u)(hle:G.le G')(hg:∀id∈ids,Vz G' G E s id):fh G' x u:=by
 cases c with
 |d y=>
  simp only[Nr,ah,ay]at hp;obtain⟨rfl,rfl⟩:=hp;exact fh.mono hle hc
 |ref id ver len=>
  simp only[Nr]at hp;split at hp
  ·rename_i sz els he
   split at hp
   ·rename_i hl
    simp only[ah,ay]at hp;obtain⟨rfl,rfl⟩:=hp;obtain⟨e1,e2⟩:=v7 he;subst hl
    exact(hg id (by simp)).1 sz els ver u e2 e1 hc
   ·cases hp
  ·cases hp
 |ku id ver=>
  simp only[Nr]at hp;split at hp
  ·rename_i es he
   simp only[ak,ay]at hp;obtain⟨ds,hds,rfl,rfl⟩:=hp;obtain⟨e1,e2⟩:=D7 he
   exact(hg id (by simp)).2 es ds ver u e2 hds e1 hc
  ·cases hp
 |ptr id ver off=>cases hp
theorem a5a:∀{cs:List C} {ds:List D} {ids:List Nat},Mh s cs=some (ds,ids)→ds.length=cs.length∧
  (G.le G'→(∀id∈ids,Vz G' G E s id)→∀(i:Nat) (c:C) (x:D) (u:Value),cs[i]? =some c→ds[i]? =some x→ub G E s c u→fh G' x u):=by
 intro cs
 induction cs with
 |nil=>intro ds ids h;simp only[Mh,ah,ay]at h;obtain⟨rfl,rfl⟩:=h;exact⟨rfl,by simp⟩
 |cons c r ih=>
  intro ds ids h;simp only[Mh]at h;split at h
  ·rename_i x i l j h1 h2
   simp only[ah,ay]at h;obtain⟨rfl,rfl⟩:=h;obtain⟨k1,k2⟩:=ih h2
   refine⟨by simp[k1],fun hle hg n c' x' u hc hx hr=>?_⟩
   cases n with
   |zero=>
    simp only[ff,ah]at hc hx;subst hc hx
    exact a0k h1 hr hle fun id hid=>hg id (a68 _ hid)
   |succ n=>
    simp only[jx]at hc hx
    exact k2 hle (fun id hid=>hg id (a2y _ hid)) n c' x' u hc hx hr
  ·cases h
end
def full(w:World):fc where
 cv b o:=w.cell? ⟨b,o,none⟩
 mv b:=match w.heap[b]? with
  |some (.map ents _)=>some (ents.toList.map fun(e:MapEntry)=>(e.key,e.val))
  |_=>none
theorem GOk.ah9(w:World):GOk (full w) w where
 cv _ _ _ h:=h
 mv b es h:=by
  unfold full at h;simp only at h;split at h
  ·rename_i ents clock hh
   injection h with h
   exact⟨ents,clock,hh,h⟩
  ·cases h
theorem GOk.Ry{G:fc}{w:World}(h:GOk G w):G.le (full w)where
 cv:=h.cv
 mv b es he:=by
  obtain⟨ents,clock,h1,h2⟩:=h.mv b es he;simp only[full,h1,h2]
section
variable{B0 nt:Nat}{w0 w w':World}{G0 G G':fc}{s s':PS}{E E':Env}{a:Act}
theorem P4:∀{cs:List C} {ds:List D},J4 cs=some ds→cs=ds.map .d:=by
 intro cs
 induction cs with
 |nil=>intro ds h;simp only[J4,ah]at h;subst h;rfl
 |cons c r ih=>
  intro ds h
  cases c with
  |d x=>
   simp only[J4]at h;split at h
   ·rename_i l hl
    injection h with h
    subst h;rw[ih hl];rfl
   ·cases h
  |ref _ _ _=>cases h
  |ku _ _=>cases h
  |ptr _ _ _=>cases h
theorem Vx(ds:List D):J4 (ds.map .d)=some ds:=by
 induction ds with
 |nil=>rfl
 |cons x r ih=>simp[J4,ih]
theorem i6.va(h:i6 B0 w0 nt G0 s G E a w){id:Nat}{b:B}(hb:s.bm id=some b):∃cells et,w.heap[E.b id]? =some (.cells cells et (0,0))∧E.n id≤cells.size∧Holds G E s cells b∧∀o,w.cell? ⟨E.b id,o,none⟩=cells[o]? :=by
 obtain⟨_,_,cells,et,h3,h4,h5⟩:=h.bm id b hb
 refine⟨cells,et,h3,h4,?_,fun o=>by simp[aG5,h3]⟩
 cases b<;>exact h5
theorem Ux{α:Type}:∀{l:List (Option α)} {r:List α},Nt l=some r→r.length=l.length∧∀(i:Nat) (x:α),r[i]? =some x→l[i]? =some (some x):=by
 intro l
 induction l with
 |nil=>intro r h;simp only[Nt,ah]at h;subst h;simp
 |cons y l ih=>
  intro r h;simp only[Nt]at h;split at h
  ·rename_i x l' h2
   injection h with h
   subst h;obtain⟨k1,k2⟩:=ih h2
   refine⟨by simp[k1],fun i x hx=>?_⟩
   cases i with
   |zero=>simp at hx⊢;rw[hx]
   |succ i=>simp at hx⊢;exact k2 i x hx
  ·cases h
theorem Holds.elc{cells:Array Value}{b:B}{sz:Nat}{els:List (List C)}(h:Holds G E s cells b)(hb:(∃ds,b= .arr sz ds∧els=ds.map fun e=>e.map .d)∨b= .ny sz els):
  els.length*sz≤cells.size∧(∀(i:Nat) (e:List C),els[i]? =some e→e.length=sz)∧
   ∀(i:Nat) (e:List C) (j:Nat) (c:C) (u:Value),els[i]? =some e→e[j]? =some c→cells[i*sz+j]? =some u→ub G E s c u:=by
 rcases hb with ⟨ds,rfl,rfl⟩|rfl
 ·obtain⟨h1,h2,h3⟩:=h
  refine⟨by simpa using h1,fun i e he=>?_,fun i e j c u he hc hu=>?_⟩
  ·simp only[bp,ak]at he
   obtain⟨e',he',rfl⟩:=he;simpa using h2 i e' he'
  ·simp only[bp,ak]at he
   obtain⟨e',he',rfl⟩:=he;simp only[bp,ak]at hc;obtain⟨x,hx,rfl⟩:=hc;exact h3 i e' j x u he' hx hu
 ·exact h
theorem Wx{i j n sz:Nat}(hi:i<n)(hj:j<sz):i*sz+j<n*sz:=by
 have:(i+1)*sz≤n*sz:=ep _ hi;rw[iw]at this;omega
theorem i6.acd(h:i6 B0 w0 nt G0 s G E a w):∀(n:Nat) {c:C} {d:D} {v:Value},deep s n c=some d→ub G E s c v→fh (full w) d v:=by
 intro n
 induction n with
 |zero=>
  intro c d v hs hv
  cases c with
  |d x=>simp only[deep,ah]at hs;subst hs;exact fh.mono h.gok.Ry hv
  |ref _ _ _=>simp[deep]at hs
  |ku _ _=>simp[deep]at hs
  |ptr _ _ _=>simp[deep]at hs
 |succ n ih=>
  intro c d v hs hv
  cases c with
  |d x=>simp only[deep,ah]at hs;subst hs;exact fh.mono h.gok.Ry hv
  |ref id ver len=>
   simp only[deep]at hs;split at hs
   ·rename_i sz els he
    split at hs
    ·rename_i hl
     simp only[ak]at hs;obtain⟨ds,hds,rfl⟩:=hs;obtain⟨k1,k2⟩:=Ux hds;simp only[ae]at k1;obtain⟨e1,b,e2,e3,e4⟩:=Fm he;obtain⟨_,q⟩:=hv.2 e1 sz els.length ((tp e2).trans e3);obtain⟨cap,c1,c2,rfl⟩:=q hl;obtain⟨cells,et,h3,h4,hh,hw⟩:=h.va e2;obtain⟨h5,h6,h7⟩:=hh.elc e4
     have row:∀(i:Nat) (e:List D),ds[i]? =some e→∃e',els[i]? =some e'∧e.length=e'.length∧∀(j:Nat) (x:D),e[j]? =some x→∃c,e'[j]? =some c∧deep s n c=some x:=by
      intro i e hi;have:=k2 i e hi;simp only[bp,ak]at this;obtain⟨e',he',hr⟩:=this;obtain⟨r1,r2⟩:=Ux hr
      refine⟨e',he',by simpa using r1,fun j x hx=>?_⟩
      have:=r2 j x hx;simp only[bp,ak]at this;exact this
     subst hl;rw[←k1]
     refine fh.dt (by omega) (fun i e hi=>?_) (fun i j hi hj=>?_) (fun i e j x v hi hx hv=>?_)
     ·obtain⟨e',q1,q2,_⟩:=row i e hi
      rw[q2];exact h6 i e' q1
     ·show(w.cell? _).isSome
      have:=Wx (n:=els.length) (by omega:i<els.length) hj
      rw[eh,hw,av (by omega)]
      rfl
     ·have hv':w.cell? ⟨E.b id,0+i*sz+j,none⟩=some v:=hv
      rw[eh,hw]at hv';obtain⟨e',q1,_,q3⟩:=row i e hi;obtain⟨c,q4,q5⟩:=q3 j x hx;exact ih q5 (h7 i e' j c v q1 q4 hv')
    ·cases hs
   ·cases hs
  |ku id ver=>
   simp only[deep]at hs;split at hs
   ·rename_i es he
    simp only[ak]at hs;obtain⟨ds,hds,rfl⟩:=hs;obtain⟨k1,k2⟩:=Ux hds;simp only[ae]at k1;obtain⟨e1,e2⟩:=D7 he
    have:=hv.2 e1 (by rw[e2];rfl)
    subst this;obtain⟨h1,_,ents,clock,h3,h4,h5,_⟩:=h.mp id es e2
    refine fh.map (fs:=ents.toList.map fun(e:MapEntry)=>(e.key,e.val)) (by simp only[full,h3]) (by simpa using h4.trans k1.symm) (fun i e f he hf=>?_) (fun i e f he hf=>?_)
    all_goals
     simp only[bp,ak]at hf;obtain⟨x,hx,rfl⟩:=hf;have hd:=k2 i e he;simp only[bp,ak]at hd;obtain⟨e',hi,y,hy,rfl⟩:=hd
     have:=h5 i e' x hi (by simpa using hx)
    ·exact this.1.mono h.gok.Ry
    ·exact ih hy this.2
   ·cases hs
  |ptr _ _ _=>simp[deep]at hs
theorem i6.Od(h:i6 B0 w0 nt G0 s G E a w){c:C}{d:D}{v:Value}(hs:mc s c=some d)(hv:ub G E s c v):fh (full w) d v:=by
 cases c with
 |d y=>simp only[mc,ah]at hs;subst hs;exact fh.mono h.gok.Ry hv
 |ref id ver len=>
  simp only[mc]at hs;split at hs
  ·rename_i sz els he
   split at hs
   ·rename_i hl
    injection hs with hs
    subst hs hl;obtain⟨e1,e2⟩:=v7 he;obtain⟨_,k2⟩:=hv.2 e1 sz els.length (tp e2);obtain⟨cap,c1,c2,rfl⟩:=k2 rfl;obtain⟨cells,et,h3,h4,hh,hw⟩:=h.va e2;obtain⟨h5,h6,h7⟩:=hh
    refine fh.dt c2 h6 (fun i j hi hj=>?_) (fun i e j x v he hx hv=>?_)
    ·show(w.cell? _).isSome
     have:=Wx hi hj
     rw[eh,hw,av (by omega)]
     rfl
    ·have hv':w.cell? ⟨E.b id,0+i*sz+j,none⟩=some v:=hv
     rw[eh,hw]at hv';exact(h7 i e j x v he hx hv').mono h.gok.Ry
   ·cases hs
  ·exact h.acd 6 hs hv
 |ku id ver=>exact h.acd 6 hs hv
 |ptr id ver off=>cases hs
theorem Ta:∀{cs:List C} {ds:List D},iz s cs=some ds→ds.length=cs.length∧∀(i:Nat) (c:C) (d:D),cs[i]? =some c→ds[i]? =some d→mc s c=some d:=by
 intro cs
 induction cs with
 |nil=>intro ds h;simp only[iz,ah]at h;subst h;exact⟨rfl,by simp⟩
 |cons c r ih=>
  intro ds h;simp only[iz]at h;split at h
  ·rename_i x l h1 h2
   injection h with h
   subst h;obtain⟨k1,k2⟩:=ih h2
   refine⟨by simp[k1],fun i c' d hc hd=>?_⟩
   cases i with
   |zero=>simp at hc hd;subst hc hd;exact h1
   |succ i=>simp at hc hd;exact k2 i c' d hc hd
  ·cases h
theorem i6.Zt(h:i6 B0 w0 nt G0 s G E a w){id ver:Nat}{cs:List C}{ds:List D}(hc:s.cs id ver=some cs)(hd:iz s cs=some ds)(off:Nat):
  fh (full w) (.tz ds off) (.pointer (some ⟨E.b id,off,none⟩)):=by
 obtain⟨_,hb⟩:=s9 hc;obtain⟨cells,et,_,_,hh,hw⟩:=h.va hb;obtain⟨e1,e2⟩:=Ta hd;have hl:=hh.1
 have k:=fh.tz (G:=full w) (cells:=ds) (b:=E.b id) (o:=0) (off:=off) (fun j hj=>by
  show(w.cell? _).isSome
  rw[eh,hw,av (by omega)]
  rfl) (fun j x v hx hv=>by
  have hv':cells[j]? =some v:=by
   have:w.cell? ⟨E.b id,0+j,none⟩=some v:=hv
   rwa[eh,hw]at this
  have hj:j<cs.length:=by have:=(aq.1 hx).1;omega
  have:=hh.2 j cs[j] v (ao hj) hv'
  exact h.Od (e2 j _ x (ao hj) hx) this)
 rwa[eh]at k
theorem akr{α:Type}:∀{n sz:Nat} {ds:List α},n*sz≤ds.length→(chunks sz n ds).length=n∧∀(i:Nat) (e:List α),(chunks sz n ds)[i]? =some e→e.length=sz∧∀(j:Nat) (x:α),e[j]? =some x→ds[i*sz+j]? =some x:=by
 intro n
 induction n with
 |zero=>intro sz ds _;exact⟨rfl,by simp[chunks]⟩
 |succ n ih=>
  intro sz ds hl;rw[iw]at hl
  obtain⟨k1,k2⟩:=ih (sz:=sz) (ds:=ds.drop sz) (by simp;omega)
  refine⟨by simp[chunks,k1],fun i e hi=>?_⟩
  cases i with
  |zero=>
   simp only[chunks,ff,ah]at hi;subst hi
   refine⟨by simp;omega,fun j x hx=>?_⟩
   rw[j0]at hx;split at hx
   ·simpa using hx
   ·cases hx
  |succ i=>
   simp only[chunks,jx]at hi;obtain⟨q1,q2⟩:=k2 i e hi
   refine⟨q1,fun j x hx=>?_⟩
   have:=q2 j x hx;rw[lv]at this;rw[←this,iw]
   congr 1
   omega
theorem i6.a05(h:i6 B0 w0 nt G0 s G E a w){x:V}{d:D}{v:Value}(hs:snap s x=some d)(hv:fm G E s x v):fh (full w) d v:=by
 cases x with
 |d y=>simp only[snap,ah]at hs;subst hs;exact fh.mono h.gok.Ry hv
 |ref id ver len=>exact h.Od (c:= .ref id ver len) hs hv
 |ku id ver=>exact h.Od (c:= .ku id ver) hs hv
 |dv id ver off=>
  simp only[snap]at hs;split at hs
  ·rename_i cs hc
   simp only[ak]at hs;obtain⟨ds,hd,rfl⟩:=hs;obtain⟨e1,e2⟩:=s9 hc;have:=hv.2 e1 ⟨_,e2,rfl⟩;subst this;exact h.Zt hc hd off
  ·cases hs
 |Fl id ver ln i off=>cases hs
 |mb f ids=>
  have key:∀p∈ids,∀cs,s.cs p.1 p.2=some cs→s.ver p.1=p.2∧∃b,s.bm p.1=some b∧b.isVar=true:=fun p _ cs hc=>⟨(s9 hc).1,_,(s9 hc).2,rfl⟩
  match ids,hs,hv,key with
  |[(id,ver)],hs,hv,key=>
   simp only[snap]at hs;split at hs
   ·rename_i cs hc
    simp only[ak]at hs;obtain⟨ds,hd,rfl⟩:=hs
    have:=hv.2 (by intro p hp;simp only[Ua]at hp;subst hp;exact key _ (by simp) cs hc)
    subst this
    refine fh.mb (by simp) fun i x v hx hv=>?_
    match i,hx,hv with
    |0,hx,hv=>
     simp at hx hv;subst hx hv;exact h.Zt hc hd 0
    |i+1,hx,hv=>simp at hx
   ·cases hs
  |[(id,ver),(id',a38)],hs,hv,key=>
   simp only[snap]at hs;split at hs
   ·rename_i cs cs' hc hc'
    split at hs
    ·rename_i ds ds' hd hd'
     injection hs with hs
     subst hs
     have:=hv.2 (by
      intro p hp;simp only[dn,jg,or_false]at hp;rcases hp with rfl|rfl
      ·exact key _ (by simp) cs hc
      ·exact key _ (by simp) cs' hc')
     subst this
     refine fh.mb (by simp) fun i x v hx hv=>?_
     match i,hx,hv with
     |0,hx,hv=>
      simp at hx hv;subst hx hv;exact h.Zt hc hd 0
     |1,hx,hv=>
      simp at hx hv;subst hx hv;exact h.Zt hc' hd' 0
     |i+2,hx,hv=>simp at hx
    ·cases hs
   ·cases hs
 |agg cs=>
  simp only[snap,ak]at hs;obtain⟨ds,hd,rfl⟩:=hs;obtain⟨vs,rfl,e2,e3⟩:=Cv.1 hv;obtain⟨k1,k2⟩:=Ta hd
  refine fh.agg (by omega) fun i x u hx hu=>?_
  have hi:i<cs.length:=by have:=(aq.1 hx).1;omega
  exact h.Od (k2 i _ x (ao hi) hx) (e3 i _ u (ao hi) hu)
 |yi cs=>cases hs
 |Ig id ver ln n=>
  simp only[snap]at hs;split at hs
  ·rename_i cs hc
   split at hs
   ·rename_i ds hd
    split at hs
    ·rename_i hl
     injection hs with hs
     subst hs;obtain⟨e1,e2⟩:=s9 hc;have:=hv.2 e1 ⟨_,e2,rfl⟩;subst this;obtain⟨cells,et,_,_,hh,hw⟩:=h.va e2;obtain⟨q1,q2⟩:=Ta hd;have hcl:=hh.1
     have k:=akr (ds:=ds) (sz:=n) (n:=ln) (by omega)
     have:=fh.dt (G:=full w) (sz:=n) (l:=chunks n ln ds) (b:=E.b id) (o:=0) (c:=ln) (by rw[k.1];exact ar _) (fun i e hi=>(k.2 i e hi).1) (fun i j hi hj=>by
      show(w.cell? _).isSome;rw[k.1]at hi;have:=Wx hi hj
      rw[eh,hw,av (by omega)]
      rfl) (fun i e j x v hi hx hv=>by
      have hv':w.cell? ⟨E.b id,0+i*n+j,none⟩=some v:=hv;rw[eh,hw]at hv';have hx':=(k.2 i e hi).2 j x hx
      have iy:i*n+j<cs.length:=by have:=(aq.1 hx').1;omega
      exact h.Od (q2 _ _ x (ao iy) hx') (hh.2 _ _ v (ao iy) hv'))
     rwa[k.1]at this
    ·cases hs
   ·cases hs
  ·cases hs
 |Fo id ver m j=>cases hs
 |win _ _ _ _ _=>cases hs
 |no=>cases hs
theorem a4s:∀{args:List V} {ds:List D},Gt s args=some ds→ds.length=args.length∧∀(i:Nat) (x:V) (d:D),args[i]? =some x→ds[i]? =some d→snap s x=some d:=by
 intro args
 induction args with
 |nil=>intro ds h;simp only[Gt,ah]at h;subst h;simp
 |cons x r ih=>
  intro ds h;simp only[Gt]at h;split at h
  ·rename_i d l h1 h2
   injection h with h
   subst h;obtain⟨k1,k2⟩:=ih h2
   refine⟨by simp[k1],fun i x' d' hx hd=>?_⟩
   cases i with
   |zero=>simp at hx hd;subst hx hd;exact h1
   |succ i=>simp at hx hd;exact k2 i x' d' hx hd
  ·cases h
def join(G G':fc)(n:Nat):fc where
 cv b o:=if b<n then G.cv b o else G'.cv b o
 mv b:=if b<n then G.mv b else G'.mv b
theorem i6.U8(h:i6 B0 w0 nt G0 s G E a w)(hb:Bel w.heap.size w w'){G':fc}(hle:G.le G')(hok:GOk G' w')(Ey:∀b o,b<w.heap.size→G'.cv b o=G.cv b o)(hsm:∀b,b<w.heap.size→G'.mv b=G.mv b):
  i6 B0 w0 nt G0 s G' E a w':=by
 have hB:B0≤w.heap.size:=by rw[h.base];exact h.below.size
 have hm:Fs E E s s:=⟨fun _=>ar _,fun _ _ n' _ h=>⟨n',h,ar _,fun _=>⟨rfl,rfl⟩⟩,fun _ b _ h hv=>⟨⟨b,h,hv⟩,rfl⟩,fun _ _ h=>⟨h,rfl⟩⟩
 refine⟨h.size,h.defers,h.base,h.below.trans (hb.mono hB),hok,fc.le_trans h.gle hle,⟨fun b o ow=>?_,fun b ow=>?_⟩,fun t=>fm.move hle hm (h.tmp t),fun i b hi=>?_,h.inj,fun i es hi=>?_,h.Oi,fun p=>fm.move hle hm (h.ctx p)⟩
 ·rw[Ey b o (by omega)];exact h.Gk.1 b o ow
 ·rw[hsm b (by omega)];exact h.Gk.2 b ow
 ·have k:=h.bm i b hi
  exact k.move hle hm (hb.block _ k.lt) (fun o=>by rw[Ey _ _ k.lt];exact k.2.1 o) rfl rfl
 ·obtain⟨h1,h2,ents,clock,h3,h4,h5,h6⟩:=h.mp i es hi
  have iy:=(j4.1 h3).1
  exact⟨h1,by rw[hsm _ iy];exact h2,ents,clock,(hb.block _ iy).trans h3,h4,fun i e x hx hy=>⟨(h5 i e x hx hy).1.mono hle,fm.Bv hle hm (h5 i e x hx hy).2⟩,h6⟩
theorem i6.call{P:Program}{f:Nat}(h:i6 B0 w0 nt G0 s G E a w){args:List V}{vs:Array Value}(C3:vs.size=args.length)
  (hv:∀(i:Nat) (x:V) (v:Value),args[i]? =some x→vs[i]? =some v→fm G E s x v){ds:List D}{r:D}(hs:Gt s args=some ds)(hf:fp P f ds r)
  (hr:r.flat=true∨args.all V.isD=true):
  Calls P f vs w fun e w'=>∃v G',e= .returned v∧i6 B0 w0 nt G0 s G' E a w'∧fm G' E s (.d r) v:=by
 obtain⟨hl,hk⟩:=a4s hs;by_cases zx:args.all V.isD=true
 ·have hd:∀(i:Nat) (x:D) (v:Value),ds[i]? =some x→vs[i]? =some v→fh G x v:=by
   intro i x v hx hvv
   have hi:i<args.length:=by have:=(aq.1 hx).1;omega
   have hx':args[i]? =some args[i]:=ao hi;have h1:=hk i _ x hx' hx;have h2:=hv i _ v hx' hvv;have h3:=ck.1 zx args[i] (bz hi)
   generalize args[i]=y at*
   cases y with
   |d z=>simp only[snap,ah]at h1;subst h1;exact h2
   |_=>cases h3
  refine(hf.2 G w vs h.gok (by omega) hd).mono ?_
  rintro e w' ⟨v,G',he,hle,Ey,hok,X2,Di⟩;exact⟨v,G',he,h.U8 X2 hle hok Ey.1 Ey.2,Di⟩
 ·have abc:r.flat=true:=hr.resolve_right zx
  have hd:∀(i:Nat) (x:D) (v:Value),ds[i]? =some x→vs[i]? =some v→fh (full w) x v:=by
   intro i x v hx hvv
   have hi:i<args.length:=by have:=(aq.1 hx).1;omega
   have hx':args[i]? =some args[i]:=ao hi;exact h.a05 (hk i _ x hx' hx) (hv i _ v hx' hvv)
  refine(hf.2 (full w) w vs (GOk.ah9 w) (by omega) hd).mono ?_
  rintro e w' ⟨v,G',he,hle,Ey,hok,X2,Di⟩
  refine⟨v,join G G' w.heap.size,he,h.U8 X2 ⟨fun b o v hc=>?_,fun b es hc=>?_⟩ ⟨fun b o v hc=>?_,fun b es hc=>?_⟩ (fun b o hb=>?_) (fun b hb=>?_),fh.flat abc Di⟩
  ·show(if b<w.heap.size then G.cv b o else G'.cv b o)=_
   rw[if_pos (h.gok.lt hc)];exact hc
  ·show(if b<w.heap.size then G.mv b else G'.mv b)=_
   rw[if_pos (h.gok.ltm hc)];exact hc
  ·change(if b<w.heap.size then G.cv b o else G'.cv b o)=_ at hc
   split at hc
   ·rename_i hb;exact(X2.cell (p:=⟨b,o,none⟩) hb).trans (h.gok.cv b o v hc)
   ·exact hok.cv b o v hc
  ·change(if b<w.heap.size then G.mv b else G'.mv b)=_ at hc
   split at hc
   ·rename_i hb
    obtain⟨ents,clock,h1,h2⟩:=h.gok.mv b es hc;exact⟨ents,clock,(X2.block b hb).trans h1,h2⟩
   ·exact hok.mv b es hc
  ·show(if b<w.heap.size then G.cv b o else G'.cv b o)=_
   rw[if_pos hb]
  ·show(if b<w.heap.size then G.mv b else G'.mv b)=_
   rw[if_pos hb]
theorem i6.Yu(h:i6 B0 w0 nt G0 s G E a w)(id:Nat):
  i6 B0 w0 nt G0 {s with mp:=jf s.mp id (some []),ver:=jf s.ver id (s.ver id+1)} G {E with m:=jf E.m id w.heap.size} a (w.alloc (.map #[] 0)):=by
 have hm:Fs E {E with m:=jf E.m id w.heap.size} s {s with mp:=jf s.mp id (some []),ver:=jf s.ver id (s.ver id+1)}:=by
  have kg:∀i,jf s.ver id (s.ver id+1) i=s.ver i→i≠id:=by
   intro i hi e;subst e;rw[bh]at hi;omega
  refine⟨fun i=>?_,fun i sz n' hv ow=>⟨n',ow,ar _,fun _=>⟨rfl,rfl⟩⟩,fun i b1 hv ow hva=>⟨⟨b1,ow,hva⟩,rfl⟩,fun i hv hp=>?_⟩
  ·show _≤jf s.ver id (s.ver id+1) i
   by_cases e:i=id
   ·subst e;rw[bh];omega
   ·rw[er _ _ _ _ e];exact ar _
  ·have e:=kg i hv
   simp only[er _ _ _ _ e]at hp;exact⟨hp,er _ _ _ _ e⟩
 have hB0:B0≤w.heap.size:=by rw[h.base];exact h.below.size
 refine⟨h.size,h.defers,h.base,h.below.alloc hB0 _,h.gok.alloc _,h.gle,h.Gk,fun t=>fm.move (fc.le_refl _) hm (h.tmp t),fun i b' ow=>?_,h.inj,fun i es hi=>?_,fun i j bi bj hi hj hij=>?_,fun p=>fm.move (fc.le_refl _) hm (h.ctx p)⟩
 ·have k:=h.bm i b' ow
  exact k.move (fc.le_refl _) hm (yw _ _ _ k.lt) k.2.1 rfl rfl
 ·by_cases e:i=id
  ·subst e
   simp only[bh,ah]at hi⊢;subst hi
   exact⟨hB0,h.gok.aw9 (ar _),#[],0,Jc _ _,rfl,by simp,by simp[Xp]⟩
  ·simp only[er _ _ _ _ e]at hi⊢
   obtain⟨h1,h2,ents,clock,h3,h4,h5,h6⟩:=h.mp i es hi
   exact⟨h1,h2,ents,clock,(yw _ _ _ (j4.1 h3).1).trans h3,h4,fun i e x hx hy=>⟨(h5 i e x hx hy).1,fm.Bv (fc.le_refl _) hm (h5 i e x hx hy).2⟩,h6⟩
 ·have lt:∀i b,s.mp i=some b→E.m i≠w.heap.size:=fun i b hi=>by
   obtain⟨_,_,ents,clock,h3,_⟩:=h.mp i b hi;have:=(j4.1 h3).1;omega
  by_cases ei:i=id
  ·subst ei
   have ej:j≠i:=fun e=>hij e.symm
   simp only[er _ _ _ _ ej]at hj;simp only[bh,er _ _ _ _ ej]
   exact fun e=>lt j bj hj e.symm
  ·simp only[er _ _ _ _ ei]at hi⊢
   by_cases ej:j=id
   ·subst ej
    simp only[bh];exact lt i bi hi
   ·simp only[er _ _ _ _ ej]at hj⊢
    exact h.Oi i j bi bj hi hj hij
theorem i6.W9(h:i6 B0 w0 nt G0 s G E a w){id:Nat}{es0 es:List (D×C)}(he:s.mp id=some es0){ents:Array MapEntry}{clock:Nat}(ht:y9 w w' (E.m id) (.map ents clock))
  (hl:ents.size=es.length)(hr:∀(i:Nat) (e:D×C) (x:MapEntry),es[i]? =some e→ents[i]? =some x→fh G e.1 x.key∧ub G E s e.2 x.val)(hbo:Xp ents clock):
  i6 B0 w0 nt G0 {s with mp:=jf s.mp id (some es)} G E a w':=by
 have hm:Fs E E s {s with mp:=jf s.mp id (some es)}:=by
  refine⟨fun _=>ar _,fun _ _ n' _ h=>⟨n',h,ar _,fun _=>⟨rfl,rfl⟩⟩,fun _ b _ h hv=>⟨⟨b,h,hv⟩,rfl⟩,fun i _ hp=>⟨?_,rfl⟩⟩
  by_cases e:i=id
  ·subst e;rw[he];rfl
  ·simp only[er _ _ _ _ e]at hp;exact hp
 obtain⟨m1,m2,azy,ax1,m3,m4,m5⟩:=h.mp id es0 he
 have hcv:∀o,G.cv (E.m id) o=none:=by
  intro o
  cases hc:G.cv (E.m id) o with
  |none=>rfl
  |some v=>
   have:=h.gok.cv _ _ _ hc;simp[aG5,m3]at this
 refine⟨h.size,h.defers,h.base,h.below.trans (ht.below m1),h.gok.ale ht hcv m2,h.gle,h.Gk,fun t=>fm.move (fc.le_refl _) hm (h.tmp t),fun i b hb=>?_,h.inj,fun i es' hi=>?_,fun i j bi bj hi hj hij=>?_,fun p=>fm.move (fc.le_refl _) hm (h.ctx p)⟩
 ·have k:=h.bm i b hb
  refine k.move (fc.le_refl _) hm (ht.other _ fun e=>?_) k.2.1 rfl rfl
  obtain⟨_,_,cells,et,h3,_⟩:=k;rw[e,m3]at h3;cases h3
 ·by_cases e:i=id
  ·subst e
   simp only[bh,ah]at hi;subst hi
   exact⟨m1,m2,ents,clock,ht.at_,hl,fun i e x hx hy=>⟨(hr i e x hx hy).1,fm.Bv (fc.le_refl _) hm (hr i e x hx hy).2⟩,hbo⟩
  ·simp only[er _ _ _ _ e]at hi
   obtain⟨h1,h2,azx,ax0,h3,h4,h5,h6⟩:=h.mp i es' hi
   exact⟨h1,h2,azx,ax0,(ht.other _ (h.Oi i id es' es0 hi he e)).trans h3,h4,fun i e x hx hy=>⟨(h5 i e x hx hy).1,fm.Bv (fc.le_refl _) hm (h5 i e x hx hy).2⟩,h6⟩
 ·have un:∀i bi,jf s.mp id (some es) i=some bi→∃b2,s.mp i=some b2:=by
   intro i bi hi;by_cases e:i=id
   ·subst e;exact⟨es0,he⟩
   ·rw[er _ _ _ _ e]at hi;exact⟨bi,hi⟩
  obtain⟨b2,h2⟩:=un i bi hi;obtain⟨b3,h3⟩:=un j bj hj;exact h.Oi i j b2 b3 h2 h3 hij
end
theorem Cl(b o n:Nat):(⟨b,o,none⟩:Addr).add n=⟨b,o+n,none⟩:=by
 unfold Addr.add;split<;>simp_all
theorem W4{P:Program}{t:TypeId}{g:Bool}(hn:yp P t=some g)(w:World):(isAgg t).run P w= .ok g w:=by
 unfold yp at hn;unfold isAgg underlying
 cases hd:P.underlying t with
 |none=>rw[hd]at hn;cases hn
 |some d=>
  rw[hd]at hn;simp only[ba,run_program,aw,hd];cases d<;>simp at hn<;>subst hn<;>simp
theorem pt{P:Program}{t:TypeId}{n:Nat}(hn:ji P t=some n)(w:World):(sizeOf t).run P w= .ok n w:=by
 unfold ji at hn;simp only[ak]at hn;obtain⟨i,hi,rfl⟩:=hn;simp[sizeOf,typeInfo,hi]
theorem fh.aal{G:fc}{x:D}{v:Value}(h:fh G x v)(hx:x.one=true):v.oneCell'=true:=by
 cases h<;>first|rfl|cases hx
section
variable{P:Program}{B0 nt:Nat}{w0 w w':World}{G0 G G':fc}{s s':PS}{E E':Env}{a:Act}
theorem Pj{t:TypeId}{n b o:Nat}{g:Bool}{cs:List C}(hs:ji P t=some n)(hg:yp P t=some g)(h1:g=true∨n=1)(hn:cs.length=n)
  (hc:∀j,j<n→∃u,w.cell? ⟨b,o+j,none⟩=some u∧∀c,cs[j]? =some c→ub G E s c u):
  ∃u,(loadVar t ⟨b,o,none⟩).run P w= .ok u w∧fm G E s (mkv g cs) u:=by
 unfold loadVar;simp only[ba,W4 hg,aw]
 cases g with
 |true=>
  have hf:∀j,j<n→w.cell? ((⟨b,o,none⟩:Addr).add j)=some ((w.cell? ⟨b,o+j,none⟩).getD undef):=by
   intro j hj;obtain⟨u,hu,_⟩:=hc j hj;rw[Cl,hu];rfl
  simp only[if_true,ba,pt hs,aw,run_loadCells w _ n (fun j=>(w.cell? ⟨b,o+j,none⟩).getD undef) hf,dc]
  refine⟨_,rfl,?_⟩
  have rel:∀(i:Nat) (c:C) (u:Value),cs[i]? =some c→((cq n).map fun j=>(w.cell? ⟨b,o+j,none⟩).getD undef).toArray[i]? =some u→ub G E s c u:=by
   intro i c u hi hu
   have hil:i<n:=by have:=(aq.1 hi).1;omega
   obtain⟨u',hu',hr⟩:=hc i hil;simp only[xq,bp,Jx hil,gz,ah]at hu;rw[hu']at hu;simp only[j3]at hu;subst hu;exact hr c hi
  unfold mkv
  cases hd:J4 cs with
  |some ds=>
   have e:=P4 hd;subst e
   refine fh.agg (by simp at hn⊢;omega) fun i x v hx hv=>?_
   exact rel i (.d x) v (by simp[hx]) hv
  |none=>exact Cv.2 ⟨_,rfl,by simp;omega,rel⟩
 |false=>
  have hn1:n=1:=by simpa using h1
  subst hn1
  obtain⟨u,hu,hr⟩:=hc 0 (by omega)
  rw[xu]at hu
  refine⟨u,by simp[hu],?_⟩
  match cs,hn with
  |[c],_=>
   unfold mkv;simp only[J4];exact hr c rfl
theorem Zq{g:Bool}{ds:List D}:mkd g ds=mkv g (ds.map .d):=by
 unfold mkd mkv;rw[Vx];cases g
 ·match ds with
  |[]=>rfl
  |[x]=>rfl
  |_::_::_=>rfl
 ·rfl
theorem xg(x:Addr)(w:World):(axu (.pointer (some x))).run P w= .ok x w:=rfl
theorem Tl(h:i6 B0 w0 nt G0 s G E a w){t:TypeId}{n:Nat}{g:Bool}{x y:V}{v:Value}(hs:ji P t=some n)(hg:yp P t=some g)(h1:g=true∨n=1)
  (hl:A8 s n g x=some y)(hv:fm G E s x v):∃u,(aG1 t v).run P w= .ok u w∧fm G E s y u:=by
 unfold aG1
 cases x with
 |dv id ver off=>
  simp only[A8]at hl;split at hl
  ·rename_i cs Gc
   split at hl
   ·rename_i hle
    injection hl with hl
    subst hl;obtain⟨e1,e2⟩:=s9 Gc;have:=hv.2 e1 ⟨_,e2,rfl⟩;subst this;obtain⟨cells,et,_,_,hh,hw⟩:=h.va e2;simp only[ba,xg,aw]
    refine Pj hs hg h1 (by simp;omega) fun j hj=>?_
    have iy:off+j<cells.size:=by have:=hh.1;omega
    refine⟨cells[off+j],by rw[hw,av iy],fun c hc=>?_⟩
    refine hh.2 (off+j) c _ ?_ (av iy);rw[j0,if_pos hj,lv]at hc;exact hc
   ·cases hl
  ·cases hl
 |Fl id ver ln i off=>
  simp only[A8]at hl;split at hl
  ·rename_i sz els he
   split at hl
   ·rename_i e hei
    split at hl
    ·rename_i hle
     injection hl with hl
     subst hl;obtain⟨e1,e2⟩:=v7 he;obtain⟨_,k2⟩:=hv.2 e1 sz els.length (tp e2);have:=k2 hle.1;subst this;obtain⟨cells,et,_,_,hh,hw⟩:=h.va e2;obtain⟨h5,h6,h7⟩:=hh;simp only[ba,xg,aw];have hel:=h6 i e hei;have hil:i<els.length:=(aq.1 hei).1;have hb:(i+1)*sz≤els.length*sz:=ep _ hil;rw[iw,zn]at hb;have az7:=hle.2;rw[Zq]
     refine Pj hs hg h1 (by simp;omega) fun j hj=>?_
     have iy:i*sz+off+j<cells.size:=by omega
     refine⟨cells[i*sz+off+j],by rw[hw,av iy],fun c hc=>?_⟩
     rw[bp,j0,if_pos hj,lv]at hc
     cases hx:e[off+j]? with
     |none=>rw[hx]at hc;cases hc
     |some x=>
      rw[hx]at hc;simp only[gz,ah]at hc;subst hc
      exact h7 i e (off+j) x _ hei hx (by rw[←p8];exact av iy)
    ·cases hl
   ·cases hl
  ·split at hl
   ·rename_i sz els he
    split at hl
    ·rename_i e hei
     split at hl
     ·rename_i hle
      injection hl with hl
      subst hl;obtain⟨e1,b,e2,e3,e4⟩:=Fm he;obtain⟨_,k2⟩:=hv.2 e1 sz els.length ((tp e2).trans e3);have:=k2 hle.1;subst this;obtain⟨cells,et,_,_,hh,hw⟩:=h.va e2;obtain⟨h5,h6,h7⟩:=hh.elc e4;simp only[ba,xg,aw];have hel:=h6 i e hei;have hil:i<els.length:=(aq.1 hei).1;have hb:(i+1)*sz≤els.length*sz:=ep _ hil;rw[iw,zn]at hb;have az7:=hle.2
      refine Pj hs hg h1 (by simp;omega) fun j hj=>?_
      have iy:i*sz+off+j<cells.size:=by omega
      refine⟨cells[i*sz+off+j],by rw[hw,av iy],fun c hc=>?_⟩
      rw[j0,if_pos hj,lv]at hc
      exact h7 i e (off+j) c _ hei hc (by rw[←p8];exact av iy)
     ·cases hl
    ·cases hl
   ·cases hl
 |d z=>
  cases z with
  |tz cells off=>
   simp only[A8]at hl;split at hl
   ·rename_i hle
    injection hl with hl
    subst hl
    cases hv with
    | @tz _ b o _ k1 k2=>
     simp only[ba,xg,aw];rw[Zq]
     refine Pj hs hg h1 (by simp;omega) fun j hj=>?_
     obtain⟨u,hu⟩:=jl.1 (k1 (off+j) (by omega))
     rw[←p8]at hu
     refine⟨u,h.gok.cv _ _ _ hu,fun c hc=>?_⟩
     rw[bp,j0,if_pos hj,lv]at hc
     cases hx:cells[off+j]? with
     |none=>rw[hx]at hc;cases hc
     |some x=>
      rw[hx]at hc;simp only[gz,ah]at hc;subst hc
      exact k2 (off+j) x u hx (by rw[←p8];exact hu)
   ·cases hl
  |_=>cases hl
 |_=>cases hl
theorem P1{x:V}{cs:List C}{v:Value}(hx:x.cells s=some cs)(hv:fm G E s x v):
  v.cells.size=cs.length∧∀(j:Nat) (c:C) (u:Value),cs[j]? =some c→v.cells[j]? =some u→ub G E s c u:=by
 have one:∀(c:C) (v:Value),v.cells= #[v]→ub G E s c v→v.cells.size=[c].length∧∀(j:Nat) (c':C) (u:Value),[c][j]? =some c'→v.cells[j]? =some u→ub G E s c' u:=by
  intro c v hc hr;rw[hc]
  refine⟨rfl,fun j c' u h1 h2=>?_⟩
  match j,h1,h2 with
  |0,h1,h2=>simp at h1 h2;subst h1 h2;exact hr
  |j+1,h1,h2=>simp at h1
 cases x with
 |d z=>
  cases z with
  |agg ds=>
   simp only[V.cells,ah]at hx;subst hx
   cases hv with
   |agg hl hh=>
    refine⟨by simpa[Value.cells]using hl,fun j c u hc hu=>?_⟩
    simp only[bp,ak]at hc;obtain⟨x,hx,rfl⟩:=hc;exact hh j x u hx hu
  |yi _=>cases hx
  |any=>cases hx
  |_=>simp only[V.cells,ah]at hx;subst hx;refine one _ _ ?_ hv;cases hv<;>rfl
 |ref id ver len=>
  simp only[V.cells]at hx;split at hx
  ·rename_i sz n he
   split at hx
   ·rename_i hl
    injection hx with hx
    subst hx;obtain⟨e1,e2⟩:=Ef he;obtain⟨_,k2⟩:=hv.2 e1 sz n e2;obtain⟨cap,_,_,e⟩:=k2 hl
    exact one _ _ (by rw[e];rfl) hv
   ·cases hx
  ·cases hx
 |ku id ver=>
  simp only[V.cells]at hx;split at hx
  ·rename_i es he
   injection hx with hx
   subst hx;obtain⟨e1,e2⟩:=D7 he
   have e:=hv.2 e1 (by rw[e2];rfl)
   exact one _ _ (by rw[e];rfl) hv
  ·cases hx
 |dv id ver off=>
  simp only[V.cells]at hx;split at hx
  ·rename_i cs' he
   injection hx with hx
   subst hx;obtain⟨e1,e2⟩:=s9 he;have e:=hv.2 e1 ⟨_,e2,rfl⟩
   exact one (.ptr id ver off) _ (by rw[e];rfl) hv
  ·cases hx
 |agg cs'=>
  simp only[V.cells,ah]at hx;subst hx;obtain⟨vs,rfl,hl,hh⟩:=Cv.1 hv
  exact⟨hl,fun j c u hc hu=>hh j c u hc hu⟩
 |_=>cases hx
theorem Bu{α:Type}(l:List α)(off:Nat)(xs:List α)(h:off+xs.length≤l.length)(j:Nat):
  (patch l off xs)[j]? =if off≤j∧j<off+xs.length then xs[j-off]? else l[j]? :=by
 unfold patch;rw[we,Ku]
 simp only[dd,ag5 (show off≤l.length by omega)]
 by_cases h1:j<off
 ·rw[if_pos h1,if_neg (by omega),j0,if_pos h1]
 ·rw[if_neg h1,Ku]
  by_cases h2:j-off<xs.length
  ·rw[if_pos h2,if_pos (by omega)]
  ·rw[if_neg h2,if_neg (by omega),lv]
   congr 1
   omega
theorem om{α:Type}(l:List α)(off:Nat)(xs:List α)(h:off+xs.length≤l.length):(patch l off xs).length=l.length:=by
 unfold patch;simp;omega
theorem Kw{t:TypeId}{n b o:Nat}{et:TypeId}{v:Value}{cells:Array Value}(hs:ji P t=some n)(hn:v.cells.size=n)(hw:w.heap[b]? =some (.cells cells et (0,0)))
  (hle:o+n≤cells.size)(h1:∀u∈v.cells.toList,u.oneCell'=true):
  (storeVar t ⟨b,o,none⟩ v).run P w= .ok () (w.setRow b (patch cells.toList o v.cells.toList).toArray):=by
 unfold storeVar;simp only[ba,pt hs,aw]
 rw[if_neg (by simpa using hn)]
 have:=run_storeCells_at (P:=P) b o et v.cells.toList 0 cells w hw (by simp;omega) h1
 simpa[patch]using this
theorem y9.setRow{b:Nat}{et:TypeId}{cells:Array Value}(hw:w.heap[b]? =some (.cells cells et (0,0)))(cs:Array Value):y9 w (w.setRow b cs) b (.cells cs et (0,0)):=
 ⟨rfl,rfl,rfl,rfl,by simp,fun k hk=>setRow_other w b k cs hk,setRow_heap w b cells cs et (0,0) hw⟩
theorem Uj(h:i6 B0 w0 nt G0 s G E a w){t:TypeId}{n id ver ln i off:Nat}{ad:Value}{xs:List C}{v:Value}{e:a2t}(hs:ji P t=some n)
  (tc:Cu s n xs id ver ln i off=some e)(hx:fm G E s (.Fl id ver ln i off) ad)(C3:v.cells.size=xs.length)
  (hv:∀(j:Nat) (c:C) (u:Value),xs[j]? =some c→v.cells[j]? =some u→ub G E s c u)(Ac:xs.all (C.one s)=true→∀u∈v.cells.toList,u.oneCell'=true):
  ∃w' id b,((axu ad).bind fun a=>storeVar t a v).run P w= .ok () w'∧e=([],.set id b)∧i6 B0 w0 nt G0 {s with bm:=jf s.bm id (some b)} G E a w':=by
 unfold Cu at tc;split at tc
 ·rename_i sz els he
  split at tc
  ·rename_i e hei
   split at tc
   ·rename_i hle
    injection tc with tc
    subst tc;obtain⟨e1,b,e2,e3,e4⟩:=Fm he;obtain⟨_,k2⟩:=hx.2 e1 sz els.length ((tp e2).trans e3);have:=k2 hle.2.1;subst this;obtain⟨cells,et,Ii,hn,hh,hw⟩:=h.va e2;obtain⟨h5,h6,h7⟩:=hh.elc e4
    have Hq:∀(A:Addr) (f:Addr→Sem Unit),((axu (.pointer (some A))).bind f).run P w=(f A).run P w:=fun _ _=>rfl
    rw[Hq];have hel:=h6 i e hei;have hil:i<els.length:=(aq.1 hei).1;have hb:(i+1)*sz≤els.length*sz:=ep _ hil;rw[iw,zn]at hb;have h3:=hle.2.2.1;have h4:=hle.2.2.2
    rw[Kw hs (by omega) Ii (by omega) (Ac hle.1)]
    have hpl:off+xs.length≤e.length:=by omega
    have hpv:i*sz+off+v.cells.toList.length≤cells.toList.length:=by simp;omega
    have hal:Alike b (.ny sz (els.set i (patch e off xs))):=by
     refine⟨by rcases e4 with ⟨_,rfl,_⟩|rfl<;>rfl,fun sz' n' h'=>?_⟩
     simp only[B.Bg,Fx,ah,ay]at h';obtain⟨rfl,rfl⟩:=h';exact⟨_,e3,ar _⟩
    refine⟨_,id,_,rfl,rfl,h.set e2 hal (y9.setRow Ii _) (by simp[om _ _ _ hpv,hn]) ⟨by simp[om _ _ _ hpv];exact h5,fun i' e' Dx=>?_,fun i' e' j x u Dx hj hu=>?_⟩⟩
    ·rw[pv]at Dx
     split at Dx
     ·injection Dx with Dx;subst Dx;rw[om _ _ _ hpl];exact hel
     ·exact h6 i' e' Dx
    ·rw[xq,Bu _ _ _ hpv]at hu
     simp only[rh,C3]at hu;rw[pv]at Dx;split at Dx
     ·rename_i eii
      subst eii
      injection Dx with Dx
      subst Dx;rw[Bu _ _ _ hpl]at hj;split at hj
      ·rename_i hin
       rw[if_pos (by omega)]at hu
       have e0:i*sz+j-(i*sz+off)=j-off:=by omega
       rw[e0]at hu
       exact hv (j-off) x u hj (by simpa using hu)
      ·rename_i hin
       rw[if_neg (by omega)]at hu
       exact h7 i e j x u hei hj (by simpa using hu)
     ·rename_i eii
      have hjs:j<sz:=by have:=h6 i' e' Dx;have:=(aq.1 hj).1;omega
      have aC9:i'<els.length:=(aq.1 Dx).1
      have awi:¬(i*sz+off≤i'*sz+j∧i'*sz+j<i*sz+off+xs.length):=by
       rintro⟨a1,a2⟩;rcases Nat.lt_or_gt_of_ne eii with iy|hgt
       ·have:(i+1)*sz≤i'*sz:=ep _ iy
        rw[iw,zn]at this;omega
       ·have:(i'+1)*sz≤i*sz:=ep _ hgt
        rw[iw,zn]at this;omega
      rw[if_neg awi]at hu
      exact h7 i' e' j x u Dx hj (by simpa using hu)
   ·cases tc
  ·cases tc
 ·cases tc
theorem Xu(h:i6 B0 w0 nt G0 s G E a w){t:TypeId}{n:Nat}{x:V}{ad:Value}{xs:List C}{v:Value}{e:a2t}(hs:ji P t=some n)
  (tc:w9 s n xs x=some e)(hx:fm G E s x ad)(C3:v.cells.size=xs.length)
  (hv:∀(j:Nat) (c:C) (u:Value),xs[j]? =some c→v.cells[j]? =some u→ub G E s c u)(Ac:xs.all (C.one s)=true→∀u∈v.cells.toList,u.oneCell'=true):
  ∃w' id b,(aAr t ad v).run P w= .ok () w'∧e=([],.set id b)∧i6 B0 w0 nt G0 {s with bm:=jf s.bm id (some b)} G E a w':=by
 unfold aAr
 cases x with
 |dv id ver off=>
  simp only[w9]at tc;split at tc
  ·rename_i cs Gc
   split at tc
   ·rename_i hle
    injection tc with tc
    subst tc;obtain⟨e1,e2⟩:=s9 Gc;have:=hx.2 e1 ⟨_,e2,rfl⟩;subst this;obtain⟨cells,et,Ii,hn,hh,hw⟩:=h.va e2;obtain⟨hl,hc⟩:=hh;simp only[ba,xg,aw]
    rw[Kw hs (by omega) Ii (by omega) (Ac hle.1)]
    have hpl:off+xs.length≤cs.length:=by omega
    have hpv:off+v.cells.toList.length≤cells.toList.length:=by simp;omega
    refine⟨_,id,_,rfl,rfl,h.set e2 .loc (y9.setRow Ii _) (by simp[om _ _ _ hpv,hn]) ⟨by simp[om _ _ _ hpl,om _ _ _ hpv,hl],fun j c u hj hu=>?_⟩⟩
    rw[Bu _ _ _ hpl]at hj;rw[xq,Bu _ _ _ hpv]at hu;simp only[rh,C3]at hu;split at hj
    ·rename_i hin
     rw[if_pos hin]at hu
     exact hv _ c u hj (by simpa using hu)
    ·rename_i hin
     rw[if_neg hin]at hu
     exact hc j c u hj (by simpa using hu)
   ·cases tc
  ·cases tc
 |Fl id ver ln i off=>
  simp only[w9]at tc;split at tc
  ·rename_i sz els he
   split at tc
   ·rename_i e ds hei hds
    split at tc
    ·rename_i hle
     injection tc with tc
     subst tc;obtain⟨e1,e2⟩:=v7 he;obtain⟨_,k2⟩:=hx.2 e1 sz els.length (tp e2);have:=k2 hle.2.1;subst this;obtain⟨cells,et,Ii,hn,hh,hw⟩:=h.va e2;obtain⟨h5,h6,h7⟩:=hh;have exs:=P4 hds;subst exs;rw[ae]at C3;simp only[ba,xg,aw];have hel:=h6 i e hei;have hil:i<els.length:=(aq.1 hei).1;have hb:(i+1)*sz≤els.length*sz:=ep _ hil;rw[iw,zn]at hb;have h3:=hle.2.2.1;have h4:=hle.2.2.2
     rw[Kw hs (by omega) Ii (by omega) (Ac hle.1)]
     have hpl:off+ds.length≤e.length:=by omega
     have hpv:i*sz+off+v.cells.toList.length≤cells.toList.length:=by simp;omega
     refine⟨_,id,_,rfl,rfl,h.set e2 (.arr (by simp)) (y9.setRow Ii _) (by simp[om _ _ _ hpv,hn]) ⟨by simp[om _ _ _ hpv];exact h5,fun i' e' Dx=>?_,fun i' e' j x u Dx hj hu=>?_⟩⟩
     ·rw[pv]at Dx
      split at Dx
      ·injection Dx with Dx;subst Dx;rw[om _ _ _ hpl];exact hel
      ·exact h6 i' e' Dx
     ·rw[xq,Bu _ _ _ hpv]at hu
      simp only[rh,C3]at hu;rw[pv]at Dx;split at Dx
      ·rename_i eii
       subst eii
       injection Dx with Dx
       subst Dx;rw[Bu _ _ _ hpl]at hj;split at hj
       ·rename_i hin
        rw[if_pos (by omega)]at hu
        have e0:i*sz+j-(i*sz+off)=j-off:=by omega
        rw[e0]at hu
        exact hv (j-off) (.d x) u (by simp[hj]) (by simpa using hu)
       ·rename_i hin
        rw[if_neg (by omega)]at hu
        exact h7 i e j x u hei hj (by simpa using hu)
      ·rename_i eii
       have hjs:j<sz:=by have:=h6 i' e' Dx;have:=(aq.1 hj).1;omega
       have aC9:i'<els.length:=(aq.1 Dx).1
       have awi:¬(i*sz+off≤i'*sz+j∧i'*sz+j<i*sz+off+ds.length):=by
        rintro⟨a1,a2⟩;rcases Nat.lt_or_gt_of_ne eii with iy|hgt
        ·have:(i+1)*sz≤i'*sz:=ep _ iy
         rw[iw,zn]at this;omega
        ·have:(i'+1)*sz≤i*sz:=ep _ hgt
         rw[iw,zn]at this;omega
       rw[if_neg awi]at hu
       exact h7 i' e' j x u Dx hj (by simpa using hu)
    ·cases tc
   ·exact Uj h hs tc hx C3 hv Ac
  ·exact Uj h hs tc hx C3 hv Ac
 |_=>cases tc
end
section
variable{P:Program}{B0 nt:Nat}{w0 w w':World}{G0 G G':fc}{s s':PS}{E E':Env}{a:Act}
theorem a1p{f:Field}{n:Nat}(hn:ji P f.type=some n)(h0:n≠0)(b o:Nat)(w:World):(fieldPlace ⟨b,o,none⟩ f).run P w= .ok ⟨b,o+f.offset,none⟩ w:=by
 unfold fieldPlace;simp only[ba,pt hn,aw];rw[if_neg h0];simp[Cl]
theorem a5p{off:Nat}{x y:V}{v:Value}(hf:Ox s off x=some y)(hv:fm G E s x v):∃b o,v= .pointer (some ⟨b,o,none⟩)∧fm G E s y (.pointer (some ⟨b,o+off,none⟩)):=by
 cases x with
 |dv id ver o=>
  simp only[Ox]at hf;split at hf
  ·rename_i cs hc
   injection hf with hf
   subst hf;obtain⟨e1,e2⟩:=s9 hc;have:=hv.2 e1 ⟨_,e2,rfl⟩;subst this
   exact⟨_,_,rfl,hv.1,fun _ _=>rfl⟩
  ·cases hf
 |Fl id ver ln i o=>
  simp only[Ox]at hf;split at hf
  ·rename_i sz els he
   split at hf
   ·rename_i hl
    injection hf with hf
    subst hf;obtain⟨e1,e2⟩:=Ef he;obtain⟨k1,k2⟩:=hv.2 e1 sz els e2;have:=k2 hl;subst this
    refine⟨_,_,rfl,hv.1,fun e sz' Qc hb=>?_⟩
    rw[e2]at hb
    injection hb with hb
    injection hb with hb1 hb2
    subst hb1 hb2
    exact⟨k1,fun _=>by rw[p8]⟩
   ·cases hf
  ·cases hf
 |d z=>
  cases z with
  |tz cells o=>
   simp only[Ox,ah]at hf;subst hf
   cases hv with
   | @tz _ b o' _ k1 k2=>exact⟨b,o'+o,rfl,by rw[p8];exact fh.tz k1 k2⟩
  |_=>cases hf
 |_=>cases hf
theorem akb{t:TypeId}{fs:Array Field}{i n:Nat}{f:Field}{x y:V}{v:Value}(hu:P.underlying t=some (.struct fs))(hi:fs[i]? =some f)(hn:ji P f.type=some n)(h0:n≠0)
  (hf:Ox s f.offset x=some y)(hv:fm G E s x v):∃u,(Instr.fieldAt t v i).run P w= .ok u w∧fm G E s y u:=by
 obtain⟨b,o,rfl,hy⟩:=a5p hf hv;refine⟨_,?_,hy⟩;unfold Instr.fieldAt;simp only[ba,underlying,run_program,aw,hu,dc,hi,xg,a1p hn h0]
theorem P2(k:IntKind)(n:Int)(w:World):(asIntOf (.int k n)).run P w= .ok (k,n) w:=rfl
theorem aen{t e:TypeId}{len n:Nat}{k:IntKind}{i:Int}{x y:V}{v:Value}(hu:P.underlying t=some (.array len e))(hn:ji P e=some n)(h0:0≤i)(h1:i<len)
  (hf:Ox s (i.toNat*n) x=some y)(hv:fm G E s x v):∃u,(aE4 t v (.int k i)).run P w= .ok u w∧fm G E s y u:=by
 obtain⟨b,o,rfl,hy⟩:=a5p hf hv;refine⟨_,?_,hy⟩;unfold aE4;simp only[ba,P2,aw,underlying,run_program,hu,dc,xg,pt hn,if_pos (aGv h0 h1),Cl]
theorem aek(h:i6 B0 w0 nt G0 s G E a w){t e:TypeId}{n:Nat}{k:IntKind}{i:Int}{x y:V}{v:Value}(hu:P.underlying t=some (.slice e))(hn:ji P e=some n)
  (hf:I3 s n i x=some y)(hv:fm G E s x v):∃u,(aE4 t v (.int k i)).run P w= .ok u w∧fm G E s y u:=by
 have run:∀(b o len cap:Nat),0≤i→i<len→(aE4 t (.slice (some ⟨b,o,none⟩) len cap) (.int k i)).run P w= .ok (.pointer (some ⟨b,o+i.toNat*n,none⟩)) w:=by
  intro b o len cap h0 h1;unfold aE4;simp only[ba,P2,aw,underlying,run_program,hu,dc,pt hn,if_pos (aGv h0 h1),Cl]
 cases x with
 |ref id ver len=>
  simp only[I3]at hf;split at hf
  ·rename_i sz els he
   split at hf
   ·rename_i hl
    injection hf with hf
    subst hf;obtain⟨e1,e2⟩:=Ef he;obtain⟨k1,k2⟩:=hv.2 e1 sz els e2;obtain⟨cap,c1,c2,rfl⟩:=k2 hl.2.1
    refine⟨_,run _ _ _ _ hl.2.2.1 hl.2.2.2,hv.1,fun e sz' Qc hb=>?_⟩
    rw[e2]at hb
    injection hb with hb
    injection hb with hb1 hb2
    subst hb1 hb2;have:=hl.1;subst this
    exact⟨k1,fun _=>by rw[eh,xu]⟩
   ·cases hf
  ·cases hf
 |d z=>
  cases z with
  |dt sz l=>
   simp only[I3]at hf;split at hf
   ·rename_i h0
    split at hf
    ·rename_i e he
     injection hf with hf
     subst hf;obtain⟨h0,rfl⟩:=h0;have hil:=(aq.1 he).1
     cases hv with
     | @dt _ _ b o c hc hs k1 k2=>
      refine⟨_,run _ _ _ _ h0 (by omega),?_⟩
      have hel:=hs _ e he
      have:=fh.tz (G:=G) (cells:=e) (b:=b) (o:=o+i.toNat*sz) (off:=0) (fun j hj=>k1 _ j hil (by omega)) (fun j x v hx hv=>k2 _ e j x v he hx hv)
      exact this
     |Tb=>simp at hil
     |Uk=>simp at hil
    ·cases hf
   ·cases hf
  |_=>cases hf
 |Ig id ver ln sz=>
  simp only[I3]at hf;split at hf
  ·rename_i hl
   injection hf with hf
   subst hf;obtain⟨cs,hc⟩:=jl.1 hl.1;obtain⟨e1,e2⟩:=s9 hc;have:=hv.2 e1 ⟨_,e2,rfl⟩;subst this
   exact⟨_,run _ _ _ _ hl.2.2.1 hl.2.2.2,hv.1,fun _ _=>by rw[eh]⟩
  ·cases hf
 |_=>cases hf
def TK.fits:TK→TypeDesc→Bool
 | .str,.string| .dt,.slice _| .map,.map _ _| .ptr,.pointer _| .fn,.func .. =>true
 |_,_=>false
theorem E9{r:Nat}{ents:Array MapEntry}{clock:Nat}(hr:w.heap[r]? =some (.map ents clock)):(getObj r).run P w= .ok (.map ents clock) w:=by
 simp only[getObj,Sem.run,hr]
theorem ajq(h:i6 B0 w0 nt G0 s G E a w){t:TypeId}{d:TypeDesc}{k:TK}{x:V}{n:Int}{v:Value}{ty:TypeId}{args:Array Value}{Co:Array TypeId}(ha:args[0]? =some v)(hat:Co[0]? =some t)(hu:P.underlying t=some d)
  (hd:k.fits d=true)(hf:Lw s k x=some n)(hv:fm G E s x v):
  (aG4 Co ty args).run P w= .ok (.int .i64 n) w:=by
 unfold aG4;rw[ha,hat];simp only[ba,underlying,run_program,aw,hu,dc];unfold Lw at hf;split at hf
 ·injection hf with hf
  subst hf;cases d<;>simp[TK.fits]at hd;cases hv<;>simp[goInt]
 ·injection hf with hf
  subst hf;cases d<;>simp[TK.fits]at hd;cases hv;simp[goInt]
 ·injection hf with hf
  subst hf;cases d<;>simp[TK.fits]at hd;cases hv;simp[goInt]
 ·injection hf with hf
  subst hf;cases d<;>simp[TK.fits]at hd;cases hv;simp[goInt]
 ·injection hf with hf
  subst hf;cases d<;>simp[TK.fits]at hd;cases hv;simp[goInt]
 ·injection hf with hf
  subst hf;cases d<;>simp[TK.fits]at hd
  cases hv with
  |map h0 hl _ _=>
   obtain⟨ents,clock,hh,he⟩:=h.gok.mv _ _ h0;have C3:=congrArg Cq he;simp only[ae,rh]at C3;simp[goInt,E9 hh,C3,hl]
 ·split at hf
  ·rename_i sz els he
   split at hf
   ·rename_i hl
    injection hf with hf
    subst hf;obtain⟨e1,e2⟩:=Ef he;obtain⟨k1,k2⟩:=hv.2 e1 sz els e2;obtain⟨cap,c1,c2,rfl⟩:=k2 hl;cases d<;>simp[TK.fits]at hd;simp[goInt]
   ·cases hf
  ·cases hf
 ·split at hf
  ·rename_i es he
   injection hf with hf
   subst hf;obtain⟨e1,e2⟩:=D7 he
   have:=hv.2 e1 (by rw[e2];rfl)
   subst this;obtain⟨_,_,ents,clock,hh,hl,_⟩:=h.mp _ es e2;cases d<;>simp[TK.fits]at hd;simp[goInt,E9 hh,hl]
  ·cases hf
 ·split at hf
  ·rename_i sz els he
   split at hf
   ·rename_i hl
    injection hf with hf
    subst hf;obtain⟨e1,e2⟩:=Ef he;obtain⟨k1,k2⟩:=hv.2.2 e1 sz els e2;obtain⟨C,cap,off,c1,c2,c3,c4,c5,rfl⟩:=k2 hl;cases d<;>simp[TK.fits]at hd;simp[goInt]
   ·cases hf
  ·cases hf
 ·split at hf
  ·rename_i hl
   injection hf with hf
   subst hf;obtain⟨cs,hc⟩:=jl.1 hl;obtain⟨e1,e2⟩:=s9 hc;have:=hv.2 e1 ⟨_,e2,rfl⟩;subst this;cases d<;>simp[TK.fits]at hd;simp[goInt]
  ·cases hf
 ·cases hf
theorem aem{t:TypeId}{b:ByteArray}{k:IntKind}{i:Int}{u:UInt8}(hu:P.underlying t=some .string)(hi:(if 0≤i then b[i.toNat]? else none)=some u):
  (aGe t (.string b) (.int k i)).run P w= .ok (.int .u8 u.toNat) w:=by
 unfold aGe;simp only[ba,P2,aw,underlying,run_program,hu,dc,hi]
theorem aag{t:TypeId}{n off:Nat}{g:Bool}{cs:List C}{vs:Array Value}(hs:ji P t=some n)(hg:yp P t=some g)(h1:g=true∨n=1)(hl:off+n≤cs.length)(C3:vs.size=cs.length)
  (hr:∀(i:Nat) (c:C) (u:Value),cs[i]? =some c→vs[i]? =some u→ub G E s c u):∃u,(part t vs off).run P w= .ok u w∧fm G E s (mkv g ((cs.drop off).take n)) u:=by
 unfold part;simp only[ba,W4 hg,aw]
 have get:∀i c,((cs.drop off).take n)[i]? =some c→i<n∧cs[off+i]? =some c:=by
  intro i c hc;rw[j0]at hc;split at hc
  ·rename_i hi;rw[lv]at hc;exact⟨hi,hc⟩
  ·cases hc
 cases g with
 |true=>
  simp only[if_true,ba,pt hs,aw,dc];refine⟨_,rfl,?_⟩
  have rel:∀(i:Nat) (c:C) (u:Value),((cs.drop off).take n)[i]? =some c→(vs.extract off (off+n))[i]? =some u→ub G E s c u:=by
   intro i c u hc hu;obtain⟨hi,hc⟩:=get i c hc;refine hr (off+i) c u hc ?_;rw[Yr]at hu;split at hu
   ·exact hu
   ·cases hu
  unfold mkv
  cases hd:J4 ((cs.drop off).take n)with
  |some ds=>
   have e:=P4 hd;have el:=congrArg Cq e;simp at el
   refine fh.agg (by simp;omega) fun i x v hx hv=>rel i (.d x) v (by rw[e];simp[hx]) hv
  |none=>exact Cv.2 ⟨_,rfl,by simp;omega,rel⟩
 |false=>
  have hn1:n=1:=by simpa using h1
  subst hn1
  have iy:off<vs.size:=by omega
  have cj:off<cs.length:=by omega
  refine⟨vs[off],by simp[av iy],?_⟩
  have e:(cs.drop off).take 1=[cs[off]]:=by rw[gd cj];rfl
  rw[e];unfold mkv;simp only[];exact hr off cs[off] vs[off] (ao cj) (av iy)
theorem a1n{t:TypeId}{fs:Array Field}{i n:Nat}{f:Field}{g:Bool}{cs:List C}{vs:Array Value}(hu:P.underlying t=some (.struct fs))(hi:fs[i]? =some f)(hs:ji P f.type=some n)(hg:yp P f.type=some g)(h1:g=true∨n=1)
  (hl:f.offset+n≤cs.length)(C3:vs.size=cs.length)(hr:∀(i:Nat) (c:C) (u:Value),cs[i]? =some c→vs[i]? =some u→ub G E s c u):
  ∃u,(Instr.field t (.agg vs) i).run P w= .ok u w∧fm G E s (mkv g ((cs.drop f.offset).take n)) u:=by
 obtain⟨u,h2,h3⟩:=aag (P:=P) (w:=w) (off:=f.offset) hs hg h1 hl C3 hr;refine⟨u,?_,h3⟩;unfold Instr.field;simp only[ba,underlying,run_program,aw,hu,dc,hi,asAgg,h2]
theorem aej{t e:TypeId}{len n:Nat}{k:IntKind}{i:Int}{g:Bool}{cs:List C}{vs:Array Value}(hu:P.underlying t=some (.array len e))(hs:ji P e=some n)(hg:yp P e=some g)(h1:g=true∨n=1)
  (h0:0≤i)(hi:i<len)(hl:i.toNat*n+n≤cs.length)(C3:vs.size=cs.length)(hr:∀(i:Nat) (c:C) (u:Value),cs[i]? =some c→vs[i]? =some u→ub G E s c u):
  ∃u,(aGe t (.agg vs) (.int k i)).run P w= .ok u w∧fm G E s (mkv g ((cs.drop (i.toNat*n)).take n)) u:=by
 obtain⟨u,h2,h3⟩:=aag (P:=P) (w:=w) (off:=i.toNat*n) hs hg h1 hl C3 hr;refine⟨u,?_,h3⟩;unfold aGe;simp only[ba,P2,aw,underlying,run_program,hu,dc,if_pos (aGv h0 hi),pt hs,h2]
theorem aju{op:BinOp}{k:IntKind}{x y:Int}{r:D}(h:Y7 op k x y=some r)(hs:op≠ .shl∧op≠ .shr)(t:TypeId):
  ∃u,(binOp op t (.int k x) (.int k y)).run P w= .ok u w∧fh G r u:=by
 cases op<;>simp only[Y7]at h<;>(try simp at hs)<;>simp only[binOp,ne_eq,not_true_eq_false,if_false]
 case quo=>
  split at h
  ·cases h
  ·rename_i hy
   injection h with h
   subst h
   exact⟨.int k (k.wrap (x.tdiv y)),by simp[Op.intDiv,hy],.int⟩
 case rem=>
  split at h
  ·cases h
  ·rename_i hy
   injection h with h
   subst h
   exact⟨.int k (x.tmod y),by simp[Op.intDiv,hy],.int⟩
 all_goals
  injection h with h
  subst h;simp only[Op.intArith,Op.intBits,Op.intCmp,dc]
  exact⟨_,rfl,by constructor⟩
theorem aic{op:BinOp}{k k':IntKind}{x y:Int}{r:D}(h:Y7 op k x y=some r)(hs:op= .shl∨op= .shr)(t:TypeId):
  ∃u,(binOp op t (.int k x) (.int k' y)).run P w= .ok u w∧fh G r u:=by
 rcases hs with rfl|rfl<;>simp only[Y7]at h
 all_goals
  split at h
  ·cases h
  ·rename_i hy
   injection h with h
   subst h;simp only[binOp,Op.shift,if_neg hy,dc]
   exact⟨_,rfl,by constructor⟩
theorem ai9{op:BinOp}{x y:ByteArray}{r:D}(h:aga op x y=some r)(t:TypeId):
  ∃u,(binOp op t (.string x) (.string y)).run P w= .ok u w∧fh G r u:=by
 cases op<;>simp only[aga]at h<;>(try cases h)<;>simp only[binOp,Op.stringOp,dc]
 case add=>
  split at h
  ·rename_i hl
   injection h with h
   subst h
   rw[if_neg (by simp[IntKind.max,IntKind.bits,aFk]at*;omega)]
   exact⟨_,rfl,.str⟩
  ·cases h
 all_goals exact⟨_,rfl,by constructor⟩
theorem Ou{op:BinOp}{a b:Value}(t:TypeId)(ox oy:Operand)(h1:∀c,a≠ .agg c)(h2:a≠ .nilIface):(eqGuard op t ox oy a b).run P w= .ok () w:=by
 unfold eqGuard;cases op<;>simp<;>(cases a<;>simp_all)
theorem ak0{op:BinOp}{k k':IntKind}{a b:Int}(t:TypeId)(ox oy:Operand):(eqGuard op t ox oy (.int k a) (.int k' b)).run P w= .ok () w:=Ou t ox oy (by simp) (by simp)
theorem ajz{op:BinOp}{a b:ByteArray}(t:TypeId)(ox oy:Operand):(eqGuard op t ox oy (.string a) (.string b)).run P w= .ok () w:=Ou t ox oy (by simp) (by simp)
theorem akx{op:BinOp}{x y r:D}(h:a4g op x y=some r){u v:Value}(hx:fh G x u)(hy:fh G y v)(t:TypeId)(ox oy:Operand):
  ∃z,(do eqGuard op t ox oy u v;binOp op t u v:Sem Value).run P w= .ok z w∧fh G r z:=by
 unfold a4g at h;split at h
 ·cases hx;cases hy
  split at h
  ·rename_i hop
   simp only[ba,ak0,aw];by_cases hs:op= .shl∨op= .shr
   ·exact aic h hs t
   ·have:op≠ .shl∧op≠ .shr:=⟨fun e=>hs (.inl e),fun e=>hs (.inr e)⟩
    have hk:=(hop.resolve_left this.1).resolve_left this.2;subst hk;exact aju h this t
  ·cases h
 ·cases hx;cases hy
  simp only[ba,ajz,aw];exact ai9 h t
 ·cases h
theorem af4{t:TypeId}(hu:P.underlying t=some .bool)(a b:Bool):(aEo t (.bool a) (.bool b)).run P w= .ok (a==b) w:=by
 unfold aEo aGd aGn;simp only[ba,underlying,run_program,aw,hu,dc]
theorem aky{op:BinOp}(hop:op= .eql∨op= .neq){t:TypeId}(hu:P.underlying t=some .bool)(a b:Bool)(ox oy:Operand):
  (do eqGuard op t ox oy (.bool a) (.bool b);binOp op t (.bool a) (.bool b):Sem Value).run P w= .ok (.bool (if decide (op= .neq)then !(a==b)else a==b)) w:=by
 simp only[ba,Ou t ox oy (a:= .bool a) (by simp) (by simp),aw]
 rcases hop with rfl|rfl<;>simp[binOp,af4 hu]
theorem a10{k:TK}{x:V}{b:Bool}(hn:isNil s k x=some b){v:Value}(hv:fm G E s x v):
  (k= .ptr→∃a,v= .pointer a∧b=a.isNone)∧(k= .dt→∃a l c,v= .slice a l c∧b=a.isNone)∧(k= .map→∃a,v= .map a∧b=a.isNone)∧
  (k= .fn→(v= .nilFunc∧b=true)∨∃f x y,v= .func f x y∧b=false)∧k≠ .str:=by
 have cl:∀{o:Option (List C)},o.isSome=true→∃cs,o=some cs:=fun h=>jl.1 h
 unfold isNil at hn;split at hn
 all_goals first
  |(injection hn with hn;subst hn;cases hv;simp;done)
  |(injection hn with hn;subst hn;cases hv<;>simp;done)
  |skip
 ·split at hn
  ·rename_i hl
   injection hn with hn;subst hn
   simp only[V.live]at hl;split at hl
   ·rename_i sz els he
    obtain⟨e1,e2⟩:=Ef he;obtain⟨_,k2⟩:=hv.2 e1 sz els e2
    obtain⟨cap,_,_,rfl⟩:=k2 (by simpa using hl)
    simp
   ·cases hl
  ·cases hn
 ·split at hn
  ·rename_i hl
   injection hn with hn;subst hn
   simp only[V.live]at hl;obtain⟨cs,hc⟩:=cl hl;obtain⟨e1,e2⟩:=s9 hc;have:=hv.2 e1 ⟨_,e2,rfl⟩;subst this;simp
  ·cases hn
 ·split at hn
  ·rename_i hl
   injection hn with hn;subst hn
   simp only[V.live]at hl;split at hl
   ·rename_i sz els he
    obtain⟨e1,e2⟩:=Ef he;obtain⟨_,k2⟩:=hv.2 e1 sz els e2
    have:=k2 (by simpa using hl)
    subst this;simp
   ·cases hl
  ·cases hn
 ·split at hn
  ·rename_i hl
   injection hn with hn;subst hn
   simp only[V.live]at hl;obtain⟨es,hc⟩:=jl.1 hl;obtain⟨e1,e2⟩:=D7 hc
   have:=hv.2 e1 (by rw[e2];rfl)
   subst this;simp
  ·cases hn
 ·split at hn
  ·rename_i hl
   injection hn with hn;subst hn
   simp only[V.live,ck]at hl
   have:=hv.2 (fun p hp=>by
    obtain⟨cs,hc⟩:=cl (hl p hp);obtain⟨e1,e2⟩:=s9 hc
    exact⟨e1,_,e2,rfl⟩)
   subst this;simp
  ·cases hn
 ·cases hn
end
section
variable{P:Program}{B0 nt:Nat}{w0 w w':World}{G0 G G':fc}{s s':PS}{E E':Env}{a:Act}
def TK.Q6:TK→Value
 | .ptr=> .pointer none
 | .dt=> .slice none 0 0
 | .map=> .map none
 | .fn=> .nilFunc
 | .str=> .pointer none
theorem Y6{k:TK}{x:Operand}(h:a7t k x=true)(a:Act):a.eval x=k.Q6:=by
 unfold a7t at h;split at h<;>simp at h<;>subst h<;>rfl
theorem binOp_eql{k:TK}{v:Value}{t:TypeId}:binOp .eql t v k.Q6=(do pure (.bool (←aEo t v k.Q6)):Sem Value)∧binOp .neq t v k.Q6=(do pure (.bool (!(←aEo t v k.Q6))):Sem Value)∧
  binOp .eql t k.Q6 v=(do pure (.bool (←aEo t k.Q6 v)):Sem Value)∧binOp .neq t k.Q6 v=(do pure (.bool (!(←aEo t k.Q6 v))):Sem Value):=by
 unfold binOp;cases k<;>cases v<;>exact⟨rfl,rfl,rfl,rfl⟩
theorem a5r{k:TK}{t:TypeId}{d:TypeDesc}(hu:P.underlying t=some d)(hf:k.fits d=true){x:V}{b:Bool}(hn:isNil s k x=some b){v:Value}(hv:fm G E s x v):
  (aEo t v k.Q6).run P w= .ok b w∧(aEo t k.Q6 v).run P w= .ok b w∧(∀c,v≠ .agg c)∧v≠ .nilIface:=by
 obtain⟨hp,hs,hm,hfn,aBy⟩:=a10 hn hv;unfold aEo aGd aGn;simp only[ba,underlying,run_program,aw,hu,dc]
 cases k with
 |str=>exact absurd rfl aBy
 |ptr=>
  obtain⟨a,rfl,rfl⟩:=hp rfl;cases d<;>simp[TK.fits]at hf;cases a<;>simp[TK.Q6]
 |dt=>
  obtain⟨a,l,c,rfl,rfl⟩:=hs rfl;cases d<;>simp[TK.fits]at hf;cases a<;>simp[TK.Q6]
 |map=>
  obtain⟨a,rfl,rfl⟩:=hm rfl;cases d<;>simp[TK.fits]at hf;cases a<;>simp[TK.Q6]
 |fn=>
  cases d<;>simp[TK.fits]at hf;rcases hfn rfl with ⟨rfl,rfl⟩|⟨f,y,z,rfl,rfl⟩<;>simp[TK.Q6]
theorem a0m(k:TK):(∀c,k.Q6≠ .agg c)∧k.Q6≠ .nilIface:=by cases k<;>simp[TK.Q6]
theorem ab3{op:BinOp}{x y:Operand}{k:TK}{oa ob:lb}{r:j6}(hc:Xl op x y k oa ob=some r){t:TypeId}{d:TypeDesc}(hu:P.underlying t=some d)(hf:k.fits d=true)
  (ha:fm G E s (oa.ev s) (a.eval x))(hb:fm G E s (ob.ev s) (a.eval y)){dst:Nat}{ids:List Nat}{e:kn}(he:r.ml dst s=some (ids,e)):
  ∃z v,(do eqGuard op t x y (a.eval x) (a.eval y);binOp op t (a.eval x) (a.eval y):Sem Value).run P w= .ok z w∧ids=[]∧e= .val v∧fm G E s v z:=by
 unfold Xl at hc;split at hc
 ·rename_i hop
  split at hc
  ·rename_i hy
   injection hc with hc
   subst hc;simp only[j6.ml,ak]at he;obtain⟨b,hn,he⟩:=he
   injection he with h1 h2
   subst h1 h2;obtain⟨k1,k2,k3,k4⟩:=a5r (P:=P) (w:=w) hu hf hn ha;rw[Y6 hy a];simp only[ba,Ou t x y k3 k4,aw]
   refine⟨.bool (if decide (op= .neq)then !b else b),_,?_,by first|rfl|trivial,rfl,.bool⟩
   have k5:=(a0m k);rcases hop with rfl|rfl
   ·rw[binOp_eql.1]
    simp[k1]
   ·rw[binOp_eql.2.1]
    simp[k1]
  ·split at hc
   ·rename_i hx
    injection hc with hc
    subst hc;simp only[j6.ml,ak]at he;obtain⟨b,hn,he⟩:=he
    injection he with h1 h2
    subst h1 h2;obtain⟨k1,k2,k3,k4⟩:=a5r (P:=P) (w:=w) hu hf hn hb;rw[Y6 hx a];have k5:=(a0m k);simp only[ba,Ou t x y k5.1 k5.2,aw]
    refine⟨.bool (if decide (op= .neq)then !b else b),_,?_,by first|rfl|trivial,rfl,.bool⟩
    rcases hop with rfl|rfl
    ·rw[binOp_eql.2.2.1]
     simp[k2]
    ·rw[binOp_eql.2.2.2]
     simp[k2]
   ·cases hc
 ·cases hc
theorem ald{op:UnOp}{x:lb}{v:Value}(hv:fm G E s (x.ev s) v){e:a2t}{d:Nat}(he:(j6.un op x).ml d s=some e):∃z y,(Op.unary op v).run P w= .ok z w∧e=kn.qj y∧fm G E s y z:=by
 simp only[j6.ml]at he;split at he
 ·rename_i b hx
  rw[hx]at hv
  injection he with he;subst he;cases hv;exact⟨_,_,rfl,rfl,.bool⟩
 ·rename_i k n hx
  rw[hx]at hv
  injection he with he;subst he;cases hv;exact⟨_,_,rfl,rfl,.int⟩
 ·cases he
theorem afn{src dst:TypeId}{k k':IntKind}{d0:TypeDesc}(h0:P.underlying src=some d0)(h1:P.underlying dst=some (.int k))(n:Int):
  (convert src dst (.int k' n)).run P w= .ok (.int k (k.wrap n)) w:=by
 unfold convert;simp only[ba,underlying,run_program,aw,h0,h1,dc];cases d0<;>simp[Conv.intToInt]
theorem acf{src dst:TypeId}(h0:P.underlying src=some .string)(h1:P.underlying dst=some .string)(b:ByteArray):
  (convert src dst (.string b)).run P w= .ok (.string b) w:=by
 unfold convert;simp only[ba,underlying,run_program,aw,h0,h1,dc]
theorem a4d{vs:List D}{i:Nat}{x:D}(hi:vs[i]? =some x){v:Value}(hv:fh G (.yi vs) v):∃u,(aFa v i).run P w= .ok u w∧fh G x u:=by
 cases hv with
 | @yi _ us hl hh=>
  have iy:i<us.size:=by have:=(aq.1 hi).1;omega
  refine⟨us[i],?_,hh i x _ hi (av iy)⟩;simp[aFa,av iy]
def LK.fits:LK→TypeDesc→Bool
 | .bool,.bool| .int,.int _| .str,.string=>true
 |_,_=>false
theorem anw{k:LK}{t:TypeId}{d:TypeDesc}(hu:P.underlying t=some d)(hd:k.fits d=true){x y:D}{b:Bool}(he:Ls k x y=some b){u v:Value}(hx:fh G x u)(hy:fh G y v)(n:Nat):
  (aGn (n+1) t u v).run P w= .ok b w:=by
 unfold aGn;simp only[ba,underlying,run_program,aw,hu,dc];unfold Ls at he;split at he
 ·split at he
  ·rename_i h
   subst h
   injection he with he
   subst he;cases hx;cases hy;cases d<;>simp[LK.fits]at hd;simp
  ·cases he
 ·injection he with he
  subst he;cases hx;cases hy;cases d<;>simp[LK.fits]at hd;simp
 ·injection he with he
  subst he;cases hx;cases hy;cases d<;>simp[LK.fits]at hd;simp
 ·cases he
def De(g:Bool)(us:Array Value):Value:=if g then .agg us else us.getD 0 undef
def Row(G:fc)(xs:List D)(us:Array Value):Prop:=us.size=xs.length∧∀(i:Nat) (x:D) (u:Value),xs[i]? =some x→us[i]? =some u→fh G x u
theorem Row.sub{xs:List D}{us:Array Value}(h:Row G xs us)(off n:Nat)(hl:off+n≤xs.length):Row G ((xs.drop off).take n) (us.extract off (off+n)):=by
 obtain⟨h1,h2⟩:=h
 refine⟨by simp;omega,fun i x u hx hu=>?_⟩
 rw[j0]at hx;split at hx
 ·rw[lv]at hx
  rw[Yr]at hu;split at hu
  ·exact h2 _ x u hx hu
  ·cases hu
 ·cases hx
theorem Ix{t:TypeId}{n off:Nat}{g:Bool}{us:Array Value}(hs:ji P t=some n)(hg:yp P t=some g)(h1:g=true∨n=1)(hl:off+n≤us.size):
  (part t us off).run P w= .ok (De g (us.extract off (off+n))) w:=by
 unfold part De;simp only[ba,W4 hg,aw]
 cases g with
 |true=>simp[pt hs]
 |false=>
  have hn1:n=1:=by simpa using h1
  subst hn1
  have iy:off<us.size:=by omega
  have e:(us.extract off (off+1)).getD 0 undef=us[off]:=by
   rw[jo,Yr,if_pos (by omega)]
   simp[iy]
  simp[av iy,e]
theorem Of:∀{ks:List LK} {x y:List D} {b:Bool},yr ks x y=some b→x.length=ks.length∧y.length=ks.length:=by
 intro ks
 induction ks with
 |nil=>intro x y b h;cases x<;>cases y<;>simp_all [yr]
 |cons k ks ih=>
  intro x y b h
  cases x with
  |nil=>simp[yr]at h
  |cons a x=>
   cases y with
   |nil=>simp[yr]at h
   |cons c y=>
    simp only[yr]at h;split at h
    ·rename_i p q h1 h2
     obtain⟨k1,k2⟩:=ih h2
     exact⟨by simp[k1],by simp[k2]⟩
    ·cases h
theorem Uq:∀{l m:List LK} {x y:List D} {b:Bool},yr (l++m) x y=some b→∃p q,yr l (x.take l.length) (y.take l.length)=some p∧yr m (x.drop l.length) (y.drop l.length)=some q∧b=(p&&q):=by
 intro l
 induction l with
 |nil=>intro m x y b h;exact⟨true,b,by simp[yr],by simpa using h,by simp⟩
 |cons k l ih=>
  intro m x y b h
  cases x with
  |nil=>simp[yr]at h
  |cons a x=>
   cases y with
   |nil=>simp[yr]at h
   |cons c y=>
    simp only[vp,yr]at h;split at h
    ·rename_i p q h1 h2
     injection h with h
     obtain⟨p',q',e1,e2,e3⟩:=ih h2
     refine⟨p&&p',q',by simp[yr,h1,e1],by simpa using e2,by rw[←h,e3,Bool.and_assoc]⟩
    ·cases h
def au6(P:Program)(G:fc)(w:World)(t:TypeId)(ks:List LK)(g:Bool)(m:Nat):Prop:=
 ji P t=some ks.length∧yp P t=some g∧(g=true∨ks.length=1)∧
  ∀(us vs:Array Value) (xs ys:List D) (b:Bool),Row G xs us→Row G ys vs→yr ks xs ys=some b→(aGn m t (De g us) (De g vs)).run P w= .ok b w
theorem a8e{m:Nat}(us vs:Array Value){g0:TypeId→Option (List LK)}(ih:∀(t:TypeId) (l:List LK),g0 t=some l→∃g,au6 P G w t l g m):
  ∀(fs:List Field) (off:Nat) (l:List LK),Eb P g0 fs off=some l→∀(xs ys:List D) (b:Bool),Row G xs us→Row G ys vs→yr l (xs.drop off) (ys.drop off)=some b→
  (aGg m us vs fs).run P w= .ok b w:=by
 intro fs
 induction fs with
 |nil=>
  intro off l hl xs ys b hx hy he;simp only[Eb,ah]at hl;subst hl
  have:b=true:=by
   cases h1:xs.drop off<;>cases h2:ys.drop off<;>simp_all [yr]
  subst this;simp[aGg]
 |cons f r ihf=>
  intro off l hl xs ys b hx hy he;simp only[Eb]at hl;split at hl
  ·rename_i hn
   split at hl
   ·rename_i lf hlf
    split at hl
    ·rename_i hs
     split at hl
     ·rename_i mr hmr
      injection hl with hl
      subst hl;obtain⟨g,k1,k2,k3,k4⟩:=ih _ _ hlf;obtain⟨p,q,e1,e2,e3⟩:=Uq he;obtain⟨l1,l2⟩:=Of he;simp only[qn,cb]at l1 l2;have hxl:=hx.1;have hyl:=hy.1;simp only[aGg];rw[if_pos hn.1,hn.2]
      have hz:off+lf.length≤xs.length∧off+lf.length≤ys.length:=by omega
      have r1:=k4 _ _ _ _ p (hx.sub off lf.length hz.1) (hy.sub off lf.length hz.2) e1
      simp only[ba,Ix k1 k2 k3 (show off+lf.length≤us.size by omega),Ix k1 k2 k3 (show off+lf.length≤vs.size by omega),aw,r1]
      have r2:=ihf (off+lf.length) mr hmr xs ys q hx hy (by rw[←ahw,←ahw];exact e2)
      cases p with
      |false=>simp[e3]
      |true=>simp[e3,r2]
     ·cases hl
    ·cases hl
   ·cases hl
  ·cases hl
theorem aj2{l:List LK}:∀{n:Nat} {x y:List D} {b:Bool},yr (gu n l).flatten x y=some b→x.length=n*l.length∧y.length=n*l.length:=by
 intro n x y b h;have:=Of h;simpa using this
theorem ac0{m:Nat}{t:TypeId}{l:List LK}{g:Bool}(h:au6 P G w t l g m)(h0:0<l.length)(us vs:Array Value)(xs ys:List D)(hx:Row G xs us)(hy:Row G ys vs):
  ∀(n i:Nat) (b:Bool),yr (gu n l).flatten (xs.drop (i*l.length)) (ys.drop (i*l.length))=some b→
  (Op.eqItems m t l.length us vs (ag6 i n)).run P w= .ok b w:=by
 intro n;obtain⟨k1,k2,k3,k4⟩:=h
 induction n with
 |zero=>
  intro i b he
  have:b=true:=by
   simp only[List.replicate_zero,aE1]at he;cases h1:xs.drop (i*l.length)<;>cases h2:ys.drop (i*l.length)<;>simp_all [yr]
  subst this;simp[Op.eqItems]
 |succ n ih=>
  intro i b he;have hl:=aj2 he;rw[aF3,aq1]at he;obtain⟨p,q,e1,e2,e3⟩:=Uq he;simp only[qn,iw,zn]at hl;have hxl:=hx.1;have hyl:=hy.1
  have hz:i*l.length+l.length≤xs.length∧i*l.length+l.length≤ys.length:=by omega
  have r1:=k4 _ _ _ _ p (hx.sub (i*l.length) l.length hz.1) (hy.sub (i*l.length) l.length hz.2) e1;rw[aDz]
  simp only[Op.eqItems,ba,Ix k1 k2 k3 (show i*l.length+l.length≤us.size by omega),Ix k1 k2 k3 (show i*l.length+l.length≤vs.size by omega),aw,r1]
  have r2:=ih (i+1) q (by rw[iw,zn,←ahw,←ahw];exact e2)
  cases p with
  |false=>simp[e3]
  |true=>simp[e3,r2]
theorem atm:∀(n:Nat) (t:TypeId) (l:List LK),zo P n t=some l→∀m,n≤m→∃g,au6 P G w t l g m:=by
 intro n
 induction n with
 |zero=>intro t l h;cases h
 |succ n ih=>
  intro t l h m hm
  obtain⟨m,rfl⟩:∃k,m=k+1:=⟨m-1,by omega⟩
  have single:∀(k:LK) (d:TypeDesc),P.underlying t=some d→k.fits d=true→ji P t=some 1→∃g,au6 P G w t [k] g (m+1):=by
   intro k d hu hd hs
   refine⟨false,hs,?_,.inr rfl,fun us vs xs ys b hx hy he=>?_⟩
   ·unfold yp
    rw[hu];cases d<;>simp[LK.fits]at hd⊢
   ·obtain⟨l1,l2⟩:=Of he
    match xs,ys,l1,l2 with
    |[x],[y],_,_=>
     simp only[yr]at he;split at he
     ·rename_i p q h1 h2
      injection h2 with h2
      subst h2
      injection he with he
      simp only[F9]at he;subst he
      have gx:us.getD 0 undef=us[0]'(by have:=hx.1;simp at this;omega):=by simp[Array.getD,hx.1]
      have gy:vs.getD 0 undef=vs[0]'(by have:=hy.1;simp at this;omega):=by simp[Array.getD,hy.1]
      simp only[De,ec,if_false,gx,gy];exact anw hu hd h1 (hx.2 0 x _ rfl (av _)) (hy.2 0 y _ rfl (av _)) m
     ·cases he
  simp only[zo]at h;split at h
  ·rename_i hu
   split at h
   ·rename_i hs;injection h with h;subst h;exact single .bool _ hu rfl hs
   ·cases h
  ·rename_i k hu
   split at h
   ·rename_i hs;injection h with h;subst h;exact single .int _ hu rfl hs
   ·cases h
  ·rename_i hu
   split at h
   ·rename_i hs;injection h with h;subst h;exact single .str _ hu rfl hs
   ·cases h
  ·rename_i len e hu
   split at h
   ·rename_i le hle
    split at h
    ·rename_i hs
     injection h with h
     subst h
     obtain⟨g,hg⟩:=ih e le hle m (by omega)
     refine⟨true,by simpa using hs.2.2,by unfold yp;rw[hu],.inl rfl,fun us vs xs ys b hx hy he=>?_⟩
     simp only[De,if_true]
     have hie:∃i,P.info? e=some i∧i.size=le.length:=by
      have:=hs.1;unfold ji at this;simpa[ak]using this
     obtain⟨i,hi,aC7⟩:=hie;rw[run_equalIn_array w m us vs hu hi]
     have hc:P.cellsOf e=le.length:=by simp[aAn,hi,aC7]
     rw[hc,aEs]
     exact ac0 hg hs.2.1 us vs xs ys hx hy len 0 b (by simpa using he)
    ·cases h
   ·cases h
  ·rename_i fs hu
   split at h
   ·rename_i tc
    split at h
    ·rename_i lf hlf
     split at h
     ·rename_i hs
      injection h with h
      subst h
      refine⟨true,hs,by unfold yp;rw[hu],.inl rfl,fun us vs xs ys b hx hy he=>?_⟩
      simp only[De,if_true]
      have hf:P.fieldsOf t=fs:=by unfold Program.fieldsOf;rw[hu]
      rw[run_equalIn_struct w m t us vs (by rw[hf];exact hu) tc,hf]
      exact a8e us vs (fun t' l' h'=>ih t' l' h' m (by omega)) fs.toList 0 lf hlf xs ys b hx hy (by simpa using he)
     ·cases h
    ·cases h
   ·cases h
  ·cases h
end
section
variable{P:Program}{B0 nt:Nat}{w0 w w':World}{G0 G G':fc}{s s':PS}{E E':Env}{a:Act}
theorem Holds.aBn{cells:Array Value}{sz:Nat}{els:List (List D)}(h1:els.length*sz≤cells.size)(h2:∀(i:Nat) (e:List D),els[i]? =some e→e.length=sz)
  (h3:∀(i:Nat) (e:List D) (j:Nat) (x:D) (u:Value),els[i]? =some e→e[j]? =some x→cells[i*sz+j]? =some u→fh G x u):Holds G E s cells (.arr sz els):=⟨h1,h2,h3⟩
theorem Holds.append{c1 c2 c3:Array Value}{sz:Nat}{els ys:List (List D)}(h1:Holds G E s c1 (.arr sz els))(he:c1.size=els.length*sz)(h2:Holds G E s c2 (.arr sz ys)):
  Holds G E s (c1++c2++c3) (.arr sz (els++ys)):=by
 obtain⟨a1,a2,a3⟩:=h1;obtain⟨b1,b2,b3⟩:=h2
 refine⟨by simp[iw];omega,fun i e hi=>?_,fun i e j x u hi hj hu=>?_⟩
 ·rw[Ku]at hi
  split at hi
  ·exact a2 i e hi
  ·exact b2 _ e hi
 ·rw[Ku]at hi
  split at hi
  ·rename_i iy
   have hj':j<sz:=by have:=a2 i e hi;have:=(aq.1 hj).1;omega
   have hb:(i+1)*sz≤els.length*sz:=ep _ iy;rw[iw,zn]at hb;refine a3 i e j x u hi hj ?_
   rw[Array.append_assoc,F7,if_pos (by omega)]at hu
   exact hu
  ·rename_i hge
   have hil:=(aq.1 hi).1
   have hj':j<sz:=by have:=b2 _ e hi;have:=(aq.1 hj).1;omega
   have hb:(i-els.length+1)*sz≤ys.length*sz:=ep _ hil;rw[iw,zn]at hb
   have hs:i*sz=els.length*sz+(i-els.length)*sz:=by rw[←iw];congr 1;omega
   refine b3 (i-els.length) e j x u hi hj ?_
   rw[F7,if_pos (by rw[T7];omega),F7,if_neg (by omega)]at hu
   rw[←hu]
   congr 1
   omega
theorem a1v(h:i6 B0 w0 nt G0 s G E a w){y:V}{ys:List (List D)}{osz:Option Nat}{sz:Nat}(hd:ov s y=some (ys,osz))(hz:osz.getD sz=sz){v:Value}(hv:fm G E s y v):
  ∃(xb:Option Addr) (c:Nat) (news:List Value),v= .slice xb ys.length c∧news.length=ys.length*sz∧Holds G E s news.toArray (.arr sz ys)∧(∀u∈news,(ys.all fun e=>e.all D.one)=true→u.oneCell'=true)∧
   (ju sz ys.length v).run P w= .ok news.toArray w∧(ju sz ys.length v).run P w.drew= .ok news.toArray w.drew:=by
 have main:∀(b o c:Nat) (hs:∀(i:Nat) (e:List D),ys[i]? =some e→e.length=sz) (cell:Nat→Value),(∀i j,i<ys.length→j<sz→w.cell? ⟨b,o+i*sz+j,none⟩=some (cell (i*sz+j)))→
   (∀(i:Nat) (e:List D) (j:Nat) (x:D),ys[i]? =some e→e[j]? =some x→fh G x (cell (i*sz+j)))→v= .slice (some ⟨b,o,none⟩) ys.length c→
   ∃(xb:Option Addr) (c:Nat) (news:List Value),v= .slice xb ys.length c∧news.length=ys.length*sz∧Holds G E s news.toArray (.arr sz ys)∧(∀u∈news,(ys.all fun e=>e.all D.one)=true→u.oneCell'=true)∧
   (ju sz ys.length v).run P w= .ok news.toArray w∧(ju sz ys.length v).run P w.drew= .ok news.toArray w.drew:=by
  intro b o c hs cell Ii Di hv
  have split:∀k,k<ys.length*sz→∃i j,i<ys.length∧j<sz∧k=i*sz+j:=by
   intro k hk
   have Yx:0<sz:=by
    rcases a34 sz with h0|h0
    ·rw[h0]at hk;simp at hk
    ·exact h0
   refine⟨k/sz,k%sz,(aEi Yx).2 hk,a30 _ Yx,?_⟩;rw[aFx];exact(Nat.div_add_mod k sz).symm
  have a7y:∀k u,((cq (ys.length*sz)).map cell)[k]? =some u→k<ys.length*sz∧u=cell k:=by
   intro k u hu;rw[bp]at hu;by_cases hk:k<ys.length*sz
   ·rw[Jx hk]at hu
    exact⟨hk,by simpa using hu.symm⟩
   ·rw[a2z (by simp;omega)]at hu
    cases hu
  have ab8:∀k u,((cq (ys.length*sz)).map cell)[k]? =some u→w.cell? ((⟨b,o,none⟩:Addr).add k)=some u:=by
   intro k u hu;obtain⟨hk,rfl⟩:=a7y k u hu;obtain⟨i,j,hi,hj,rfl⟩:=split k hk;rw[Cl,←p8];exact Ii i j hi hj
  refine⟨_,c,(cq (ys.length*sz)).map cell,hv,by simp,⟨by simp,hs,fun i e j x u hi hj hu=>?_⟩,fun u hu Ac=>?_,?_,?_⟩
  ·obtain⟨_,rfl⟩:=a7y _ u (by simpa using hu)
   exact Di i e j x hi hj
  ·obtain⟨k,hk,rfl⟩:=jc.1 hu
   obtain⟨i,j,hi,hj,rfl⟩:=split k (du.1 hk);have he:ys[i]? =some ys[i]:=ao hi
   have hj':j<ys[i].length:=by rw[hs i _ he];exact hj
   refine(Di i _ j _ he (ao hj')).aal ?_;exact ck.1 (ck.1 Ac _ (bz hi)) _ (bz hj')
  ·rw[hv];exact run_firstCells_some w sz ys.length _ ys.length c _ (by simp) ab8
  ·rw[hv];exact run_firstCells_some w.drew sz ys.length _ ys.length c _ (by simp) ab8
 have empty:∀(xb:Option Addr) (c:Nat),ys=[]→v= .slice xb 0 c→∃(xb:Option Addr) (c:Nat) (news:List Value),v= .slice xb ys.length c∧news.length=ys.length*sz∧Holds G E s news.toArray (.arr sz ys)∧(∀u∈news,(ys.all fun e=>e.all D.one)=true→u.oneCell'=true)∧
   (ju sz ys.length v).run P w= .ok news.toArray w∧(ju sz ys.length v).run P w.drew= .ok news.toArray w.drew:=by
  intro xb c hy hv;subst hy hv
  refine⟨xb,c,[],rfl,by simp,⟨by simp,by simp,by simp⟩,by simp,?_,?_⟩
  ·cases xb with
   |none=>exact run_firstCells_none w sz 0 0 c
   |some b=>exact run_firstCells_some w sz 0 b 0 c [] (by simp) (by simp)
  ·cases xb with
   |none=>exact run_firstCells_none w.drew sz 0 0 c
   |some b=>exact run_firstCells_some w.drew sz 0 b 0 c [] (by simp) (by simp)
 unfold ov at hd;split at hd
 ·simp only[ah,ay]at hd
  obtain⟨rfl,rfl⟩:=hd;cases hv;exact empty none 0 rfl rfl
 ·simp only[ah,ay]at hd
  obtain⟨rfl,rfl⟩:=hd;cases hv;exact empty _ _ rfl rfl
 ·simp only[ah,ay]at hd
  obtain⟨rfl,rfl⟩:=hd;simp only[j3]at hz;subst hz
  cases hv with
  |Tb=>exact empty none 0 rfl rfl
  |Uk=>exact empty _ _ rfl rfl
  | @dt _ _ b o c hc hs k1 k2=>
   refine main b o c hs (fun k=>(G.cv b (o+k)).getD undef) (fun i j hi hj=>?_) (fun i e j x he hx=>?_) rfl
   ·obtain⟨u,hu⟩:=jl.1 (k1 i j hi hj)
    rw[←p8,hu];exact h.gok.cv _ _ _ hu
   ·have hil:=(aq.1 he).1
    have hjl:j<_:=(aq.1 hx).1;rw[hs i e he]at hjl;obtain⟨u,hu⟩:=jl.1 (k1 i j hil hjl);rw[←p8,hu];exact k2 i e j x u he hx hu
 ·split at hd
  ·rename_i sz' els he
   split at hd
   ·rename_i hl
    simp only[ah,ay]at hd;obtain⟨rfl,rfl⟩:=hd;simp only[j3]at hz;subst hz;obtain⟨e1,e2⟩:=v7 he;obtain⟨_,k2⟩:=hv.2 e1 _ _ (tp e2);obtain⟨cap,c1,c2,rfl⟩:=k2 hl;subst hl;obtain⟨cells,et,hh,hn,hc,hw⟩:=h.va e2;obtain⟨h5,h6,h7⟩:=hc
    have iy:∀i j,i<els.length→j<sz'→i*sz'+j<cells.size:=by
     intro i j hi hj;have:(i+1)*sz'≤els.length*sz':=ep _ hi;rw[iw]at this;omega
    refine main _ 0 cap h6 (fun k=>(cells[k]?).getD undef) (fun i j hi hj=>?_) (fun i e j x he hx=>?_) rfl
    ·rw[eh,hw,av (iy i j hi hj)]
     rfl
    ·have hil:=(aq.1 he).1
     have hjl:j<_:=(aq.1 hx).1;rw[h6 i e he]at hjl;refine h7 i e j x _ he hx ?_;rw[av (iy i j hil hjl)];rfl
   ·cases hd
  ·cases hd
 ·rename_i id ver n o l
  split at hd
  ·rename_i sz' els he
   split at hd
   ·rename_i hl
    simp only[ah,ay]at hd;obtain⟨rfl,rfl⟩:=hd;simp only[j3]at hz;subst hz;obtain⟨e1,e2⟩:=v7 he;obtain⟨_,k2⟩:=hv.2.2 e1 _ _ (tp e2);obtain⟨C,cap,off,c1,c2,c3,c4,c5,rfl⟩:=k2 hl.1;obtain⟨hl1,hl2⟩:=hl;subst hl1
    have hlen:((els.drop o).take l).length=l:=by simp;omega
    rcases a34 l with hl0|hl0
    ·subst hl0
     exact empty _ _ (by simp) rfl
    ·have Tq:off=o*sz':=c5.resolve_left (fun h0=>absurd hl0 (by rw[h0]at c4;exact aGp.2 c4))
     subst Tq;obtain⟨cells,et,hh,hn,hc,hw⟩:=h.va e2;obtain⟨h5,h6,h7⟩:=hc
     have iy:∀i j,i<els.length→j<sz'→i*sz'+j<cells.size:=by
      intro i j hi hj;have:(i+1)*sz'≤els.length*sz':=ep _ hi;rw[iw]at this;omega
     have a7y:∀(i:Nat) (e:List D),((els.drop o).take l)[i]? =some e→els[o+i]? =some e:=by
      intro i e hi;rw[j0]at hi;split at hi
      ·rwa[lv]at hi
      ·cases hi
     have a7x:∀i j,o*sz'+(i*sz'+j)=(o+i)*sz'+j:=by intro i j;rw[iw];omega
     refine main _ (o*sz') cap (fun i e hi=>h6 _ e (a7y i e hi)) (fun k=>(cells[o*sz'+k]?).getD undef) (fun i j hi hj=>?_) (fun i e j x he hx=>?_) (by rw[hlen])
     ·rw[hlen]at hi
      have:=iy (o+i) j (by omega) hj
      rw[p8,hw,a7x,av this];rfl
     ·have he':=a7y i e he
      have hil:=(aq.1 he').1;have hjl:j<_:=(aq.1 hx).1;rw[h6 _ e he']at hjl;refine h7 (o+i) e j x _ he' hx ?_;rw[a7x,av (iy _ j hil hjl)];rfl
   ·cases hd
  ·cases hd
 ·cases hd
theorem ub.aal{c:C}{u:Value}(h:ub G E s c u)(hc:c.one s=true):u.oneCell'=true:=by
 cases c with
 |d x=>exact fh.aal h hc
 |ref id ver len=>
  simp only[C.one,V.live]at hc;split at hc
  ·rename_i sz n he
   obtain⟨e1,e2⟩:=Ef he;obtain⟨_,k2⟩:=h.2 e1 sz n e2
   obtain⟨cap,_,_,rfl⟩:=k2 (by simpa using hc)
   rfl
  ·cases hc
 |ku id ver=>
  simp only[C.one,V.live]at hc;obtain⟨es,he⟩:=jl.1 hc;obtain⟨e1,e2⟩:=D7 he
  have e:=h.2 e1 (by rw[e2];rfl)
  rw[e];rfl
 |ptr id ver off=>
  simp only[C.one,V.live]at hc;obtain⟨cs,he⟩:=jl.1 hc;obtain⟨e1,e2⟩:=s9 he;have e:=h.2 e1 ⟨_,e2,rfl⟩;rw[e];rfl
theorem Holds.ofD{cells:Array Value}{sz:Nat}{l:List (List D)}(h:Holds G E s cells (.arr sz l)):Holds G E s cells (.ny sz (l.map fun e=>e.map .d)):=h.elc (.inl ⟨l,rfl,rfl⟩)
theorem Holds.toD{cells:Array Value}{sz:Nat}{l:List (List D)}(h:Holds G E s cells (.ny sz (l.map fun e=>e.map .d))):Holds G E s cells (.arr sz l):=by
 obtain⟨h1,h2,h3⟩:=h
 refine⟨by simpa using h1,fun i e he=>?_,fun i e j x u he hx hu=>?_⟩
 ·have:=h2 i (e.map .d) (by simp[he])
  simpa using this
 ·exact h3 i (e.map .d) j (.d x) u (by simp[he]) (by simp[hx]) hu
theorem Holds.a8y{c1 c2 c3:Array Value}{sz:Nat}{els ys:List (List C)}(h1:Holds G E s c1 (.ny sz els))(he:c1.size=els.length*sz)(h2:Holds G E s c2 (.ny sz ys)):
  Holds G E s (c1++c2++c3) (.ny sz (els++ys)):=by
 obtain⟨a1,a2,a3⟩:=h1;obtain⟨b1,b2,b3⟩:=h2
 refine⟨by simp[iw];omega,fun i e hi=>?_,fun i e j x u hi hj hu=>?_⟩
 ·rw[Ku]at hi
  split at hi
  ·exact a2 i e hi
  ·exact b2 _ e hi
 ·rw[Ku]at hi
  split at hi
  ·rename_i iy
   have hj':j<sz:=by have:=a2 i e hi;have:=(aq.1 hj).1;omega
   have hb:(i+1)*sz≤els.length*sz:=ep _ iy;rw[iw,zn]at hb;refine a3 i e j x u hi hj ?_
   rw[Array.append_assoc,F7,if_pos (by omega)]at hu
   exact hu
  ·rename_i hge
   have hil:=(aq.1 hi).1
   have hj':j<sz:=by have:=b2 _ e hi;have:=(aq.1 hj).1;omega
   have hb:(i-els.length+1)*sz≤ys.length*sz:=ep _ hil;rw[iw,zn]at hb
   have hs:i*sz=els.length*sz+(i-els.length)*sz:=by rw[←iw];congr 1;omega
   refine b3 (i-els.length) e j x u hi hj ?_
   rw[F7,if_pos (by rw[T7];omega),F7,if_neg (by omega)]at hu
   rw[←hu]
   congr 1
   omega
theorem aox(h:i6 B0 w0 nt G0 s G E a w){y:V}{ys:List (List C)}{osz:Option Nat}{sz:Nat}(hd:Pz s y=some (ys,osz))(hz:osz.getD sz=sz){v:Value}(hv:fm G E s y v):
  ∃(xb:Option Addr) (c:Nat) (news:List Value),v= .slice xb ys.length c∧news.length=ys.length*sz∧Holds G E s news.toArray (.ny sz ys)∧((ys.all fun e=>e.all (C.one s))=true→∀u∈news,u.oneCell'=true)∧
   (ju sz ys.length v).run P w= .ok news.toArray w∧(ju sz ys.length v).run P w.drew= .ok news.toArray w.drew:=by
 have av7:∀{l:List (List D)},ov s y=some (l,osz)→ys=l.map (fun e=>e.map .d)→
   ∃(xb:Option Addr) (c:Nat) (news:List Value),v= .slice xb ys.length c∧news.length=ys.length*sz∧Holds G E s news.toArray (.ny sz ys)∧((ys.all fun e=>e.all (C.one s))=true→∀u∈news,u.oneCell'=true)∧
   (ju sz ys.length v).run P w= .ok news.toArray w∧(ju sz ys.length v).run P w.drew= .ok news.toArray w.drew:=by
  intro l hl e;subst e;obtain⟨xb,c,news,h1,h2,h3,h4,h5,h6⟩:=a1v (P:=P) h hl hz hv
  refine⟨xb,c,news,by simpa using h1,by simpa using h2,h3.ofD,fun ho u hu=>h4 u hu ?_,by simpa using h5,by simpa using h6⟩
  simp only[List.all_map,ck,Function.comp_apply]at ho⊢
  exact fun e he x hx=>ho e he x hx
 cases y with
 |d z=>
  cases z with
  |bd=>
   simp only[Pz,ah,ay]at hd;obtain⟨rfl,rfl⟩:=hd;exact av7 (l:=[]) rfl rfl
  |Kx=>
   simp only[Pz,ah,ay]at hd;obtain⟨rfl,rfl⟩:=hd;exact av7 (l:=[]) rfl rfl
  |dt sz' l=>
   simp only[Pz,ah,ay]at hd;obtain⟨rfl,rfl⟩:=hd;exact av7 (l:=l) rfl rfl
  |_=>cases hd
 |ref id ver len=>
  simp only[Pz]at hd;split at hd
  ·rename_i sz' els he
   split at hd
   ·rename_i hl
    simp only[ah,ay]at hd;obtain⟨rfl,rfl⟩:=hd;simp only[j3]at hz;subst hz;obtain⟨e1,b,e2,e3,e4⟩:=Fm he;obtain⟨_,k2⟩:=hv.2 e1 _ _ ((tp e2).trans e3);obtain⟨cap,c1,c2,rfl⟩:=k2 hl;subst hl;obtain⟨cells,et,hh,hn,hc,hw⟩:=h.va e2;obtain⟨h5,h6,h7⟩:=hc.elc e4
    have ab8:∀(w':World),(∀o,w'.cell? ⟨E.b id,o,none⟩=cells[o]?)→(ju sz' els.length (.slice (some ⟨E.b id,0,none⟩) els.length cap)).run P w'= .ok (cells.toList.take (els.length*sz')).toArray w':=by
     intro w' hw'
     refine run_firstCells_some w' sz' els.length _ _ cap _ (by simp;omega) fun j v hj=>?_
     rw[j0]at hj;split at hj
     ·rw[Cl,eh,hw'];simpa using hj
     ·cases hj
    refine⟨_,cap,cells.toList.take (els.length*sz'),rfl,by simp;omega,⟨by simp;omega,h6,fun i e j c u hi hj hu=>?_⟩,fun ho u hu=>?_,ab8 w hw,ab8 w.drew fun o=>by rw[World.cell?_drew,hw]⟩
    ·rw[xq,j0]at hu
     split at hu
     ·exact h7 i e j c u hi hj (by simpa using hu)
     ·cases hu
    ·obtain⟨k,hk⟩:=aEu hu
     rw[j0]at hk;split at hk
     ·rename_i iy
      have Yx:0<sz':=by
       rcases a34 sz' with h0|h0
       ·rw[h0]at iy;simp at iy
       ·exact h0
      have hi:k/sz'<els.length:=(aEi Yx).2 iy;have hj:k%sz'<sz':=a30 _ Yx;have he':els[k/sz']? =some els[k/sz']:=ao hi
      have hj':k%sz'<els[k/sz'].length:=by rw[h6 _ _ he'];exact hj
      have hkk:k/sz'*sz'+k%sz'=k:=by rw[aFx];exact Nat.div_add_mod k sz'
      have hr:=h7 _ _ _ _ u he' (ao hj') (by rw[hkk];simpa using hk)
      exact hr.aal (ck.1 (ck.1 ho _ (bz hi)) _ (bz hj'))
     ·cases hk
   ·cases hd
  ·cases hd
 |_=>cases hd
theorem Qn(xb:Option Addr)(n c:Nat)(w:World):(Builtin.lenOf (.slice xb n c)).run P w= .ok n w:=rfl
theorem a2o{t u e ty:TypeId}{i:TypeInfo}{z:Value}{eu:TypeId}(ht:P.underlying t=some (.slice e))(hu:P.underlying u=some (.slice eu))(hi:P.info? e=some i)(hz:i.zero=some z){args:Array Value}{Co:Array TypeId}
  {base:Option Addr}{Mb Yt n c:Nat}{xb:Option Addr}(ha0:args[0]? =some (.slice base Mb Yt))(ha1:args[1]? =some (.slice xb n c))(h0:Co[0]? =some t)(h1:Co[1]? =some u)
  {ayj news:List Value}(hro:(ju i.size Mb (.slice base Mb Yt)).run P w.drew= .ok ayj.toArray w.drew)(hrn:(ju i.size n (.slice xb n c)).run P w.drew= .ok news.toArray w.drew)
  (hg:Yt<Mb+n)(hb:(Mb+n)*i.bytes≤2^47)(hbp:0<i.bytes):
  (vq Co ty args).run P w= .ok (.slice (some ⟨w.heap.size,0,none⟩) (Mb+n) (grownCap w (Mb+n) Yt e))
   (w.drew.alloc (.cells (ayj.toArray++news.toArray++jm z.cells (grownCap w (Mb+n) Yt e-(Mb+n))) e)):=by
 have hn:¬(Mb+n≤Yt):=by omega
 have hle:Mb+n≤2^47:=gn (Nat.le_mul_of_pos_right _ hbp) hb
 have awt:¬(9223372036854775807<((Mb:Int)+(n:Int))):=by omega
 have awu:¬(281474976710656<aEz (Mb+n) Yt*i.bytes):=by
  have:=growslice_fits (need:=Mb+n) (old:=Yt) (bytes:=i.bytes) (by omega) (by omega)
  omega
 unfold vq;rw[ha0,ha1,h0,h1];simp[run_underlying ht,run_underlying hu,sizeOf,typeInfo,zeroValue,hi,hz,Qn,hn,awt,awu,Question.forced,hrn,hro,newRow,grownCap]
 congr 2
 apply Array.ext';simp[we]
theorem Yj{t u e ty:TypeId}{i:TypeInfo}{eu:TypeId}(ht:P.underlying t=some (.slice e))(hu:P.underlying u=some (.slice eu))(hi:P.info? e=some i){args:Array Value}{Co:Array TypeId}
  {g Mb Yt n c:Nat}{xb:Option Addr}(ha0:args[0]? =some (.slice (some ⟨g,0,none⟩) Mb Yt))(ha1:args[1]? =some (.slice xb n c))(h0:Co[0]? =some t)(h1:Co[1]? =some u)
  {news:List Value}{cur:Array Value}{et:TypeId}(hg:w.heap[g]? =some (.cells cur et (0,0)))(hrn:(ju i.size n (.slice xb n c)).run P w= .ok news.toArray w)(Ac:∀u∈news,u.oneCell'=true)
  (a18:Mb+n≤Yt)(Pl:Mb*i.size+news.length≤cur.size):
  (vq Co ty args).run P w= .ok (.slice (some ⟨g,0,none⟩) (Mb+n) Yt) (w.setRow g (cur.toList.take (Mb*i.size)++news++cur.toList.drop (Mb*i.size+news.length)).toArray):=by
 have tc:=run_storeCells_at P g (Mb*i.size) et news 0 cur w hg (by simpa using Pl) Ac
 simp only[xu]at tc;unfold vq;rw[ha0,ha1,h0,h1];simp[run_underlying ht,run_underlying hu,sizeOf,typeInfo,hi,Qn,a18,hrn,Cl,tc]
theorem Yk{t u e ty:TypeId}{i:TypeInfo}{eu:TypeId}(ht:P.underlying t=some (.slice e))(hu:P.underlying u=some (.slice eu))(hi:P.info? e=some i){args:Array Value}{Co:Array TypeId}
  {base:Option Addr}{c:Nat}{xb:Option Addr}(ha0:args[0]? =some (.slice base 0 0))(ha1:args[1]? =some (.slice xb 0 c))(h0:Co[0]? =some t)(h1:Co[1]? =some u)
  (hrn:(ju i.size 0 (.slice xb 0 c)).run P w= .ok #[] w):
  (vq Co ty args).run P w= .ok (.slice base 0 0) w:=by
 unfold vq;rw[ha0,ha1,h0,h1];cases base<;>simp[run_underlying ht,run_underlying hu,sizeOf,typeInfo,hi,Qn,hrn,storeCells]
end
section
variable{P:Program}{B0 nt:Nat}{w0 w w':World}{G0 G G':fc}{s s':PS}{E E':Env}{a:Act}
def po(P:Program)(B0 nt:Nat)(w0:World)(G0:fc)(a:Act)(w:World)(dst:Option Nat)(run:Result Next)(s':PS):Prop:=
 ∃(n:Next) (v:Value) (w':World) (G':fc) (E':Env) (st:PS) (x:V),run= .ok n w'∧(n= .value v∨(n= .skip∧v=undef))∧i6 B0 w0 nt G0 st G' E' a w'∧fm G' E' st x v∧s'=st.put dst x
theorem po.val{run:Result Next}{v:Value}{x:V}{dst:Option Nat}(h:i6 B0 w0 nt G0 s G E a w)(hr:run= .ok (.value v) w)(hv:fm G E s x v):po P B0 nt w0 G0 a w dst run (kn.app dst s (.val x)):=
 ⟨_,v,w,G,E,s,x,hr,.inl rfl,h,hv,rfl⟩
theorem yu{id sz len n:Nat}{b:B}{cap:Nat}{g:Nat}(hb:s'.bm id=some b)(hd:b.Bg=some (sz,n))(hE:E'.b id=g)(hn:E'.n id=cap*sz)(hl:n=len)(hc:len≤cap):
  fm G' E' s' (.ref id (s'.ver id) len) (.slice (some ⟨g,0,none⟩) len cap):=by
 refine⟨ar _,fun _ sz' n' ow=>?_⟩
 rw[tp hb,hd]at ow;simp only[ah,ay]at ow;obtain⟨rfl,rfl⟩:=ow
 exact⟨by omega,fun _=>⟨cap,hn,hc,by rw[hE]⟩⟩
theorem Xn(h:i6 B0 w0 nt G0 s G E a w){t u e ty:TypeId}{i:TypeInfo}{z:Value}{eu:TypeId}(ht:P.underlying t=some (.slice e))(hu:P.underlying u=some (.slice eu))(hi:P.info? e=some i)(hz:i.zero=some z)
  (hbp:0<i.bytes)(hzz:z.cells.size=i.size){args:Array Value}{Co:Array TypeId}{base xb:Option Addr}{c m:Nat}{ys:List (List C)}{news:List Value}
  (ha0:args[0]? =some (.slice base 0 0))(ha1:args[1]? =some (.slice xb m c))(h0:Co[0]? =some t)(h1:Co[1]? =some u)(hm:m=ys.length)
  (hnl:news.length=ys.length*i.size)(hnh:Holds G E s news.toArray (.ny i.size ys))(hr2:(ju i.size m (.slice xb m c)).run P w.drew= .ok news.toArray w.drew)
  (kg:ys.length≠0)(hb:ys.length*i.bytes≤2^47)(id:Nat){nb:B}(hd:nb.Bg=some (i.size,ys.length))(xp:∀cells,Holds G E s cells (.ny i.size ys)→Holds G E s cells nb):
  ∃v w' E',(vq Co ty args).run P w= .ok v w'∧i6 B0 w0 nt G0 {s with bm:=jf s.bm id (some nb),ver:=jf s.ver id (s.ver id+1)} G E' a w'∧
   fm G E' {s with bm:=jf s.bm id (some nb),ver:=jf s.ver id (s.ver id+1)} (.ref id (s.ver id+1) ys.length) v∧
   E'.m=E.m∧∀(g:Nat) (en:Array MapEntry) (cl:Nat),w.heap[g]? =some (Obj.map en cl)→w'.heap[g]? =some (Obj.map en cl):=by
 subst hm
 have hro:(ju i.size 0 (.slice base 0 0)).run P w.drew= .ok ([]:List Value).toArray w.drew:=by
  cases base with
  |none=>exact run_firstCells_none w.drew i.size 0 0 0
  |some b=>exact run_firstCells_some w.drew i.size 0 b 0 0 [] (by simp) (by simp)
 have run:=a2o (ty:=ty) ht hu hi hz ha0 ha1 h0 h1 hro hr2 (by omega) (by rw[eh];exact hb) hbp
 simp only[eh]at run
 have Qt:Holds G E s (([]:List Value).toArray++news.toArray++jm z.cells (grownCap w ys.length 0 e-ys.length)) (.ny i.size ys):=by
  have:=Holds.a8y (c1:= #[]) (c3:=jm z.cells (grownCap w ys.length 0 e-ys.length)) (els:=[]) (⟨by simp,by simp,by simp⟩:Holds G E s #[] (.ny i.size [])) (by simp) hnh
  simpa using this
 have hf:=h.drew.new id nb _ e (xp _ Qt);have hge:=grownCap_ge w ys.length 0 e
 refine⟨_,_,_,run,hf,?_,rfl,fun g en cl hg=>(yw _ _ _ (j4.1 hg).1).trans hg⟩
 have:=yu (G':=G) (s':={s with bm:=jf s.bm id (some nb),ver:=jf s.ver id (s.ver id+1)})
  (E':={E with b:=jf E.b id w.drew.heap.size,n:=jf E.n id (([]:List Value).toArray++news.toArray++jm z.cells (grownCap w ys.length 0 e-ys.length)).size}) (id:=id) (sz:=i.size) (len:=ys.length) (cap:=grownCap w ys.length 0 e) (g:=w.heap.size)
  (bh _ _ _) hd (bh _ _ _) (by
   show jf E.n id _ id=_;rw[bh];simp only[T7,T5,dh,eh,size_zeroCells,hnl,hzz];rw[←iw]
   congr 1
   omega) rfl hge
 have hv:jf s.ver id (s.ver id+1) id=s.ver id+1:=bh _ _ _;simpa[hv]using this
theorem a2p(h:i6 B0 w0 nt G0 s G E a w){t u e ty:TypeId}{i:TypeInfo}{z:Value}{eu:TypeId}(ht:P.underlying t=some (.slice e))(hu:P.underlying u=some (.slice eu))(hi:P.info? e=some i)(hz:i.zero=some z)
  (hbp:0<i.bytes)(hzz:z.cells.size=i.size){args:Array Value}{Co:Array TypeId}{vx:Value}{xb:Option Addr}{c m:Nat}{ys:List (List C)}{news:List Value}
  (ha0:args[0]? =some vx)(ha1:args[1]? =some (.slice xb m c))(h0:Co[0]? =some t)(h1:Co[1]? =some u)(hm:m=ys.length)
  (hnl:news.length=ys.length*i.size)(hnh:Holds G E s news.toArray (.ny i.size ys))(C4:∀u∈news,u.oneCell'=true)
  (hr1:(ju i.size m (.slice xb m c)).run P w= .ok news.toArray w)(hr2:(ju i.size m (.slice xb m c)).run P w.drew= .ok news.toArray w.drew)
  {id ver:Nat}{els:List (List C)}(hle:s.elc id ver=some (i.size,els))(hx:fm G E s (.ref id ver els.length) vx)(hb:(els.length+ys.length)*i.bytes≤2^47)
  {nb:B}(hd:nb.Bg=some (i.size,els.length+ys.length))(xp:∀cells,Holds G E s cells (.ny i.size (els++ys))→Holds G E s cells nb)(hiv:nb.isVar=false):
  ∃v w' E',(vq Co ty args).run P w= .ok v w'∧i6 B0 w0 nt G0 {s with bm:=jf s.bm id (some nb)} G E' a w'∧
   fm G E' {s with bm:=jf s.bm id (some nb)} (.ref id ver (els.length+ys.length)) v∧
   E'.m=E.m∧∀(g:Nat) (en:Array MapEntry) (cl:Nat),w.heap[g]? =some (Obj.map en cl)→w'.heap[g]? =some (Obj.map en cl):=by
 subst hm;obtain⟨e1,b,e2,e3,e4⟩:=Fm hle;obtain⟨_,k2⟩:=hx.2 e1 _ _ ((tp e2).trans e3);obtain⟨cap,c1,c2,rfl⟩:=k2 rfl;obtain⟨cells,et,hh,hn,hc,hw⟩:=h.va e2;obtain⟨h5,h6,h7⟩:=hc.elc e4
 have hbv:b.isVar=false:=by rcases e4 with ⟨_,rfl,_⟩|rfl<;>rfl
 have htk:Holds G E s (cells.toList.take (els.length*i.size)).toArray (.ny i.size els):=by
  refine⟨by simp;omega,h6,fun k e j x u hk hj hu=>h7 k e j x u hk hj ?_⟩
  rw[xq,j0]at hu;split at hu
  ·simpa using hu
  ·cases hu
 have awd:(cells.toList.take (els.length*i.size)).toArray.size=els.length*i.size:=by simp;omega
 by_cases a18:els.length+ys.length≤cap
 ·have Pl:els.length*i.size+news.length≤cells.size:=by
   refine gn ?_ hn;rw[c1,hnl,←iw];exact ep _ a18
  have run:=Yj (ty:=ty) ht hu hi ha0 ha1 h0 h1 hh hr1 C4 a18 Pl
  have hh2:Holds G E s (cells.toList.take (els.length*i.size)++news++cells.toList.drop (els.length*i.size+news.length)).toArray (.ny i.size (els++ys)):=by
   have:=Holds.a8y (c3:=(cells.toList.drop (els.length*i.size+news.length)).toArray) htk awd hnh;simpa using this
  have hal:Alike b nb:=⟨hbv.trans hiv.symm,fun sz' n' h'=>by
   rw[hd]at h';simp only[ah,ay]at h';obtain⟨rfl,rfl⟩:=h'
   exact⟨_,e3,by omega⟩⟩
  have hf:=h.set e2 hal (y9.setRow hh _) (by simp;omega) (xp _ hh2)
  refine⟨_,_,E,run,hf,?_,rfl,fun g en cl hg=>?_⟩
  rotate_left
  ·refine((y9.setRow hh _).other g fun e=>?_).trans hg
   rw[e,hh]at hg;cases hg
  subst e1
  exact yu (s':={s with bm:=jf s.bm id (some nb)}) (bh _ _ _) hd rfl c1 rfl a18
 ·have Yx:0<ys.length:=by omega
  have hro:(ju i.size els.length (.slice (some ⟨E.b id,0,none⟩) els.length cap)).run P w.drew= .ok (cells.toList.take (els.length*i.size)).toArray w.drew:=by
   refine run_firstCells_some w.drew i.size els.length _ _ cap _ (by simp;omega) fun j v hj=>?_
   rw[j0]at hj;split at hj
   ·rw[Cl,eh,World.cell?_drew,hw];simpa using hj
   ·cases hj
  have run:=a2o (ty:=ty) ht hu hi hz ha0 ha1 h0 h1 hro hr2 (by omega) hb hbp
  have hh2:Holds G E s ((cells.toList.take (els.length*i.size)).toArray++news.toArray++jm z.cells (grownCap w (els.length+ys.length) cap e-(els.length+ys.length))) (.ny i.size (els++ys)):=Holds.a8y htk awd hnh
  have hf:=h.drew.avq e2 e3 hd (by omega) _ e (xp _ hh2)
  have hge:=grownCap_ge w (els.length+ys.length) cap e
  refine⟨_,_,_,run,hf,?_,rfl,fun g en cl hg=>(yw _ _ _ (j4.1 hg).1).trans hg⟩
  subst e1
  refine yu (s':={s with bm:=jf s.bm id (some nb)}) (cap:=grownCap w (els.length+ys.length) cap e) (bh _ _ _) hd (bh _ _ _) ?_ rfl hge
  show jf E.n id _ id=_;rw[bh];simp only[T7,awd,T5,size_zeroCells,hnl,hzz];rw[←iw,←iw]
  congr 1
  omega
theorem Holds.aDj{cells:Array Value}{sz m:Nat}{els:List (List D)}(h:Holds G E s cells (.arr sz els)):Holds G E s (cells.toList.take (m*sz)).toArray (.arr sz (els.take m)):=by
 obtain⟨h1,h2,h3⟩:=h
 have hl:(els.take m).length*sz≤(cells.toList.take (m*sz)).length:=by
  have:(els.take m).length*sz≤els.length*sz:=ep _ (aq8 _ _);have:(els.take m).length*sz≤m*sz:=ep _ (List.length_take_le _ _)
  simp only[dd,rh]at*
  omega
 refine⟨by simpa using hl,fun i e hi=>?_,fun i e j x u hi hj hu=>?_⟩
 ·rw[j0]at hi
  split at hi
  ·exact h2 i e hi
  ·cases hi
 ·rw[j0]at hi
  split at hi
  ·rw[xq,j0]at hu
   split at hu
   ·exact h3 i e j x u hi hj (by simpa using hu)
   ·cases hu
  ·cases hi
theorem Holds.aA3{cells:Array Value}{sz m:Nat}{els:List (List D)}(h:Holds G E s cells (.arr sz els)):Holds G E s (cells.toList.drop (m*sz)).toArray (.arr sz (els.drop m)):=by
 obtain⟨h1,h2,h3⟩:=h
 refine⟨?_,fun i e hi=>?_,fun i e j x u hi hj hu=>?_⟩
 ·simp only[qn,T5,rh,Nat.sub_mul]
  omega
 ·rw[lv]at hi
  exact h2 _ e hi
 ·rw[lv]at hi
  rw[xq,lv]at hu;refine h3 (m+i) e j x u hi hj ?_
  have e1:(m+i)*sz+j=m*sz+(i*sz+j):=by rw[iw];omega
  rw[e1];simpa using hu
theorem Holds.alk{cells:Array Value}{sz k:Nat}{els ys:List (List D)}{news:List Value}(h:Holds G E s cells (.arr sz els))(hl:k+ys.length≤els.length)(hnl:news.length=ys.length*sz)(hn:Holds G E s news.toArray (.arr sz ys)):
  Holds G E s (cells.toList.take (k*sz)++news++cells.toList.drop (k*sz+news.length)).toArray (.arr sz (els.take k++ys++els.drop (k+ys.length))):=by
 have hc:k*sz≤cells.size:=by
  have:k*sz≤els.length*sz:=ep _ (by omega)
  have:=h.1;omega
 have h1:=(h.aDj (m:=k)).append (c3:= #[]) (by simp only[T5,dd,rh];rw[ag5 hc,ag5 (by omega)]) hn
 have h2:=h.aA3 (m:=k+ys.length)
 have h3:=h1.append (c3:= #[]) (by simp only[T7,T5,dd,rh,cb,hnl];rw[ag5 hc,ag5 (by omega),iw];rfl) h2
 have e:k*sz+news.length=(k+ys.length)*sz:=by rw[hnl,iw]
 rw[e];simpa using h3
theorem a2q(h:i6 B0 w0 nt G0 s G E a w){t u e ty:TypeId}{i:TypeInfo}{z:Value}{eu:TypeId}(ht:P.underlying t=some (.slice e))(hu:P.underlying u=some (.slice eu))(hi:P.info? e=some i)(hz:i.zero=some z)
  (hbp:0<i.bytes)(hzz:z.cells.size=i.size){args:Array Value}{Co:Array TypeId}{x y:V}{vx vy:Value}(ha0:args[0]? =some vx)(ha1:args[1]? =some vy)(h0:Co[0]? =some t)(h1:Co[1]? =some u)
  (hx:fm G E s x vx)(hy:fm G E s y vy){d:Nat}{dst:Option Nat}{ids:List Nat}{ef:kn}(he:O2 s d i.size i.bytes x y=some (ids,ef)):
  po P B0 nt w0 G0 a w dst (((vq Co ty args).run P w).andThen fun v w=> .ok (.value v) w) (ef.app dst (s.sn ids)):=by
 unfold O2 at he;split at he
 ·rename_i ys osz aog
  split at he
  ·rename_i Lt
   obtain⟨ao9,Ac⟩:=Lt;obtain⟨xb,c,news,rfl,hnl,hnh,C4,hr1,hr2⟩:=aox (P:=P) h aog ao9 hy;split at he
   ·cases hx
    split at he
    ·rename_i h0'
     simp only[ah,kn.qj,ay]at he;obtain⟨rfl,rfl⟩:=he;have hys:ys=[]:=jb h0';subst hys
     have aoa:news=[]:=jb (by simpa using hnl)
     subst aoa;have run:=Yk (ty:=ty) ht hu hi ha0 ha1 h0 h1 hr1;rw[run];exact po.val h rfl fh.bd
    ·rename_i h0'
     split at he
     ·rename_i hb
      simp only[ah,ay]at he;obtain⟨rfl,rfl⟩:=he
      obtain⟨v,w',E',k1,k2,k3,_⟩:=Xn (ty:=ty) h ht hu hi hz hbp hzz ha0 ha1 h0 h1 rfl hnl hnh hr2 h0' hb d (nb:= .ny i.size ys) rfl (fun _ q=>q)
      rw[k1];exact⟨_,v,w',G,E',_,_,rfl,.inl rfl,k2,k3,rfl⟩
     ·cases he
   ·rename_i id ver n0
    split at he
    ·rename_i sz' els hle
     split at he
     ·rename_i hc
      simp only[ah,ay]at he;obtain⟨rfl,rfl⟩:=he;obtain⟨rfl,rfl,hb⟩:=hc
      obtain⟨v,w',E',k1,k2,k3,_⟩:=a2p (ty:=ty) h ht hu hi hz hbp hzz ha0 ha1 h0 h1 rfl hnl hnh (C4 Ac) hr1 hr2 hle hx hb (nb:= .ny i.size (els++ys)) (by simp[B.Bg]) (fun _ q=>q) rfl
      rw[k1];exact⟨_,v,w',G,E',_,_,rfl,.inl rfl,k2,k3,rfl⟩
     ·cases he
    ·cases he
   ·cases he
  ·cases he
 ·cases he
theorem apt{ys:List (List D)}(h:(ys.all fun e=>e.all D.one)=true):((ys.map fun e=>e.map C.d).all fun e=>e.all (C.one s))=true:=by
 simp only[ck,jc]at h⊢;rintro e ⟨e',he',rfl⟩ c hc;obtain⟨x,hx,rfl⟩:=jc.1 hc;exact h e' he' x hx
theorem akz(h:i6 B0 w0 nt G0 s G E a w){t u e ty:TypeId}{i:TypeInfo}{z:Value}{eu:TypeId}(ht:P.underlying t=some (.slice e))(hu:P.underlying u=some (.slice eu))(hi:P.info? e=some i)(hz:i.zero=some z)
  (C3:0<i.size)(hbp:0<i.bytes)(hzz:z.cells.size=i.size){args:Array Value}{Co:Array TypeId}{x y:lb}{vx vy:Value}(ha0:args[0]? =some vx)(ha1:args[1]? =some vy)(h0:Co[0]? =some t)(h1:Co[1]? =some u)
  (hx:fm G E s (x.ev s) vx)(hy:fm G E s (y.ev s) vy){d:Nat}{dst:Option Nat}{ids:List Nat}{ef:kn}(he:(j6.app i.size i.bytes x y).ml d s=some (ids,ef)):
  po P B0 nt w0 G0 a w dst (((vq Co ty args).run P w).andThen fun v w=> .ok (.value v) w) (ef.app dst (s.sn ids)):=by
 simp only[j6.ml]at he;split at he
 ·rename_i ys osz aog
  split at he
  ·rename_i ao9
   obtain⟨xb,c,news,rfl,hnl,hnh,C4,hr1,hr2⟩:=a1v (P:=P) h aog ao9 hy;split at he
   ·rename_i hxe
    rw[hxe]at hx;cases hx;split at he
    ·rename_i h0'
     simp only[ah,kn.qj,ay]at he;obtain⟨rfl,rfl⟩:=he;have hys:ys=[]:=jb h0';subst hys
     have aoa:news=[]:=jb (by simpa using hnl)
     subst aoa;have run:=Yk (ty:=ty) ht hu hi ha0 ha1 h0 h1 hr1;rw[run];exact po.val h rfl fh.bd
    ·rename_i h0'
     split at he
     ·rename_i hb
      simp only[ah,ay]at he;obtain⟨rfl,rfl⟩:=he
      obtain⟨v,w',E',k1,k2,k3,_⟩:=Xn (ty:=ty) h ht hu hi hz hbp hzz (ys:=ys.map fun e=>e.map .d) ha0 ha1 h0 h1 (by simp) (by simpa using hnl) hnh.ofD hr2 (by simpa using h0') (by simpa using hb) d (nb:= .arr i.size ys) (by simp[B.Bg]) (fun _ q=>q.toD)
      rw[k1];simp only[ae]at k3;exact⟨_,v,w',G,E',_,_,rfl,.inl rfl,k2,k3,rfl⟩
     ·cases he
   ·rename_i id ver n0 hxe
    rw[hxe]at hx;split at he
    ·rename_i sz' els hle
     split at he
     ·rename_i hc
      simp only[ah,ay]at he;obtain⟨rfl,rfl⟩:=he;obtain⟨Ac,rfl,rfl,hb⟩:=hc
      obtain⟨v,w',E',k1,k2,k3,_⟩:=a2p (ty:=ty) h ht hu hi hz hbp hzz (ys:=ys.map fun e=>e.map .d) ha0 ha1 h0 h1 (by simp) (by simpa using hnl) hnh.ofD (fun u hu=>C4 u hu Ac) hr1 hr2 (a1w hle) (by simpa using hx) (by simpa using hb)
       (nb:= .arr i.size (els++ys)) (by simp[B.Bg]) (fun _ q=>Holds.toD (by simpa using q)) rfl
      rw[k1];simp only[ae]at k3;exact⟨_,v,w',G,E',_,_,rfl,.inl rfl,k2,k3,rfl⟩
     ·cases he
    ·exact a2q h ht hu hi hz hbp hzz ha0 ha1 h0 h1 hx hy he
   ·rename_i id ver n o k hxe
    rw[hxe]at hx;split at he
    ·rename_i sz' els hle
     split at he
     ·rename_i hc
      simp only[ah,ay]at he;obtain⟨rfl,rfl⟩:=he;obtain⟨Ac,rfl,hl1,rfl,hl2⟩:=hc;obtain⟨e1,e2⟩:=v7 hle;obtain⟨hn0,_,k2⟩:=hx;obtain⟨_,k3⟩:=k2 e1 _ _ (tp e2);obtain⟨C,cap,off,c1,c2,c3,c4,c5,rfl⟩:=k3 hl1;obtain⟨hn1,hn2⟩:=hn0
      have abg:cap≠0:=fun h0=>by rw[h0]at c2;exact aGp.2 c2 (by rw[xu];exact hn2)
      have Tq:off=0:=by rw[c5.resolve_left abg,aht]
      subst Tq;obtain⟨cells,et,hh,hn,hc,hw⟩:=h.va e2
      have aDv:cap*i.size≤C*i.size:=ep _ (by omega)
      have hk':(k+ys.length)*i.size≤cap*i.size:=ep _ (by omega)
      have Pl:k*i.size+news.length≤cells.size:=by
       rw[hnl,←iw];omega
      have run:=Yj (ty:=ty) ht hu hi ha0 ha1 h0 h1 hh hr1 (fun u hu=>C4 u hu Ac) (by omega) Pl
      have hh2:=hc.alk (k:=k) (ys:=ys) (news:=news) (by omega) hnl hnh
      have hlen:(els.take k++ys++els.drop (k+ys.length)).length=els.length:=by simp;omega
      have hal:Alike (.arr i.size els) (.arr i.size (els.take k++ys++els.drop (k+ys.length))):=Alike.arr (by omega)
      have hf:=h.set e2 hal (y9.setRow hh _) (by simp;omega) hh2
      rw[run]
      refine⟨_,_,_,G,E,_,.win id ver n 0 (k+ys.length),rfl,.inl rfl,hf,⟨⟨by omega,hn2⟩,aFf e1.symm,fun _ sz' m hd=>?_⟩,rfl⟩
      simp only[PS.Bg,bh,a62,B.Bg,ah,ay]at hd;obtain⟨rfl,rfl⟩:=hd
      exact⟨by omega,fun _=>⟨C,cap,0,c1,c2,c3,by omega,.inr (aht _).symm,rfl⟩⟩
     ·cases he
    ·cases he
   ·cases he
  ·cases he
 ·exact a2q h ht hu hi hz hbp hzz ha0 ha1 h0 h1 hx hy he
end
section
variable{P:Program}{B0 nt:Nat}{w0 w w':World}{G0 G G':fc}{s s':PS}{E E':Env}{a:Act}
theorem aor(off:Nat):∀(l:List Value) (k:Nat) (cells:Array Value) (m:Nat),off+k+l.length≤cells.size→
  ((l.zipIdx k).foldl (fun cs p=>cs.setIfInBounds (off+p.2) p.1) cells).size=cells.size∧
  ((l.zipIdx k).foldl (fun cs p=>cs.setIfInBounds (off+p.2) p.1) cells)[m]? =if off+k≤m∧m<off+k+l.length then l[m-off-k]? else cells[m]? :=by
 intro l
 induction l with
 |nil=>intro k cells m h;simp;intro h1 h2;omega
 |cons v l ih=>
  intro k cells m h;simp only[List.zipIdx_cons,ya,bq]at h⊢
  obtain⟨i1,i2⟩:=ih (k+1) (cells.setIfInBounds (off+k) v) m (by simp;omega)
  refine⟨by rw[i1];simp,?_⟩
  rw[i2];by_cases h1:off+(k+1)≤m∧m<off+(k+1)+l.length
  ·rw[if_pos h1,if_pos (by omega)]
   have:m-off-k=(m-off-(k+1))+1:=by omega
   rw[this,jx]
  ·rw[if_neg h1]
   by_cases h2:m=off+k
   ·subst h2
    rw[if_pos (by omega),Qd,if_pos (by omega)]
    have:off+k-off-k=0:=by omega
    rw[this];rfl
   ·rw[if_neg (by omega),T8 (by omega)]
theorem af0(v:Value)(off:Nat)(cells:Array Value)(h:off+v.cells.size≤cells.size):
  v.cells.zipIdx.foldl (fun cs (p:Value×Nat)=>cs.setIfInBounds (off+p.2) p.1) cells=(patch cells.toList off v.cells.toList).toArray:=by
 have hz:v.cells.zipIdx.foldl (fun cs (p:Value×Nat)=>cs.setIfInBounds (off+p.2) p.1) cells=(v.cells.toList.zipIdx 0).foldl (fun cs p=>cs.setIfInBounds (off+p.2) p.1) cells:=by
  rw[←Array.foldl_toList];simp
 rw[hz]
 have hl:off+v.cells.toList.length≤cells.toList.length:=by simpa using h
 apply Array.ext_getElem?;intro m
 have e:(patch cells.toList off v.cells.toList).toArray[m]? =(patch cells.toList off v.cells.toList)[m]? :=by simp
 rw[(aor off v.cells.toList 0 cells m (by simpa using h)).2,e,Bu _ _ _ hl]
 simp
def Lb(G:fc)(E:Env)(s:PS)(cs:List C)(us:Array Value):Prop:=us.size=cs.length∧∀(i:Nat) (c:C) (u:Value),cs[i]? =some c→us[i]? =some u→ub G E s c u
theorem Lb.patch{cs xs:List C}{us vs:Array Value}{off:Nat}(h:Lb G E s cs us)(hx:Lb G E s xs vs)(hl:off+xs.length≤cs.length):Lb G E s (patch cs off xs) (patch us.toList off vs.toList).toArray:=by
 obtain⟨a1,a2⟩:=h;obtain⟨b1,b2⟩:=hx
 have hv:off+vs.toList.length≤us.toList.length:=by simp;omega
 refine⟨by simp[om _ _ _ hv,om _ _ _ hl,a1],fun i c u hc hu=>?_⟩
 rw[Bu _ _ _ hl]at hc;rw[xq,Bu _ _ _ hv]at hu;simp only[rh,b1]at hu;split at hc
 ·rename_i hin
  rw[if_pos hin]at hu
  exact b2 _ c u hc (by simpa using hu)
 ·rename_i hin
  rw[if_neg hin]at hu
  exact a2 i c u hc (by simpa using hu)
theorem Vn{place:Nat→Option (Nat×Nat)}{ev:Operand→Value}:∀{l:List (Nat×Operand)} {ps:List (Nat×Nat×List C)} {cs out:List C} {us:Array Value},
  ps.length=l.length→(∀(i:Nat) (p:Nat×Operand) (q:Nat×Nat×List C),l[i]? =some p→ps[i]? =some q→place p.1=some (q.1,q.2.1)∧Lb G E s q.2.2 (ev p.2).cells)→
  Ju cs ps=some out→Lb G E s cs us→∃vs,Instr.fill place us (l.map fun p=>(p.1,ev p.2))=some vs∧Lb G E s out vs:=by
 intro l
 induction l with
 |nil=>
  intro ps cs out us hl hp hf hr
  cases ps with
  |nil=>simp only[Ju,ah]at hf;subst hf;exact⟨us,rfl,hr⟩
  |cons _ _=>simp at hl
 |cons p l ih=>
  intro ps cs out us hl hp hf hr
  cases ps with
  |nil=>simp at hl
  |cons q ps=>
   obtain⟨o,n,xs⟩:=q;simp only[Ju]at hf;split at hf
   ·rename_i hc
    obtain⟨k1,k2⟩:=hp 0 p (o,n,xs) rfl rfl;simp only at k1 k2;simp only[cu,Instr.fill,k1];have C3:=k2.1;have hus:=hr.1
    rw[if_neg (by simp;omega)]
    rw[af0 _ _ _ (by omega)]
    exact ih (by simpa using hl) (fun i p' q' h1 h2=>hp (i+1) p' q' (by simpa using h1) (by simpa using h2)) hf (hr.patch k2 (by omega))
   ·cases hf
theorem ah0{cs:List C}{us:Array Value}(h:Lb G E s cs us):fm G E s (mkv true cs) (.agg us):=by
 unfold mkv
 cases hd:J4 cs with
 |some ds=>
  have e:=P4 hd;subst e
  exact fh.agg (by simpa using h.1) fun i x v hx hv=>h.2 i (.d x) v (by simp[hx]) hv
 |none=>exact Cv.2 ⟨us,rfl,h.1,h.2⟩
theorem ap3:∀{l:List Value} {ds:List D},ac7 l=some ds→∀(w0 w:World) (h:i6 B0 w0 nt G0 s G E a w),l.length=ds.length∧∀(i:Nat) (x:D) (v:Value),ds[i]? =some x→l[i]? =some v→fh G x v:=by
 intro l ds hd w0 w h
 have hv:U3 (.agg l.toArray)=some (.agg ds):=by simp[U3,hd]
 have:=h.ev (x:= .const (.agg l.toArray)) (o:= .c (.agg ds)) (by simp[ta,hv])
 cases this with
 |agg hl hh=>exact⟨by simpa using hl,fun i x v hx hv=>hh i x v hx (by simpa using hv)⟩
theorem Dj{t:TypeId}{z:List D}(hz:Dk P t=some z)(h:i6 B0 w0 nt G0 s G E a w):∃v,(P.info? t).bind (·.zero)=some v∧(∀w,(zeroValue t).run P w= .ok v w)∧Lb G E s (z.map .d) v.cells:=by
 unfold Dk at hz;split at hz
 ·rename_i v hv
  obtain⟨k1,k2⟩:=ap3 hz w0 w h
  refine⟨v,hv,fun w=>?_,by simpa using k1,fun i c u hc hu=>?_⟩
  ·cases hi:P.info? t with
   |none=>rw[hi]at hv;cases hv
   |some i=>
    rw[hi]at hv;simp only[a62]at hv;simp[zeroValue,typeInfo,hi,hv]
  ·simp only[bp,ak]at hc
   obtain⟨x,hx,rfl⟩:=hc
   exact k2 i x u hx (by simpa using hu)
 ·cases hz
theorem Wm(h:i6 B0 w0 nt G0 s G E a w){get:Nat→Operand→Option (Nat×Nat)}:
  ∀{l:List (Nat×Operand)} {qs:List (Nat×Nat×lb)} {ps:List (Nat×Nat×List C)},qs.length=l.length→
   (∀(i:Nat) (p:Nat×Operand) (q:Nat×Nat×lb),l[i]? =some p→qs[i]? =some q→get p.1 p.2=some (q.1,q.2.1)∧ta p.2=some q.2.2)→Hl s qs=some ps→
   ps.length=l.length∧∀(i:Nat) (p:Nat×Operand) (q:Nat×Nat×List C),l[i]? =some p→ps[i]? =some q→get p.1 p.2=some (q.1,q.2.1)∧Lb G E s q.2.2 (a.eval p.2).cells:=by
 intro l
 induction l with
 |nil=>
  intro qs ps hl _ hp
  cases qs with
  |nil=>simp only[Hl,ah]at hp;subst hp;simp
  |cons _ _=>simp at hl
 |cons p l ih=>
  intro qs ps hl hq hp
  cases qs with
  |nil=>simp at hl
  |cons q qs=>
   obtain⟨o,n,x⟩:=q;simp only[Hl]at hp;split at hp
   ·rename_i cs ps' h1 h2
    injection hp with hp
    subst hp
    obtain⟨i1,i2⟩:=ih (by simpa using hl) (fun i p' q' a b=>hq (i+1) p' q' (by simpa using a) (by simpa using b)) h2
    refine⟨by simp[i1],fun i p' q' hp' hq'=>?_⟩
    cases i with
    |zero=>
     simp at hp' hq';subst hp' hq';obtain⟨k1,k2⟩:=hq 0 p (o,n,x) rfl rfl;obtain⟨c1,c2⟩:=P1 h1 (h.ev k2);exact⟨k1,c1,c2⟩
    |succ i=>simp at hp' hq';exact i2 i p' q' hp' hq'
   ·cases hp
theorem abu{fs:Array Field}:∀{l:List (Nat×Operand)} {qs:List (Nat×Nat×lb)},Xd P fs l=some qs→qs.length=l.length∧
  ∀(i:Nat) (p:Nat×Operand) (q:Nat×Nat×lb),l[i]? =some p→qs[i]? =some q→(∃f,fs[p.1]? =some f∧f.offset=q.1∧ji P f.type=some q.2.1)∧ta p.2=some q.2.2:=by
 intro l
 induction l with
 |nil=>intro qs h;simp only[Xd,ah]at h;subst h;simp
 |cons p l ih=>
  intro qs h;obtain⟨j,x⟩:=p;simp only[Xd]at h;split at h
  ·rename_i f o l' h1 h2 h3
   split at h
   ·rename_i n hn
    injection h with h
    subst h;obtain⟨i1,i2⟩:=ih h3
    refine⟨by simp[i1],fun i p' q' hp' hq'=>?_⟩
    cases i with
    |zero=>simp at hp' hq';subst hp' hq';exact⟨⟨f,h1,rfl,hn⟩,h2⟩
    |succ i=>simp at hp' hq';exact i2 i p' q' hp' hq'
   ·cases h
  ·cases h
theorem R7{n:Nat}:∀{l:List (Nat×Operand)} {qs:List (Nat×Nat×lb)},O1 n l=some qs→qs.length=l.length∧
  ∀(i:Nat) (p:Nat×Operand) (q:Nat×Nat×lb),l[i]? =some p→qs[i]? =some q→(p.1*n=q.1∧n=q.2.1)∧ta p.2=some q.2.2:=by
 intro l
 induction l with
 |nil=>intro qs h;simp only[O1,ah]at h;subst h;simp
 |cons p l ih=>
  intro qs h;obtain⟨j,x⟩:=p;simp only[O1]at h;split at h
  ·rename_i o l' h2 h3
   injection h with h
   subst h;obtain⟨i1,i2⟩:=ih h3
   refine⟨by simp[i1],fun i p' q' hp' hq'=>?_⟩
   cases i with
   |zero=>simp at hp' hq';subst hp' hq';exact⟨⟨rfl,rfl⟩,h2⟩
   |succ i=>simp at hp' hq';exact i2 i p' q' hp' hq'
  ·cases h
theorem aax{fs:Array Field}(zx:∀f∈fs.toList,∃n,ji P f.type=some n)(w:World):
  (fs.mapM fun(f:Field)=>(do pure (f.offset,←sizeOf f.type):Sem (Nat×Nat))).run P w= .ok (fs.map fun f=>(f.offset,P.cellsOf f.type)) w:=by
 have key:∀(l:List Field),(∀f∈l,∃n,ji P f.type=some n)→(l.mapM fun(f:Field)=>(do pure (f.offset,←sizeOf f.type):Sem (Nat×Nat))).run P w= .ok (l.map fun f=>(f.offset,P.cellsOf f.type)) w:=by
  intro l
  induction l with
  |nil=>intro _;simp
  |cons f l ih=>
   intro hl
   obtain⟨n,hn⟩:=hl f (by simp)
   have hc:P.cellsOf f.type=n:=by
    unfold ji at hn;unfold aAn;rw[hn];rfl
   rw[List.mapM_cons]
   simp only[ba,pt hn,aw,dc,ih (fun f hf=>hl f (by simp[hf])),cu,hc]
 have:=key fs.toList zx;rw[a6f,aGf,this];simp only[aw]
 congr 1
 apply Array.ext';simp
theorem a8r(h:i6 B0 w0 nt G0 s G E a w){t:TypeId}{fs:Array Field}{ps:Array (Nat×Operand)}{z:List D}{qs:List (Nat×Nat×lb)}(hu:P.underlying t=some (.struct fs))(hz:Dk P t=some z)
  (zx:fs.toList.all (fun f=>(ji P f.type).isSome)=true)(hq:Xd P fs ps.toList=some qs){pc:List (Nat×Nat×List C)}{cs:List C}(hp:Hl s qs=some pc)(hf:Ju (z.map .d) pc=some cs):
  ∃us,(aG6 t (ps.map fun(p:Nat×Operand)=>(p.1,a.eval p.2))).run P w= .ok (.agg us) w∧Lb G E s cs us:=by
 obtain⟨zv,hzv,hzr,hzc⟩:=Dj hz h;obtain⟨q1,q2⟩:=abu hq
 have C3:∀f∈fs.toList,∃n,ji P f.type=some n:=fun f hf=>jl.1 (ck.1 zx f hf)
 have Ii:∀f n,ji P f=some n→P.cellsOf f=n:=by
  intro f n hn;unfold ji at hn;unfold aAn;rw[hn];rfl
 obtain⟨r1,r2⟩:=Wm h (get:=fun j _=>(fs[j]?).map fun f=>(f.offset,P.cellsOf f.type)) q1 (fun i p q hp hq=>by
  obtain⟨⟨f,hf1,hf2,hf3⟩,hc⟩:=q2 i p q hp hq
  exact⟨by simp[hf1,hf2,Ii _ _ hf3],hc⟩) hp
 obtain⟨vs,hv1,hv2⟩:=Vn (place:=fun j=>(fs.map fun f=>(f.offset,P.cellsOf f.type))[j]?) (ev:=a.eval) r1 (fun i p q hp hq=>by
  obtain⟨k1,k2⟩:=r2 i p q hp hq
  exact⟨by simpa using k1,k2⟩) hf hzc
 refine⟨vs,?_,hv2⟩;unfold aG6;simp only[ba,hzr,aw,underlying,run_program,hu,dc,aax C3]
 have e:(ps.map fun(p:Nat×Operand)=>(p.1,a.eval p.2)).toList=ps.toList.map fun p=>(p.1,a.eval p.2):=by simp
 rw[e,hv1];rfl
theorem a8s(h:i6 B0 w0 nt G0 s G E a w){t e:TypeId}{len n:Nat}{ps:Array (Nat×Operand)}{z:List D}{qs:List (Nat×Nat×lb)}(hu:P.underlying t=some (.array len e))(hz:Dk P t=some z)
  (hn:ji P e=some n)(hq:O1 n ps.toList=some qs){pc:List (Nat×Nat×List C)}{cs:List C}(hp:Hl s qs=some pc)(hf:Ju (z.map .d) pc=some cs):
  ∃us,(aG6 t (ps.map fun(p:Nat×Operand)=>(p.1,a.eval p.2))).run P w= .ok (.agg us) w∧Lb G E s cs us:=by
 obtain⟨zv,hzv,hzr,hzc⟩:=Dj hz h;obtain⟨q1,q2⟩:=R7 hq
 obtain⟨r1,r2⟩:=Wm h (get:=fun j _=>some (j*n,n)) q1 (fun i p q hp hq=>by
  obtain⟨⟨h1,h2⟩,hc⟩:=q2 i p q hp hq
  exact⟨by simp[h1,←h2],hc⟩) hp
 obtain⟨vs,hv1,hv2⟩:=Vn (place:=fun j=>some (j*n,n)) (ev:=a.eval) r1 (fun i p q hp hq=>by
  obtain⟨k1,k2⟩:=r2 i p q hp hq
  exact⟨by simpa using k1,k2⟩) hf hzc
 refine⟨vs,?_,hv2⟩;unfold aG6;simp only[ba,hzr,aw,underlying,run_program,hu,dc,pt hn]
 have e:(ps.map fun(p:Nat×Operand)=>(p.1,a.eval p.2)).toList=ps.toList.map fun p=>(p.1,a.eval p.2):=by simp
 rw[e,hv1];rfl
theorem aj9{α β:Type}(f:α→β)(l:List α)(off:Nat)(xs:List α):(patch l off xs).map f=patch (l.map f) off (xs.map f):=by
 simp[patch,J7,av0]
theorem atk:∀{ps:List (Nat×Nat×List D)} {cs out:List D},R5 cs ps=some out→Ju (cs.map .d) (ps.map fun p=>(p.1,p.2.1,p.2.2.map .d))=some (out.map .d):=by
 intro ps
 induction ps with
 |nil=>intro cs out h;simp only[R5,ah]at h;subst h;rfl
 |cons p ps ih=>
  intro cs out h;obtain⟨o,n,xs⟩:=p;simp only[R5]at h;split at h
  ·rename_i hc
   simp only[cu,Ju,ae];rw[if_pos hc,←aj9];exact ih h
  ·cases h
theorem a8c:∀{ps:List (Nat×Nat×List D)} {cs out:List D},R5 cs ps=some out→out.length=cs.length:=by
 intro ps
 induction ps with
 |nil=>intro cs out h;simp only[R5,ah]at h;subst h;rfl
 |cons p ps ih=>
  intro cs out h;obtain⟨o,n,xs⟩:=p;simp only[R5]at h;split at h
  ·rename_i hc
   rw[ih h,om _ _ _ (by omega)]
  ·cases h
theorem ae1(h:i6 B0 w0 nt G0 s G E a w)(hle:G.le G'):
  ∀{l:List (Nat×Operand)} {qs:List (Nat×Nat×lb)} {ps:List (Nat×Nat×List D)} {ids:List Nat},qs.length=l.length→
   (∀(i:Nat) (p:Nat×Operand) (q:Nat×Nat×lb),l[i]? =some p→qs[i]? =some q→ta p.2=some q.2.2)→Lp s qs=some (ps,ids)→(∀id∈ids,Vz G' G E s id)→
   ps.length=l.length∧∀(i:Nat) (p:Nat×Operand) (q0:Nat×Nat×lb) (q:Nat×Nat×List D),l[i]? =some p→qs[i]? =some q0→ps[i]? =some q→q.1=q0.1∧q.2.1=q0.2.1∧Lb G' E s (q.2.2.map .d) (a.eval p.2).cells:=by
 intro l
 induction l with
 |nil=>
  intro qs ps ids hl _ hp _
  cases qs with
  |nil=>simp only[Lp,ah,ay]at hp;obtain⟨rfl,rfl⟩:=hp;simp
  |cons _ _=>simp at hl
 |cons p l ih=>
  intro qs ps ids hl hq hp hg
  cases qs with
  |nil=>simp at hl
  |cons q qs=>
   obtain⟨o,n,x⟩:=q;simp only[Lp]at hp;split at hp
   ·rename_i cs l' j h1 h2
    split at hp
    ·rename_i ds i h3
     simp only[ah,ay]at hp;obtain⟨rfl,rfl⟩:=hp
     obtain⟨i1,i2⟩:=ih (by simpa using hl) (fun i p' q' a b=>hq (i+1) p' q' (by simpa using a) (by simpa using b)) h2 (fun id hid=>hg id (a2y _ hid))
     refine⟨by simp[i1],fun k p' q0 q' hp' hq0 hq'=>?_⟩
     cases k with
     |zero=>
      simp at hp' hq0 hq';subst hp' hq0 hq';obtain⟨c1,c2⟩:=P1 h1 (h.ev (hq 0 p (o,n,x) rfl rfl));obtain⟨d1,d2⟩:=a5a (G:=G) (G':=G') (E:=E) h3
      refine⟨rfl,rfl,by simp[c1,d1],fun m c u hc hu=>?_⟩
      simp only[bp,ak]at hc;obtain⟨y,hy,rfl⟩:=hc
      have hm:m<cs.length:=by have:=(aq.1 hy).1;omega
      have hcm:cs[m]? =some cs[m]:=ao hm
      exact d2 hle (fun id hid=>hg id (a68 _ hid)) m _ y u hcm hy (c2 m _ u hcm hu)
     |succ k=>simp at hp' hq0 hq';exact i2 k p' q0 q' hp' hq0 hq'
    ·cases hp
   ·cases hp
theorem a2i{α:Type}(sz:Nat):∀(n:Nat) (l:List α),l.length=n*sz→(chunks sz n l).length=n∧∀i e,(chunks sz n l)[i]? =some e→e.length=sz∧∀j,j<sz→e[j]? =l[i*sz+j]? :=by
 intro n
 induction n with
 |zero=>intro l _;simp[chunks]
 |succ n ih=>
  intro l hl;rw[iw,zn]at hl
  obtain⟨i1,i2⟩:=ih (l.drop sz) (by simp;omega)
  refine⟨by simp[chunks,i1],fun i e he=>?_⟩
  cases i with
  |zero=>
   simp only[chunks,ff,ah]at he;subst he
   refine⟨by simp;omega,fun j hj=>?_⟩
   rw[j0,if_pos hj,aht,eh]
  |succ i=>
   simp only[chunks,jx]at he;obtain⟨k1,k2⟩:=i2 i e he
   refine⟨k1,fun j hj=>?_⟩
   rw[k2 j hj,lv,iw,zn]
   congr 1
   omega
theorem a4j(h:i6 B0 w0 nt G0 s G E a w){z:List D}{zv:Value}(hz:Lb G E s (z.map .d) zv.cells){n:Nat}(h0:0<z.length):
  Lb G E s (((gu n z).flatten).map .d) ((aGk (n*z.length)).map (zv.cells[· %zv.cells.size]!)):=by
 obtain⟨h1,h2⟩:=hz;simp only[ae]at h1
 refine⟨by simp,fun i c u hc hu=>?_⟩
 have hi:i<n*z.length:=by
  have:=(aq.1 hc).1;simpa using this
 have abc:∀(n i:Nat),i<n*z.length→((gu n z).flatten)[i]? =z[i%z.length]? :=by
  intro n
  induction n with
  |zero=>intro i hi;simp at hi
  |succ n ih=>
   intro i hi;rw[aF3,aq1,Ku];rw[iw,zn]at hi;split
   ·rename_i iy;rw[a63 iy]
   ·rename_i hge
    rw[ih (i-z.length) (by omega)]
    congr 1
    conv=>rhs;rw[show i=(i-z.length)+z.length by omega]
    rw[Nat.add_mod_right]
 rw[bp,abc n i hi]at hc;simp only[Uc,aqb,hi,if_true,gz,ah]at hu;have hm:i%z.length<z.length:=a30 _ h0
 have hm':i%zv.cells.size<zv.cells.size:=by rw[h1];exact hm
 rw[h1]at hu
 refine h2 (i%z.length) c u (by rw[bp];exact hc) ?_
 rw[←hu,getElem!_pos _ _ (by rw[h1];exact hm)]
 exact av _
end
end Go.PI
