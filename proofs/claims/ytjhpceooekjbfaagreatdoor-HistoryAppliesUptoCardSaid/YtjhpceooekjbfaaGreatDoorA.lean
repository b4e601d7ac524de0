/- A part of the proof for HistoryApplies: PA to PS11. Printed from longer texts. -/
import Derived.Calls
import Derived.Orders
import Derived.Below
import Derived.Laws.Cells
import Derived.Laws.CopyRow
import Derived.Laws.Tables
import Derived.Laws.StructEq
import Derived.ChangeKeysEq
import Derived.Laws.AppendOwn
set_option linter.all false
set_option maxHeartbeats 64000000
open And renaming intro->afm
open Array renaming eq_empty_of_size_eq_zero->Yy,getD_eq_getD_getElem?->kl,getElem?_append->Io,getElem?_eq_getElem->bz,getElem?_eq_some_iff->la,getElem?_extract->gC,getElem?_map->Yx,getElem?_range->VR,getElem?_setIfInBounds_ne->Xx,getElem?_setIfInBounds_self->Ut,getElem_toList->sL,length_toList->x9,mapM_eq_mapM_toList->sK,range->afb,replicate->iK,size_append->Xw
open BitVec renaming ofInt->a8y
open Bool renaming and_true->Ip,false->ag,false_eq_true->gp,true->ah,true_and->rv
open Eq renaming refl->il,trans->fy
open Go.Builtin renaming append_->A9,clear_->a5q,firstCells->mh,len_->aes,nextslicecap->adm,zeroCells->mb
open Go.Instr renaming build->aeu,buildSlice->sH,extract->ady,index->af4,indexAt->acj,loadAt->aeq,slice->aez,sliceAt->As,sliceBound->Xv,sliceBounds->se,storeAt->a8r,sureAddr->a5p
open Go.IntKind renaming i64->aj,signed->ae8,wrap->Qy
open Go.Op renaming bytesLess->Ws,eqFields->af6,equal->ad8,equalIn->afe,maxDepth->af3
open Go.Program renaming cellsOf->a8k
open Go.Region renaming binds->ad6,ready->J7
open Go.Result renaming andThen_ok->br
open Go.Sem renaming run_bind->df,run_map->af5,run_pure->fl
open Go.Value renaming pointer->aen
open Go.World renaming cell?->aet
open Int renaming mul_le_mul_of_nonneg_left->Q8
open List renaming all_eq_true->dg,append_assoc->uy,cons_append->qc,drop_drop->JF,drop_eq_getElem_cons->jx,eq_nil_of_length_eq_zero->jf,flatten_cons->VK,flatten_nil->acg,foldl_cons->yb,getElem?_append->On,getElem?_cons_succ->mq,getElem?_cons_zero->iw,getElem?_drop->pv,getElem?_eq_getElem->bh,getElem?_eq_none->nQ,getElem?_eq_some_iff->bd,getElem?_map->dn,getElem?_of_mem->adf,getElem?_range->Nk,getElem?_replicate->S6,getElem?_set->u7,getElem?_take->ko,getElem?_toArray->B7,getElem_mem->dj,length->Ae,length_append->dz,length_cons->cq,length_drop->A0,length_flatten->adr,length_map->al,length_nil->ew,length_replicate->ad2,length_set->J8,length_take->ey,length_take_le'->VN,map_congr_left->Nj,map_cons->du,map_drop->a1s,map_take->Mm,mem_append_left->sE,mem_append_right->nP,mem_cons->fa,mem_iff_getElem->j0,mem_map->j6,mem_of_getElem?->pw,mem_range->er,mem_singleton->Q9,not_mem_nil->kz,range->fc,range'->GO,range'_succ->ace,range_eq_range'->ade,replicate->jq,replicate_succ->adq,size_toArray->Xr,sum_replicate_nat->acd,take_zero->My
open Nat renaming add_assoc->tc,add_mul->kj,add_zero->Ad,div_lt_iff_lt_mul->ad0,eq_zero_or_pos->nR,le_of_eq->ae1,le_of_lt->aep,le_refl->bm,le_trans->jg,lt_or_gt_of_ne->a5i,min_eq_left->rY,mod_eq_of_lt->zz,mod_lt->Ht,mul_comm->aeo,mul_eq_zero->ad9,mul_le_mul_right->ig,not_lt->afg,one_mul->Cj,sub_zero->Wt,zero_add->gj,zero_mul->JC
open Option renaming bind_some->rX,getD_some->jj,isSome_iff_exists->ma,map->afd,map_eq_some_iff->ax,map_some->jc,none->ae,some->aa
open Option.some renaming injEq->av
open Prod.mk renaming injEq->db
namespace Go.PI
open Go Go.RowKit
theorem aq{c:Prop}{h:Decidable c}(a:¬c){α:Sort _}{t e:α}:ite c t e=e:=if_neg a
theorem bc{c:Prop}{h:Decidable c}(a:c){α:Sort _}{t e:α}:ite c t e=t:=if_pos a
theorem da{α:Sort _}{h:Decidable True}(t e:α):ite True t e=t:=if_pos trivial
theorem bp{α:Sort _}{h:Decidable False}(t e:α):ite False t e=e:=if_neg id
theorem ff{α:Type _}[BEq α][ReflBEq α](a:α):(a==a)=true:=BEq.rfl
inductive D where
 |int (k:IntKind) (n:Int)
 |bool (b:Bool)
 |str (s:ByteArray)
 |cj
 |gd (sz:Nat) (l:List (List D))
 |Pa
 |agg (cs:List D)
 |Bb (vs:List D)
 |Y9
 |ym (cells:List D) (off:Nat)
 |P0
 |map (es:List (D×D))
 |qb (f:Nat) (j9:List D)
 |y0
 |any
 deriving Inhabited
structure ix where
 cv:Nat->Nat->Option Value
 mv:Nat->Option (List (Value×Value))
inductive iz(G:ix):D->Value->Prop
 |int {k n}:iz G (.int k n) (.int k n)
 |bool {b}:iz G (.bool b) (.bool b)
 |str {s}:iz G (.str s) (.string s)
 |cj:iz G .cj (.slice ae 0 0)
 |gd {sz:Nat} {l:List (List D)} {b o c:Nat} (hc:l.length<=c) (hs:∀(i:Nat) (e:List D),l[i]? =aa e->e.length=sz)
   (h1:∀i j,i<l.length->j<sz->(G.cv b (o+i*sz+j)).isSome)
   (h2:∀(i:Nat) (e:List D) (j:Nat) (x:D) (v:Value),l[i]? =aa e->e[j]? =aa x->G.cv b (o+i*sz+j)=aa v->iz G x v):
   iz G (.gd sz l) (.slice (aa ⟨b,o,ae⟩) l.length c)
 |Y3 {sz:Nat}:iz G (.gd sz []) (.slice ae 0 0)
 |bN {sz:Nat} {a:Addr} {c:Nat}:iz G (.gd sz []) (.slice (aa a) 0 c)
 |Pa {a:Addr} {c:Nat}:iz G .Pa (.slice (aa a) 0 c)
 |agg {cs:List D} {vs:Array Value} (hl:vs.size=cs.length) (h:∀(i:Nat) (x:D) (v:Value),cs[i]? =aa x->vs[i]? =aa v->iz G x v):iz G (.agg cs) (.agg vs)
 |Bb {cs:List D} {vs:Array Value} (hl:vs.size=cs.length) (h:∀(i:Nat) (x:D) (v:Value),cs[i]? =aa x->vs[i]? =aa v->iz G x v):iz G (.Bb cs) (.tuple vs)
 |Y9:iz G .Y9 (.pointer ae)
 |ym {cells:List D} {b o off:Nat} (h1:∀j,j<cells.length->(G.cv b (o+j)).isSome)
   (h2:∀(j:Nat) (x:D) (v:Value),cells[j]? =aa x->G.cv b (o+j)=aa v->iz G x v):iz G (.ym cells off) (.pointer (aa ⟨b,o+off,ae⟩))
 |P0:iz G .P0 (.map ae)
 |map {es:List (D×D)} {r:Nat} {fs:List (Value×Value)} (h0:G.mv r=aa fs) (hl:fs.length=es.length)
   (h1:∀(i:Nat) (e:D×D) (f:Value×Value),es[i]? =aa e->fs[i]? =aa f->iz G e.1 f.1)
   (h2:∀(i:Nat) (e:D×D) (f:Value×Value),es[i]? =aa e->fs[i]? =aa f->iz G e.2 f.2):iz G (.map es) (.map (aa r))
 |qb {f:Nat} {j9:List D} {vs:Array Value} (hl:vs.size=j9.length) (h:∀(i:Nat) (x:D) (v:Value),j9[i]? =aa x->vs[i]? =aa v->iz G x v):iz G (.qb f j9) (.func (.func f) #[] vs)
 |y0:iz G .y0 .nilFunc
 |any {v}:iz G .any v
structure ix.le(G G':ix):Prop where
 cv:∀b o v,G.cv b o=aa v->G'.cv b o=aa v
 mv:∀b es,G.mv b=aa es->G'.mv b=aa es
theorem ix.me(G:ix):G.le G:=⟨λ_ _ _ h=>h,λ_ _ h=>h⟩
theorem ix.dO{A B C:ix}(h:A.le B)(k:B.le C):A.le C:=⟨λb o v x=>k.cv b o v (h.cv b o v x),λb es x=>k.mv b es (h.mv b es x)⟩
theorem iz.mono{G G':ix}(k:G.le G'){x:D}{v:Value}(h:iz G x v):iz G' x v:=by
 induction h with
 |int=>exact .int
 |bool=>exact .bool
 |str=>exact .str
 |cj=>exact .cj
 | @gd sz l b o c z hs g y d=>
  refine .gd z hs (λi j A q=>?_) (λi e j x v n hx a=>?_)
  ·obtain⟨v,a⟩:=ma.1 (g i j A q);rw[k.cv _ _ _ a];rfl
  have p:i<l.length:=(bd.1 n).1
  have r:j<sz:=by have:=hs i e n;have:=(bd.1 hx).1;lia
  obtain⟨u,m⟩:=ma.1 (g i j p r);have:=k.cv _ _ _ m;rw[this]at a
  injection a with a
  exact d i e j x v n hx (a▸m)
 |Y3=>exact .Y3
 |bN=>exact .bN
 |Pa=>exact .Pa
 |agg f _ d=>exact .agg f d
 |Bb f _ d=>exact .Bb f d
 |Y9=>exact .Y9
 | @ym cells b o off g y d=>
  refine .ym (λj q=>?_) (λj x v hx a=>?_)
  ·obtain⟨v,a⟩:=ma.1 (g j q);rw[k.cv _ _ _ a];rfl
  obtain⟨u,m⟩:=ma.1 (g j (bd.1 hx).1);have:=k.cv _ _ _ m;rw[this]at a
  injection a with a
  exact d j x v hx (a▸m)
 |P0=>exact .P0
 |map w f _ _ s t=>exact .map (k.mv _ _ w) f s t
 |qb f _ d=>exact .qb f d
 |y0=>exact .y0
 |any=>exact .any
def D.scalar:D->Bool
 | .int .. | .bool _| .str _| .cj| .Y9| .P0| .y0| .any=>ah
 |_=>ag
def D.flat:D->Bool
 | .agg cs=>cs.all D.scalar
 | .Bb vs=>vs.all λ| .agg cs=>cs.all D.scalar|x=>x.scalar
 |x=>x.scalar
theorem iz.scalar{G G':ix}{x:D}{v:Value}(hx:x.scalar=ah)(h:iz G x v):iz G' x v:=by
 cases h<;>first|(simp[D.scalar]at hx;done)|constructor
theorem iz.a8f{G G':ix}{cs:List D}{v:Value}(hx:cs.all D.scalar=ah)(h:iz G (.agg cs) v):iz G' (.agg cs) v:=by
 cases h with
 |agg b h=>exact .agg b λi x v a c=>(h i x v a c).scalar (dg.1 hx x (pw a))
theorem iz.flat{G G':ix}{x:D}{v:Value}(hx:x.flat=ah)(h:iz G x v):iz G' x v:=by
 cases x with
 |agg cs=>exact h.a8f (by simpa[D.flat]using hx)
 |Bb vs=>
  cases h with
  |Bb d h=>
   refine .Bb d λi x v b e=>?_;have c:=h i x v b e;have a:=dg.1 (by simpa only[D.flat]using hx) x (pw b)
   cases x with
   |agg cs=>exact c.a8f (by simpa using a)
   |_=>exact c.scalar (by simpa using a)
 |_=>exact h.scalar (by simpa[D.flat]using hx)
structure GOk(G:ix)(w:World):Prop where
 cv:∀b o v,G.cv b o=aa v->w.cell? ⟨b,o,ae⟩=aa v
 mv:∀b es,G.mv b=aa es->∃ents clock,w.heap[b]? =aa (.map ents clock)/\ents.toList.map (λe=>(e.key,e.val))=es
theorem GOk.lt{G:ix}{w:World}(h:GOk G w){b o:Nat}{v:Value}(a:G.cv b o=aa v):b<w.heap.size:=
 World.block_lt_of_cell? _ _ (h.cv b o v a)
theorem GOk.ltm{G:ix}{w:World}(h:GOk G w){b:Nat}{es}(a:G.mv b=aa es):b<w.heap.size:=by
 obtain⟨_,_,c,_⟩:=h.mv b es a;exact(la.1 c).1
theorem GOk.below{G:ix}{w w':World}(h:GOk G w)(hb:Below w.heap.size w w'):GOk G w' where
 cv b o v hc:=(hb.cell (p:=⟨b,o,ae⟩) (h.lt hc)).trans (h.cv b o v hc)
 mv b es hc:=by
  obtain⟨ents,clock,c,a⟩:=h.mv b es hc;exact⟨ents,clock,(hb.block b (h.ltm hc)).trans c,a⟩
def ix.same(G G':ix)(n:Nat):Prop:=(∀b o,b<n->G'.cv b o=G.cv b o)/\∀b,b<n->G'.mv b=G.mv b
structure Bel(Q:Prop)(B:Nat)(w w':World):Prop extends Below B w w' where
 drawn:Q->w.drawn<=w'.drawn
theorem Bel.refl{Q:Prop}(B:Nat)(w:World):Bel Q B w w:=⟨Below.refl _ _,λ_=>bm _⟩
theorem Bel.trans{Q:Prop}{B:Nat}{a b c:World}(h:Bel Q B a b)(k:Bel Q B b c):Bel Q B a c:=⟨h.toBelow.trans k.toBelow,λq=>jg (h.drawn q) (k.drawn q)⟩
theorem Bel.mono{Q:Prop}{B a:Nat}{w w':World}(h:Bel Q B w w')(b:a<=B):Bel Q a w w':=⟨h.toBelow.mono b,h.drawn⟩
theorem Bel.Nl{Q a:Prop}{B:Nat}{w w':World}(h:Bel Q B w w')(b:a->Q):Bel a B w w':=⟨h.toBelow,λq=>h.drawn (b q)⟩
theorem Bel.drew{Q:Prop}{B:Nat}{a w:World}(h:Bel Q B a w):Bel Q B a w.drew:=⟨h.toBelow.drew,λq=>Nat.le_succ_of_le (h.drawn q)⟩
theorem Bel.alloc{Q:Prop}{B:Nat}{a w:World}(h:Bel Q B a w)(b:B<=w.heap.size)(o:Obj):Bel Q B a (w.alloc o):=⟨h.toBelow.alloc b o,h.drawn⟩
def B3(P:Program)(f:Nat):Bool:=
 match P.funcs[f]? with
 |some a=>a.name != "runtime.NumGoroutine"&&a.body.isSome
 |none=>ag
def iv(P:Program)(f:Nat)(args:List D)(r:D):Prop:=
 B3 P f=ah/\∀(G:ix) (w:World) (vs:Array Value),GOk G w->vs.size=args.length->(∀(i:Nat) (x:D) (v:Value),args[i]? =aa x->vs[i]? =aa v->iz G x v)->
  Calls P f vs w λe w'=>∃v G',e= .returned v/\G.le G'/\G.same G' w.heap.size/\GOk G' w'/\Bel True w.heap.size w w'/\iz G' r v
def nI(P:Program)(f:Nat)(args:List D)(R:D->Prop):Prop:=
 B3 P f=ah/\∀(G:ix) (w:World) (vs:Array Value),GOk G w->vs.size=args.length->(∀(i:Nat) (x:D) (v:Value),args[i]? =aa x->vs[i]? =aa v->iz G x v)->
  Calls P f vs w λe w'=>∃v G' r,e= .returned v/\R r/\G.le G'/\G.same G' w.heap.size/\GOk G' w'/\Bel True w.heap.size w w'/\iz G' r v
theorem iv.toR{P:Program}{f:Nat}{args:List D}{r:D}(h:iv P f args r):nI P f args (· =r):=
 ⟨h.1,λG w vs a b c=>(h.2 G w vs a b c).mono λ_ _ ⟨v,G',d,e⟩=>⟨v,G',r,d,rfl,e⟩⟩
inductive C where
 |d (x:D)
 |ref (id ba len:Nat)
 |o8 (id ba:Nat)
 |ptr (id ba off:Nat)
 deriving Inhabited
inductive V where
 |d (x:D)
 |ref (id ba len:Nat)
 |o8 (id ba:Nat)
 |gz (id ba off:Nat)
 |Iy (id ba ln i off:Nat)
 |qb (f:Nat) (ids:List (Nat×Nat))
 |agg (cs:List C)
 |Bb (cs:List C)
 |Lm (id ba len n:Nat)
 |Iz (id ba n a:Nat)
 |win (id ba n o l:Nat)
 |no
 deriving Inhabited
def C.toV:C->V
 | .d x=> .d x
 | .ref i v l=> .ref i v l
 | .o8 i v=> .o8 i v
 | .ptr i v o=> .gz i v o
inductive B where
 |arr (sz:Nat) (dv:List (List D))
 |ru (sz:Nat) (dv:List (List C))
 |loc (cs:List C)
 |Tj (n:Nat)
 deriving Inhabited
def B.isVar:B->Bool
 | .arr .. =>ag
 | .ru .. =>ag
 |_=>ah
def B.Ei:B->Option (Nat×Nat)
 | .arr sz dv=>aa (sz,dv.length)
 | .ru sz dv=>aa (sz,dv.length)
 |_=>ae
structure PS where
 tmp:Nat->V
 di:Nat->Option B
 ba:Nat->Nat
 mp:Nat->Option (List (D×C))
 base:Nat:=0
 ctx:Nat->V×Value:=λ_=>(.no,.tuple #[])
def PS.Ei(s:PS)(id:Nat):Option (Nat×Nat):=(s.di id).bind B.Ei
def lu{α:Type}(f:Nat->α)(i:Nat)(v:α):Nat->α:=λj=>if j=i then v else f j
theorem de{α:Type}(f:Nat->α)(i:Nat)(v:α):lu f i v i=v:=by simp[lu]
theorem ie{α:Type}(f:Nat->α)(i j:Nat)(v:α)(h:j≠i):lu f i v j=f j:=by simp[lu,h]
theorem ar{α:Type}(f:Nat->α)(i j:Nat)(v:α):lu f i v j=if j=i then v else f j:=rfl
structure Env where
 b:Nat->Nat
 n:Nat->Nat
 m:Nat->Nat
def j4(G:ix)(E:Env)(s:PS):V->Value->Prop
 | .d x,v=>iz G x v
 | .ref id ba len,v=>ba<=s.ba id/\(s.ba id=ba->∀sz n,s.Ei id=aa (sz,n)->len<=n/\(n=len->
   ∃cap,E.n id=cap*sz/\len<=cap/\v= .slice (aa ⟨E.b id,0,ae⟩) len cap))
 | .o8 id ba,v=>ba<=s.ba id/\(s.ba id=ba->(s.mp id).isSome->v= .map (aa (E.m id)))
 | .gz id ba off,v=>ba<=s.ba id/\(s.ba id=ba->(∃b,s.di id=aa b/\b.isVar=ah)->v= .pointer (aa ⟨E.b id,off,ae⟩))
 | .Iy id ba ln i off,v=>ba<=s.ba id/\(s.ba id=ba->∀sz n,s.Ei id=aa (sz,n)->ln<=n/\(n=ln->v= .pointer (aa ⟨E.b id,i*sz+off,ae⟩)))
 | .qb f ids,v=>(∀p∈ids,p.2<=s.ba p.1)/\((∀p∈ids,s.ba p.1=p.2/\∃b,s.di p.1=aa b/\b.isVar=ah)->
   v= .func (.func f) #[] (ids.map λp=>aen (aa ⟨E.b p.1,0,ae⟩)).toArray)
 | .agg cs,v=>∃vs:Array Value,v= .agg vs/\vs.size=cs.length/\∀(i:Nat) (c:C) (u:Value),cs[i]? =aa c->vs[i]? =aa u->
   match c with
   | .d x=>iz G x u
   | .ref id ba len=>ba<=s.ba id/\(s.ba id=ba->∀sz n,s.Ei id=aa (sz,n)->len<=n/\(n=len->
     ∃cap,E.n id=cap*sz/\len<=cap/\u= .slice (aa ⟨E.b id,0,ae⟩) len cap))
   | .o8 id ba=>ba<=s.ba id/\(s.ba id=ba->(s.mp id).isSome->u= .map (aa (E.m id)))
   | .ptr id ba off=>ba<=s.ba id/\(s.ba id=ba->(∃b,s.di id=aa b/\b.isVar=ah)->u= .pointer (aa ⟨E.b id,off,ae⟩))
 | .Bb cs,v=>∃vs:Array Value,v= .tuple vs/\vs.size=cs.length/\∀(i:Nat) (c:C) (u:Value),cs[i]? =aa c->vs[i]? =aa u->
   match c with
   | .d x=>iz G x u
   | .ref id ba len=>ba<=s.ba id/\(s.ba id=ba->∀sz n,s.Ei id=aa (sz,n)->len<=n/\(n=len->
     ∃cap,E.n id=cap*sz/\len<=cap/\u= .slice (aa ⟨E.b id,0,ae⟩) len cap))
   | .o8 id ba=>ba<=s.ba id/\(s.ba id=ba->(s.mp id).isSome->u= .map (aa (E.m id)))
   | .ptr id ba off=>ba<=s.ba id/\(s.ba id=ba->(∃b,s.di id=aa b/\b.isVar=ah)->u= .pointer (aa ⟨E.b id,off,ae⟩))
 | .Lm id ba len _,v=>ba<=s.ba id/\(s.ba id=ba->(∃b,s.di id=aa b/\b.isVar=ah)->v= .slice (aa ⟨E.b id,0,ae⟩) len len)
 | .Iz id ba n a,v=>a<=n/\ba<=s.ba id/\(s.ba id=ba->∀sz m,s.Ei id=aa (sz,m)->n<=m/\(m=n->(∃cap,E.n id=cap*sz/\n<=cap)/\v= .slice (aa ⟨E.b id,0,ae⟩) a a))
 | .win id ba n o l,v=>(o+l<=n/\0<n)/\ba<=s.ba id/\(s.ba id=ba->∀sz m,s.Ei id=aa (sz,m)->n<=m/\(m=n->
   ∃C cap off,E.n id=C*sz/\n<=o+cap/\o+cap<=C/\l<=cap/\(cap=0\/off=o*sz)/\v= .slice (aa ⟨E.b id,off,ae⟩) l cap))
 | .no,_=>True
def zx(G:ix)(E:Env)(s:PS)(c:C)(u:Value):Prop:=j4 G E s c.toV u
theorem G6{G:ix}{E:Env}{s:PS}{cs:List C}{v:Value}:
  j4 G E s (.agg cs) v<->∃vs:Array Value,v= .agg vs/\vs.size=cs.length/\∀(i:Nat) (c:C) (u:Value),cs[i]? =aa c->vs[i]? =aa u->zx G E s c u:=by
 constructor
 ·rintro⟨vs,a,b,d⟩;refine⟨vs,a,b,λi c u e f=>?_⟩;have:=d i c u e f;cases c<;>exact this
 rintro⟨vs,a,b,d⟩;refine⟨vs,a,b,λi c u e f=>?_⟩;have:=d i c u e f;cases c<;>exact this
theorem Lg{G:ix}{E:Env}{s:PS}{cs:List C}{v:Value}:
  j4 G E s (.Bb cs) v<->∃vs:Array Value,v= .tuple vs/\vs.size=cs.length/\∀(i:Nat) (c:C) (u:Value),cs[i]? =aa c->vs[i]? =aa u->zx G E s c u:=by
 constructor
 ·rintro⟨vs,a,b,d⟩;refine⟨vs,a,b,λi c u e f=>?_⟩;have:=d i c u e f;cases c<;>exact this
 rintro⟨vs,a,b,d⟩;refine⟨vs,a,b,λi c u e f=>?_⟩;have:=d i c u e f;cases c<;>exact this
def Uf(G:ix)(E:Env)(s:PS)(B0:Nat)(w:World)(id:Nat)(b:B):Prop:=
 B0<=E.b id/\(∀o,G.cv (E.b id) o=ae)/\∃cells a,w.heap[E.b id]? =aa (.cells cells a (0,0))/\E.n id<=cells.size/\
  match b with
  | .arr sz dv=>dv.length*sz<=cells.size/\(∀(i:Nat) (e:List D),dv[i]? =aa e->e.length=sz)/\
    ∀(i:Nat) (e:List D) (j:Nat) (x:D) (u:Value),dv[i]? =aa e->e[j]? =aa x->cells[i*sz+j]? =aa u->iz G x u
  | .ru sz dv=>dv.length*sz<=cells.size/\(∀(i:Nat) (e:List C),dv[i]? =aa e->e.length=sz)/\
    ∀(i:Nat) (e:List C) (j:Nat) (x:C) (u:Value),dv[i]? =aa e->e[j]? =aa x->cells[i*sz+j]? =aa u->zx G E s x u
  | .loc cs=>cs.length=cells.size/\∀(j:Nat) (c:C) (u:Value),cs[j]? =aa c->cells[j]? =aa u->zx G E s c u
  | .Tj n=>n=cells.size
def eF(ents:Array MapEntry)(clock:Nat):Prop:=
 (∀(i:Nat) (x:MapEntry),ents[i]? =aa x->x.born<clock)/\∀(i j:Nat) (x y:MapEntry),ents[i]? =aa x->ents[j]? =aa y->x.born=y.born->i=j
def Plain(c:Nat->V×Value):Prop:=∀i v,c i=(.no,v)->v= .tuple #[]
def Xo(x:V×Value)(B:Nat)(w:World):Prop:=
 ∀(b:Nat) (cs:Array Value),x=(.no,.agg #[.pointer (aa ⟨b,0,ae⟩),.agg cs])->b<B/\∃T a,w.heap[b]? =aa (.cells cs T a)
theorem Xo.below{x:V×Value}{B:Nat}{w w':World}(h:Xo x B w)(e:B=w.heap.size){Q:Prop}(hb:Bel Q B w w'):Xo x w'.heap.size w':=by
 intro b cs hx;obtain⟨c,T,a,d⟩:=h b cs hx;have f:=hb.size;exact⟨by lia,T,a,(hb.block b c).trans d⟩
theorem Xo.nil{B:Nat}{w:World}:Xo (.no,.tuple #[]) B w:=λb cs h=>by cases h
structure jw(B0:Nat)(w0:World)(nt:Nat)(G0:ix)(s:PS)(G:ix)(E:Env)(a:Act)(w:World):Prop where
 size:a.tmps.size=nt
 defers:a.defers=[]
 base:B0=w0.heap.size
 below:Bel (Plain s.ctx) B0 w0 w
 gok:GOk G w
 gle:G0.le G
 Jt:G0.same G B0
 tmp:∀t,j4 G E s (s.tmp t) (a.tmps.getD t undef)
 di:∀id b,s.di id=aa b->Uf G E s B0 w id b
 inj:∀i j bi bj,s.di i=aa bi->s.di j=aa bj->i≠j->E.b i≠E.b j
 mp:∀id es,s.mp id=aa es->B0<=E.m id/\G.mv (E.m id)=ae/\∃ents clock,w.heap[E.m id]? =aa (.map ents clock)/\
  ents.size=es.length/\(∀(i:Nat) (e:D×C) (x:MapEntry),es[i]? =aa e->ents[i]? =aa x->iz G e.1 x.key/\zx G E s e.2 x.val)/\eF ents clock
 Sn:∀i j bi bj,s.mp i=aa bi->s.mp j=aa bj->i≠j->E.m i≠E.m j
 ctx:∀i,j4 G E s (s.ctx i).1 (s.ctx i).2
 tb:∀i,Xo (s.ctx i) B0 w0
inductive ov where
 |t (n:Nat)
 |c (x:D)
 deriving Inhabited
inductive TK where
 |str|gd|map|ptr|fn
 deriving DecidableEq,Inhabited
inductive LK where
 |int|bool|str
 deriving DecidableEq,Inhabited
inductive KK where
 |one (k:LK)
 |row (ks:List LK)
 deriving Inhabited
inductive lg where
 |kf (x:ov)
 |pick (c a b:ov)
 |alloc (zero:List D)
 |box (n:Nat) (x:ov)
 |load (n:Nat) (agg:Bool) (x:ov)
 |store (n:Nat) (a x:ov)
 |Zq (x:ov)
 |Ai (off:Nat) (x:ov)
 |y9 (len n:Nat) (x i:ov)
 |xn (n:Nat) (x i:ov)
 |dB (x i:ov)
 |iE (off n:Nat) (agg:Bool) (x:ov)
 |len (k:TK) (x:ov)
 |bin (op:BinOp) (x y:ov)
 |eqs (ks:List LK) (neg:Bool) (x y:ov)
 |Kt (k:TK) (neg:Bool) (x:ov)
 |beq (neg:Bool) (x y:ov)
 |un (op:UnOp) (x:ov)
 |conv (k:IntKind) (x:ov)
 |fO (x:ov)
 |build (zero:List D) (parts:List (Nat×Nat×ov))
 |xz (im:Bool) (n sz:Nat) (zero:List D) (parts:List (Nat×Nat×ov))
 |app (sz bytes:Nat) (x y:ov)
 |dT (n sz:Nat) (zero:List D) (parts:List (Nat×Nat×ov))
 |dP (kk:KK) (sz bytes:Nat) (x k y:ov) (ts:List Nat)
 |iG (sz bytes:Nat) (zero:List D) (x y:ov)
 |vQ (x:ov)
 |vY (len n:Nat) (x:ov)
 |Iz (n:Nat) (x j k:ov)
 |P9 (n:Nat) (x j:ov)
 |Ot (n:Nat) (x:ov) (lo hi mx:Option ov)
 |trim (x:ov)
 |clr (z:List D) (x:ov)
 |bad
 |slice (n:Nat) (x:ov) (lo hi:Option ov)
 |Ks
 |lookup (kk:KK) (zero:D) (x i:ov) (ok:Bool)
 |cK (kk:KK) (x k v:ov)
 |Oj (f:Nat) (j9:List ov)
 |ext (x:ov) (i:Nat)
 |Fm (mx:Bool) (x y:ov)
 |call (f:Nat) (args:List ov)
 |zq (f:ov) (args:List ov)
 |zr (n:Nat)
 |init (g n:Nat) (x:ov)
 |slice3 (n:Nat) (x j k:ov)
 |kX (len n:Nat) (agg:Bool) (x i:ov)
 |Aq (f:Nat) (args:List ov)
 |Xm (f:Nat) (args:List ov)
 |Od (f:ov) (args:List ov)
 |ua (f:Nat) (args:List ov)
 |Q3 (f:ov) (args:List ov)
 deriving Inhabited
structure RI where
 dst:Option Nat
 op:lg
 guard:Option (Nat×Bool)
 after:List Nat
 deriving Inhabited
inductive eh where
 |skip
 |region (ops:List RI) (draw:Bool) (x7:List Nat)
 |seq (a b:eh)
 |cond (c:ov) (a b:eh)
 |block (id:Nat) (c:eh)
 |loop (c:eh)
 |freeze
 |AA (ops:List RI)
 |both (a b:eh)
 |exit (id:Nat)
 |ret
 deriving Inhabited
def ov.ev(s:PS):ov->V
 | .t n=>s.tmp n
 | .c x=> .d x
structure Mem where
 di:Nat->Option B
 ba:Nat->Nat
 mp:Nat->Option (List (D×C))
def PS.mem(s:PS):Mem:=⟨s.di,s.ba,s.mp⟩
def PS.ke(s:PS)(m:Mem):PS:={s with di:=m.di,ba:=m.ba,mp:=m.mp}
inductive my where
 |val (v:V)
 |new (v:V) (id:Nat) (b:B)
 |set (id:Nat) (b:B)
 |grow (v:V) (id:Nat) (b:B)
 |gG (v:V) (id:Nat)
 |bQ (id:Nat) (es:List (D×C))
 |init (v:V) (t id:Nat) (cs:List C)
 |Jn (id:Nat) (b:B) (id2:Nat) (b2:B)
 |cut (v:V) (id:Nat) (b:B)
 |mem (m:Mem) (v:V)
abbrev nJ:=List Nat×my
def my.uk(v:V):nJ:=([],.val v)
def Mj:List C->Option (List D)
 |[]=>aa []
 | .d x::r=>match Mj r with|some l=>aa (x::l)|none=>ae
 |_::_=>ae
def mkv(agg:Bool)(cs:List C):V:=
 match agg,Mj cs,cs with
 |true,aa ds,_=> .d (.agg ds)
 |true,ae,cs=> .agg cs
 |false,_,[c]=>c.toV
 |false,_,_=> .no
def mkd(agg:Bool)(ds:List D):V:=
 match agg,ds with
 |true,ds=> .d (.agg ds)
 |false,[x]=> .d x
 |false,_=> .no
def D.one:D->Bool
 | .agg _| .Bb _| .any=>ag
 |_=>ah
def patch{α:Type}(l:List α)(off:Nat)(xs:List α):List α:=l.take off++xs++l.drop (off+xs.length)
def PS.dv(s:PS)(id ba:Nat):Option (Nat×List (List D)):=
 if s.ba id=ba then match s.di id with
  |some (.arr sz dv)=>aa (sz,dv)
  |_=>ae
 else ae
def PS.cs(s:PS)(id ba:Nat):Option (List C):=
 if s.ba id=ba then match s.di id with
  |some (.loc cs)=>aa cs
  |_=>ae
 else ae
def PS.ents(s:PS)(id ba:Nat):Option (List (D×C)):=
 if s.ba id=ba then s.mp id else ae
def PS.K2(s:PS)(id ba:Nat):Option (Nat×Nat):=
 if s.ba id=ba then match s.di id with
  |some b=>b.Ei
  |none=>ae
 else ae
def PS.elc(s:PS)(id ba:Nat):Option (Nat×List (List C)):=
 if s.ba id=ba then match s.di id with
  |some (.arr sz dv)=>aa (sz,dv.map (·.map .d))
  |some (.ru sz dv)=>aa (sz,dv)
  |_=>ae
 else ae
def fV:List (List C)->Option (List (List D))
 |[]=>aa []
 |e::r=>match Mj e,fV r with
  |some x,aa l=>aa (x::l)
  |_,_=>ae
def Zn:B->B
 | .ru sz dv=>match fV dv with
  |some ds=> .arr sz ds
  |none=> .ru sz dv
 |b=>b
def V.live(s:PS):V->Bool
 | .d _=>ah
 | .ref id ba len=>match s.K2 id ba with
  |some (_,n)=>n==len
  |none=>ag
 | .o8 id ba=>(s.ents id ba).isSome
 | .gz id ba _=>(s.cs id ba).isSome
 | .Iy id ba a _ _=>match s.K2 id ba with
  |some (_,n)=>n==a
  |none=>ag
 | .qb _ ids=>ids.all λp=>(s.cs p.1 p.2).isSome
 | .agg _=>ah
 | .Bb _=>ah
 | .Lm id ba _ _=>(s.cs id ba).isSome
 | .Iz id ba m _=>match s.K2 id ba with
  |some (_,n)=>n==m
  |none=>ag
 | .win id ba m _ _=>match s.K2 id ba with
  |some (_,n)=>n==m
  |none=>ag
 | .no=>ag
def C.one(s:PS):C->Bool
 | .d x=>x.one
 | .ref i v l=>(V.ref i v l).live s
 | .o8 i v=>(V.o8 i v).live s
 | .ptr i v o=>(V.gz i v o).live s
def V.cells(s:PS):V->Option (List C)
 | .d (.agg ds)=>aa (ds.map .d)
 | .d (.Bb _)=>ae
 | .d .any=>ae
 | .d x=>aa [.d x]
 | .ref i v l=>match s.K2 i v with
  |some (_,n)=>if n=l then aa [.ref i v l]else ae
  |none=>ae
 | .o8 i v=>match s.ents i v with
  |some _=>aa [.o8 i v]
  |none=>ae
 | .gz i v o=>match s.cs i v with
  |some _=>aa [.ptr i v o]
  |none=>ae
 | .agg cs=>aa cs
 |_=>ae
def Cw(s:PS)(n:Nat)(agg:Bool):V->Option V
 | .gz id ba off=>match s.cs id ba with
  |some cs=>if off+n<=cs.length then aa (mkv agg ((cs.drop off).take n))else ae
  |none=>ae
 | .Iy id ba a i off=>match s.dv id ba with
  |some (_,dv)=>match dv[i]? with
   |some e=>if dv.length=a/\off+n<=e.length then aa (mkd agg ((e.drop off).take n))else ae
   |none=>ae
  |none=>match s.elc id ba with
   |some (_,dv)=>match dv[i]? with
    |some e=>if dv.length=a/\off+n<=e.length then aa (mkv agg ((e.drop off).take n))else ae
    |none=>ae
   |none=>ae
 | .d (.ym cells off)=>if off+n<=cells.length then aa (mkd agg ((cells.drop off).take n))else ae
 |_=>ae
def G5(s:PS)(n:Nat)(xs:List C)(id ba a i off:Nat):Option nJ:=
 match s.elc id ba with
 |some (sz,dv)=>match dv[i]? with
  |some e=>if xs.all (C.one s)=ah/\dv.length=a/\xs.length=n/\off+n<=e.length then aa ([],.set id (.ru sz (dv.set i (patch e off xs))))else ae
  |none=>ae
 |none=>ae
def Ac(s:PS)(n:Nat)(xs:List C):V->Option nJ
 | .gz id ba off=>match s.cs id ba with
  |some cs=>if xs.all (C.one s)=ah/\xs.length=n/\off+n<=cs.length then aa ([],.set id (.loc (patch cs off xs)))else ae
  |none=>ae
 | .Iy id ba a i off=>match s.dv id ba with
  |some (sz,dv)=>match dv[i]?,Mj xs with
   |some e,aa ds=>if xs.all (C.one s)=ah/\dv.length=a/\ds.length=n/\off+n<=e.length then aa ([],.set id (.arr sz (dv.set i (patch e off ds))))else ae
   |_,_=>G5 s n xs id ba a i off
  |none=>G5 s n xs id ba a i off
 |_=>ae
def zo(s:PS)(n:Nat):V->V->Option nJ
 | .Iz id ba m j,.gz id2 a2b off=>match s.di id,s.cs id2 a2b with
  |some (.arr sz dv),aa cs=>if n=1/\s.ba id=ba/\dv.length=m/\off+1<=cs.length then aa ([],.Jn id (.arr sz (dv.take j)) id2 (.loc (patch cs off [.ref id (ba+1) j])))else ae
  |some (.ru sz dv),aa cs=>if n=1/\s.ba id=ba/\dv.length=m/\off+1<=cs.length then aa ([],.Jn id (.ru sz (dv.take j)) id2 (.loc (patch cs off [.ref id (ba+1) j])))else ae
  |_,_=>ae
 |_,_=>ae
def T2(s:PS)(off:Nat):V->Option V
 | .gz id ba o=>match s.cs id ba with
  |some _=>aa (.gz id ba (o+off))
  |none=>ae
 | .Iy id ba a i o=>match s.K2 id ba with
  |some (_,n)=>if n=a then aa (.Iy id ba a i (o+off))else ae
  |none=>ae
 | .d (.ym cells o)=>aa (.d (.ym cells (o+off)))
 |_=>ae
def Ld(s:PS)(n:Nat)(i:Int):V->Option V
 | .ref id ba len=>match s.K2 id ba with
  |some (sz,m)=>if sz=n/\m=len/\0<=i/\i<len then aa (.Iy id ba len i.toNat 0)else ae
  |none=>ae
 | .d (.gd sz l)=>if 0<=i/\sz=n then match l[i.toNat]? with
   |some e=>aa (.d (.ym e 0))
   |none=>ae
  else ae
 | .Lm id ba len sz=>if(s.cs id ba).isSome=ah/\sz=n/\0<=i/\i<len then aa (.gz id ba (i.toNat*n))else ae
 |_=>ae
def Pz(s:PS):TK->V->Option Int
 | .gd,.d (.gd _ l)=>aa l.length
 | .gd,.d .cj=>aa 0
 | .gd,.d .Pa=>aa 0
 | .str,.d (.str b)=>aa b.size
 | .map,.d .P0=>aa 0
 | .map,.d (.map es)=>aa es.length
 | .gd,.ref id ba len=>match s.K2 id ba with
  |some (_,n)=>if n=len then aa len else ae
  |none=>ae
 | .map,.o8 id ba=>match s.ents id ba with
  |some es=>aa es.length
  |none=>ae
 | .gd,.win id ba m _ l=>match s.K2 id ba with
  |some (_,n)=>if n=m then aa l else ae
  |none=>ae
 | .gd,.Lm id ba len _=>if(s.cs id ba).isSome=ah then aa len else ae
 |_,_=>ae
def GS(op:BinOp)(a b:ByteArray):Option D:=
 match op with
 | .eql=>aa (.bool (a.toList==b.toList))
 | .neq=>aa (.bool !(a.toList==b.toList))
 | .lss=>aa (.bool (Ws a.toList b.toList))
 | .leq=>aa (.bool (Ws a.toList b.toList||a.toList==b.toList))
 | .gtr=>aa (.bool !(Ws a.toList b.toList||a.toList==b.toList))
 | .geq=>aa (.bool !(Ws a.toList b.toList))
 | .add=>if a.size+b.size<=2^40 then aa (.str (a++b))else ae
 |_=>ae
def fC(op:BinOp)(k:IntKind)(a b:Int):Option D:=
 match op with
 | .add=>aa (.int k (k.wrap (a+b)))
 | .sub=>aa (.int k (k.wrap (a-b)))
 | .mul=>aa (.int k (k.wrap (a*b)))
 | .quo=>if b=0 then ae else aa (.int k (k.wrap (a.tdiv b)))
 | .rem=>if b=0 then ae else aa (.int k (a.tmod b))
 | .and=>aa (.int k (k.wrap (a8y k.bits a&&&a8y k.bits b).toNat))
 | .or=>aa (.int k (k.wrap (a8y k.bits a|||a8y k.bits b).toNat))
 | .xor=>aa (.int k (k.wrap (a8y k.bits a^^^a8y k.bits b).toNat))
 | .andNot=>aa (.int k (k.wrap (a8y k.bits a&&& ~~~a8y k.bits b).toNat))
 | .eql=>aa (.bool (a==b))
 | .neq=>aa (.bool (a !=b))
 | .lss=>aa (.bool (a<b))
 | .leq=>aa (.bool (a<=b))
 | .gtr=>aa (.bool (a>b))
 | .geq=>aa (.bool (a>=b))
 | .shl=>if b<0 then ae else aa (.int k (k.wrap (a*2^(min b.toNat k.bits))))
 | .shr=>if b<0 then ae else aa (.int k (a.fdiv (2^(min b.toNat k.bits))))
def pN(op:BinOp):D->D->Option D
 | .int k a,.int k' b=>if op= .shl\/op= .shr\/k=k' then fC op k a b else ae
 | .str a,.str b=>GS op a b
 |_,_=>ae
def Ps:LK->D->D->Option Bool
 | .int,.int k a,.int k' b=>if k=k' then aa (a==b)else ae
 | .str,.str a,.str b=>aa (a==b)
 | .bool,.bool a,.bool b=>aa (a==b)
 |_,_,_=>ae
def C3:List LK->List D->List D->Option Bool
 |[],[],[]=>aa ah
 |k::ks,a::x,b::y=>match Ps k a b,C3 ks x y with
  |some p,aa q=>aa (p&&q)
  |_,_=>ae
 |_,_,_=>ae
def G3:KK->D->D->Option Bool
 | .one k,a,b=>Ps k a b
 | .row ks,.agg x,.agg y=>C3 ks x y
 |_,_,_=>ae
def isNil(s:PS):TK->V->Option Bool
 | .gd,.d .cj=>aa ah
 | .gd,.d .Pa=>aa ag
 | .gd,.d (.gd _ (_::_))=>aa ag
 | .gd,.ref i v l=>if(V.ref i v l).live s then aa ag else ae
 | .ptr,.d .Y9=>aa ah
 | .ptr,.d (.ym ..)=>aa ag
 | .ptr,.gz i v o=>if(V.gz i v o).live s then aa ag else ae
 | .ptr,.Iy i v l j o=>if(V.Iy i v l j o).live s then aa ag else ae
 | .map,.d .P0=>aa ah
 | .map,.d (.map _)=>aa ag
 | .map,.o8 i v=>if(V.o8 i v).live s then aa ag else ae
 | .fn,.d .y0=>aa ah
 | .fn,.d (.qb ..)=>aa ag
 | .fn,.qb f ids=>if(V.qb f ids).live s then aa ag else ae
 |_,_=>ae
def aR:List (D×C)->Option (List (D×D))
 |[]=>aa []
 |(k,.d x)::r=>match aR r with
  |some l=>aa ((k,x)::l)
  |none=>ae
 |_::_=>ae
def Rs(s:PS):C->Option (D×List Nat)
 | .d x=>aa (x,[])
 | .ref id ba len=>match s.dv id ba with
  |some (sz,dv)=>if dv.length=len then aa (.gd sz dv,[id])else ae
  |none=>ae
 | .o8 id ba=>match s.ents id ba with
  |some es=>(aR es).map λds=>(.map ds,[id])
  |none=>ae
 | .ptr .. =>ae
def Qh(s:PS):List C->Option (List D×List Nat)
 |[]=>aa ([],[])
 |c::r=>match Rs s c,Qh s r with
  |some (x,i),aa (l,j)=>aa (x::l,i++j)
  |_,_=>ae
def Nc:List C->List (Nat×Nat×List C)->Option (List C)
 |cells,[]=>aa cells
 |cells,(off,n,xs)::r=>if xs.length=n/\off+n<=cells.length then Nc (patch cells off xs) r else ae
def Xk:List D->List (Nat×Nat×List D)->Option (List D)
 |cells,[]=>aa cells
 |cells,(off,n,xs)::r=>if xs.length=n/\off+n<=cells.length then Xk (patch cells off xs) r else ae
def Kr(s:PS):List (Nat×Nat×ov)->Option (List (Nat×Nat×List C))
 |[]=>aa []
 |(o,n,x)::r=>match(x.ev s).cells s,Kr s r with
  |some cs,aa l=>aa ((o,n,cs)::l)
  |_,_=>ae
def Po(s:PS):List (Nat×Nat×ov)->Option (List (Nat×Nat×List D)×List Nat)
 |[]=>aa ([],[])
 |(o,n,x)::r=>match(x.ev s).cells s,Po s r with
  |some cs,aa (l,j)=>match Qh s cs with
   |some (ds,i)=>aa ((o,n,ds)::l,i++j)
   |none=>ae
  |_,_=>ae
def chunks{α:Type}(sz:Nat):Nat->List α->List (List α)
 |0,_=>[]
 |n+1,l=>l.take sz::chunks sz n (l.drop sz)
def pj(s:PS):V->Option (List (List D)×Option Nat)
 | .d .cj=>aa ([],ae)
 | .d .Pa=>aa ([],ae)
 | .d (.gd sz l)=>aa (l,aa sz)
 | .ref id ba len=>match s.dv id ba with
  |some (sz,dv)=>if dv.length=len then aa (dv,aa sz)else ae
  |none=>ae
 | .win id ba n o l=>match s.dv id ba with
  |some (sz,dv)=>if dv.length=n/\o+l<=n then aa ((dv.drop o).take l,aa sz)else ae
  |none=>ae
 |_=>ae
def Qk:KK->D->Bool
 | .one _,_=>ah
 | .row ks,.agg xs=>xs.length==ks.length
 |_,_=>ag
def Iv{α:Type}(c:KK)(k:D):List (D×α)->Option (Option α)
 |[]=>if Qk c k=ah then aa ae else ae
 |(a,b)::r=>match G3 c k a with
  |some ah=>aa (aa b)
  |some ag=>Iv c k r
  |none=>ae
def O9{α:Type}(c:KK)(k:D)(v:α):List (D×α)->Option (List (D×α))
 |[]=>if Qk c k=ah then aa [(k,v)]else ae
 |(a,b)::r=>match G3 c k a with
  |some ah=>aa ((k,v)::r)
  |some ag=>(O9 c k v r).map ((a,b):: ·)
  |none=>ae
def Wx(s:PS):Option ov->Option (Option Nat)
 |none=>aa ae
 |some x=>match x.ev s with
  | .d (.int _ k)=>if 0<=k then aa (aa k.toNat)else ae
  |_=>ae
def Sk(s:PS)(n:Nat):Option ov->Option Nat
 |none=>aa n
 |some x=>match x.ev s with
  | .d (.int _ k)=>if 0<=k then aa k.toNat else ae
  |_=>ae
def Ud(s:PS)(n a:Nat):V->Option nJ
 | .d (.gd sz l)=>if sz=n/\a<=l.length then aa (my.uk (.d (if a=0/\l≠[]then .Pa else .gd sz (l.take a))))else ae
 | .d .Pa=>if a=0 then aa (my.uk (.d .Pa))else ae
 | .d .cj=>if a=0 then aa (my.uk (.d .cj))else ae
 | .ref id ba n0=>match s.dv id ba with
  |some (sz,dv)=>if sz=n/\dv.length=n0/\a<=n0 then aa ([],.cut (.ref id (s.ba id+1) a) id (.arr sz (dv.take a)))else ae
  |none=>ae
 |_=>ae
def Lc(s:PS):V->Option (List (D×C))
 | .d .P0=>aa []
 | .d (.map es)=>aa (es.map λe=>(e.1,.d e.2))
 | .o8 id ba=>s.ents id ba
 |_=>ae
def mkt(cs:List C):V:=
 match Mj cs with
 |some ds=> .d (.Bb ds)
 |none=> .Bb cs
def V.ent(s:PS):V->Option C
 | .d x=>aa (.d x)
 | .ref i v l=>if(V.ref i v l).live s then aa (.ref i v l)else ae
 | .o8 i v=>if(V.o8 i v).live s then aa (.o8 i v)else ae
 | .gz i v o=>if(V.gz i v o).live s then aa (.ptr i v o)else ae
 |_=>ae
def mJ(s:PS)(id ba m l:Nat)(lo a mx:Option ov):Option V:=
 match Wx s lo,Sk s l a,Sk s m mx with
 |some i,aa j,aa k=>if i.getD 0<=j/\j<=m/\k=m/\(a=ae->mx=ae)then aa (.win id ba m (i.getD 0) (j-i.getD 0))else ae
 |_,_,_=>ae
def aQ(s:PS):V->Option (List (List C)×Option Nat)
 | .d .cj=>aa ([],ae)
 | .d .Pa=>aa ([],ae)
 | .d (.gd sz l)=>aa (l.map (·.map .d),aa sz)
 | .ref id ba len=>match s.elc id ba with
  |some (sz,dv)=>if dv.length=len then aa (dv,aa sz)else ae
  |none=>ae
 |_=>ae
def S3(s:PS)(d sz bytes:Nat)(x y:V):Option nJ:=
 match aQ s y with
 |some (ys,osz)=>if osz.getD sz=sz/\(ys.all λe=>e.all (C.one s))=ah then match x with
   | .d .cj=>if ys.length=0 then aa (my.uk (.d .cj))else if ys.length*bytes<=2^47 then aa ([],.new (.ref d (s.ba d+1) ys.length) d (.ru sz ys))else ae
   | .ref id ba n0=>match s.elc id ba with
    |some (sz',dv)=>if sz'=sz/\dv.length=n0/\(n0+ys.length)*bytes<=2^47 then aa ([],.grow (.ref id ba (n0+ys.length)) id (.ru sz (dv++ys)))else ae
    |none=>ae
   |_=>ae
  else ae
 |none=>ae
def lg.qi(d:Nat)(s:PS):lg->Option nJ
 | .kf x=>aa (my.uk (x.ev s))
 | .pick c a b=>match c.ev s with
  | .d (.bool ah)=>aa (my.uk (a.ev s))
  | .d (.bool ag)=>aa (my.uk (b.ev s))
  |_=>ae
 | .alloc zero=>aa ([],.new (.gz d (s.ba d+1) 0) d (.loc (zero.map .d)))
 | .box n x=>match(x.ev s).cells s with
  |some cs=>if cs.length=n then aa ([],.new (.gz d (s.ba d+1) 0) d (.loc cs))else ae
  |none=>ae
 | .load n agg x=>(Cw s n agg (x.ev s)).map my.uk
 | .store n a x=>match(x.ev s).cells s with
  |some cs=>Ac s n cs (a.ev s)
  |none=>zo s n (x.ev s) (a.ev s)
 | .Zq x=>match isNil s .ptr (x.ev s),isNil s .fn (x.ev s)with
  |some ag,_=>aa (my.uk (x.ev s))
  |_,aa ag=>aa (my.uk (x.ev s))
  |_,_=>ae
 | .Ai off x=>(T2 s off (x.ev s)).map my.uk
 | .y9 h n x i=>match i.ev s with
  | .d (.int _ k)=>if 0<=k/\k<h then(T2 s (k.toNat*n) (x.ev s)).map my.uk else ae
  |_=>ae
 | .xn n x i=>match i.ev s with
  | .d (.int _ k)=>(Ld s n k (x.ev s)).map my.uk
  |_=>ae
 | .dB x i=>match x.ev s,i.ev s with
  | .d (.str b),.d (.int _ k)=>match(if 0<=k then b[k.toNat]? else ae)with
   |some u=>aa (my.uk (.d (.int .u8 u.toNat)))
   |none=>ae
  |_,_=>ae
 | .iE off n agg x=>match x.ev s with
  | .d (.agg ds)=>if off+n<=ds.length then aa (my.uk (mkd agg ((ds.drop off).take n)))else ae
  | .agg cs=>if off+n<=cs.length then aa (my.uk (mkv agg ((cs.drop off).take n)))else ae
  |_=>ae
 | .len k x=>(Pz s k (x.ev s)).map λn=>my.uk (.d (.int aj n))
 | .bin op x y=>match x.ev s,y.ev s with
  | .d a,.d b=>(pN op a b).map λr=>my.uk (.d r)
  |_,_=>ae
 | .eqs ks neg x y=>match x.ev s,y.ev s with
  | .d (.agg a),.d (.agg b)=>(C3 ks a b).map λr=>my.uk (.d (.bool (if neg then !r else r)))
  |_,_=>ae
 | .beq neg x y=>match x.ev s,y.ev s with
  | .d (.bool a),.d (.bool b)=>aa (my.uk (.d (.bool (if neg then !(a==b)else a==b))))
  |_,_=>ae
 | .Kt k neg x=>(isNil s k (x.ev s)).map λr=>my.uk (.d (.bool (if neg then !r else r)))
 | .un op x=>match op,x.ev s with
  | .not,.d (.bool b)=>aa (my.uk (.d (.bool !b)))
  | .neg,.d (.int k n)=>aa (my.uk (.d (.int k (k.wrap (0-n)))))
  |_,_=>ae
 | .conv k x=>match x.ev s with
  | .d (.int _ n)=>aa (my.uk (.d (.int k (k.wrap n))))
  |_=>ae
 | .fO x=>match x.ev s with
  | .d (.str b)=>aa (my.uk (.d (.str b)))
  |_=>ae
 | .build zero parts=>match Kr s parts with
  |some ps=>match Nc (zero.map .d) ps with
   |some cs=>aa (my.uk (mkv ah cs))
   |none=>ae
  |none=>ae
 | .xz A n sz zero parts=>match Po s parts with
  |some (ps,ids)=>match Xk ((jq n zero).flatten) ps with
   |some ds=>match A,ids with
    |true,[]=>aa (my.uk (.d (.gd sz (chunks sz n ds))))
    |true,_=>ae
    |false,ids=>aa (ids,.new (.ref d (s.ba d+1) n) d (.arr sz (chunks sz n ds)))
   |none=>ae
  |none=>ae
 | .app sz bytes x y=>match pj s (y.ev s)with
  |some (ys,osz)=>if osz.getD sz=sz then match x.ev s with
    | .d .cj=>if ys.length=0 then aa (my.uk (.d .cj))else if ys.length*bytes<=2^47 then aa ([],.new (.ref d (s.ba d+1) ys.length) d (.arr sz ys))else ae
    | .ref id ba n0=>match s.dv id ba with
     |some (sz',dv)=>if(ys.all λe=>e.all D.one)=ah/\sz'=sz/\dv.length=n0/\(n0+ys.length)*bytes<=2^47 then aa ([],.grow (.ref id ba (n0+ys.length)) id (.arr sz (dv++ys)))else ae
     |none=>S3 s d sz bytes (.ref id ba n0) (y.ev s)
    | .win id ba n o k=>match s.dv id ba with
     |some (sz',dv)=>if(ys.all λe=>e.all D.one)=ah/\sz'=sz/\dv.length=n/\o=0/\k+ys.length<=n then aa ([],.grow (.win id ba n 0 (k+ys.length)) id (.arr sz (dv.take k++ys++dv.drop (k+ys.length))))else ae
     |none=>ae
    |_=>ae
   else ae
  |none=>S3 s d sz bytes (x.ev s) (y.ev s)
 | .dT n sz zero parts=>match Kr s parts with
  |some ps=>match Nc (((jq n zero).flatten).map .d) ps with
   |some cs=>if cs.all (C.one s)=ah then aa ([],.new (.ref d (s.ba d+1) n) d (.ru sz (chunks sz n cs)))else ae
   |none=>ae
  |none=>ae
 | .P9 n x j=>match x.ev s,j.ev s with
  | .ref id ba m,.d (.int _ k)=>match s.dv id ba with
   |some (sz,dv)=>if sz=n/\dv.length=m/\0<=k/\k<=m then aa ([],.cut (.ref id (s.ba id+1) k.toNat) id (.arr sz (dv.take k.toNat)))else ae
   |none=>ae
  | .d .cj,.d (.int _ k)=>if k=0 then aa (my.uk (.d .cj))else ae
  |_,_=>ae
 | .dP .. =>ae
 | .bad=>ae
 | .Ot n x lo p mx=>match x.ev s with
  | .ref id ba m=>if 0<m/\s.K2 id ba=aa (n,m)then(mJ s id ba m m lo p mx).map my.uk else ae
  | .win id ba m o l=>if o=0/\s.K2 id ba=aa (n,m)then(mJ s id ba m l lo p mx).map my.uk else ae
  |_=>ae
 | .trim x=>match x.ev s with
  | .win id ba n o l=>match s.dv id ba with
   |some (sz,dv)=>if dv.length=n/\o=0 then aa ([],.cut (.ref id (s.ba id+1) l) id (.arr sz (dv.take l)))else ae
   |none=>ae
  |_=>ae
 | .clr z x=>match x.ev s with
  | .win id ba n o l=>match s.dv id ba with
   |some (sz,dv)=>if dv.length=n/\z.length=sz/\z.all D.one=ah then aa ([],.set id (.arr sz (dv.take o++jq l z++dv.drop (o+l))))else ae
   |none=>ae
  |_=>ae
 | .iG sz bytes zero x y=>match x.ev s,y.ev s with
  | .d .cj,.d (.int _ k)=>if 0<k/\k*bytes<=2^47 then aa ([],.new (.ref d (s.ba d+1) k.toNat) d (.arr sz (jq k.toNat zero)))else ae
  |_,_=>ae
 | .vQ x=>match x.ev s with
  | .d .cj=>aa (my.uk (.d (.int aj 0)))
  |_=>ae
 | .vY h n x=>match x.ev s with
  | .gz id ba 0=>match s.cs id ba with
   |some cs=>if cs.length=h*n then aa (my.uk (.Lm id ba h n))else ae
   |none=>ae
  |_=>ae
 | .Iz n x j k=>match x.ev s,j.ev s,k.ev s with
  | .ref id ba m,.d (.int _ a),.d (.int _ b)=>if a=b/\0<=a/\a<=m/\s.K2 id ba=aa (n,m)then aa (my.uk (.Iz id ba m a.toNat))else ae
  |_,_,_=>ae
 | .slice n x lo p=>match x.ev s,Wx s lo with
  | .d (.gd sz l),aa i=>match Sk s l.length p with
   |some j=>if sz=n/\i.getD 0<=j/\j<=l.length then aa (my.uk (.d (.gd sz ((l.take j).drop (i.getD 0)))))else ae
   |none=>ae
  | .d .cj,aa i=>match Sk s 0 p with
   |some j=>if i.getD 0=0/\j=0 then aa (my.uk (.d .cj))else ae
   |none=>ae
  |_,_=>ae
 | .Ks=>aa ([],.gG (.o8 d (s.ba d+1)) d)
 | .lookup w zero x i ok=>match Lc s (x.ev s),i.ev s with
  |some es,.d k=>match Iv w k es with
   |some r=>aa (my.uk (if ok then mkt [r.getD (.d zero),.d (.bool r.isSome)]else(r.getD (.d zero)).toV))
   |none=>ae
  |_,_=>ae
 | .cK w x k v=>match x.ev s,k.ev s,(v.ev s).ent s with
  | .o8 id ba,.d k,aa v=>match s.ents id ba with
   |some es=>(O9 w k v es).map λq=>([],.bQ id q)
   |none=>ae
  |_,_,_=>ae
 | .Oj f j9=>match j9 with
  |[.t a]=>match s.tmp a with
   | .gz id ba 0=>aa (my.uk (.qb f [(id,ba)]))
   | .d x=>aa (my.uk (.d (.qb f [x])))
   |_=>ae
  |[.t a,.t b]=>match s.tmp a,s.tmp b with
   | .gz id ba 0,.gz id' nT 0=>aa (my.uk (.qb f [(id,ba),(id',nT)]))
   | .d x,.d y=>aa (my.uk (.d (.qb f [x,y])))
   |_,_=>ae
  |[]=>aa (my.uk (.d (.qb f [])))
  |_=>ae
 | .ext x i=>match x.ev s with
  | .d (.Bb vs)=>(vs[i]?).map λx=>my.uk (.d x)
  | .Bb cs=>(cs[i]?).map λc=>my.uk c.toV
  |_=>ae
 | .Fm mx x y=>match x.ev s,y.ev s with
  | .d (.int k a),.d (.int _ b)=>aa (my.uk (.d (.int k (if mx then(if b>a then b else a)else(if b<a then b else a)))))
  |_,_=>ae
 | .call .. =>ae
 | .zq .. =>ae
 | .zr n=>aa ([],.new (.gz d (s.ba d+1) 0) d (.Tj n))
 | .init g n x=>match s.tmp g,s.di (s.base+g),(x.ev s).cells s with
  | .gz id ba 0,aa (.Tj m),aa cs=>if id=s.base+g/\s.ba (s.base+g)=ba/\m=n/\cs.length=n/\cs.all (C.one s)=ah then aa ([],.init (.gz (s.base+g) (s.ba (s.base+g)+1) 0) g (s.base+g) cs)else ae
  |_,_,_=>ae
 | .slice3 n x j k=>match j.ev s,k.ev s with
  | .d (.int _ a),.d (.int _ b)=>if a=b/\0<=a then Ud s n a.toNat (x.ev s)else ae
  |_,_=>ae
 | .kX h n agg x i=>match x.ev s,i.ev s with
  | .d (.agg ds),.d (.int _ k)=>if 0<=k/\k<h/\k.toNat*n+n<=ds.length then aa (my.uk (mkd agg ((ds.drop (k.toNat*n)).take n)))else ae
  |_,_=>ae
 | .Aq .. =>ae
 | .Xm .. =>ae
 | .Od .. =>ae
 | .ua .. =>ae
 | .Q3 .. =>ae
def PS.put(s:PS)(d:Option Nat)(v:V):PS:={s with tmp:=match d with|some d=>lu s.tmp d v|none=>s.tmp}
def PS.vz:List Nat->PS->PS
 |[],s=>s
 |i::r,s=>PS.vz r {s with di:=lu s.di i ae,mp:=lu s.mp i ae}
def C.x7(s:PS)(ids:List Nat):C->C
 | .d x=> .d x
 | .ref id ba len=>if id∈ids then match s.dv id ba with
   |some (sz,dv)=>if dv.length=len then .d (.gd sz dv)else .ref id ba len
   |none=> .ref id ba len
  else .ref id ba len
 | .o8 id ba=>if id∈ids then match(s.ents id ba).bind aR with
   |some es=> .d (.map es)
   |none=> .o8 id ba
  else .o8 id ba
 | .ptr id ba off=> .ptr id ba off
def V.x7(s:PS)(ids:List Nat):V->V
 | .ref id ba len=>(C.x7 s ids (.ref id ba len)).toV
 | .o8 id ba=>(C.x7 s ids (.o8 id ba)).toV
 | .agg cs=>mkv ah (cs.map (C.x7 s ids))
 | .Bb cs=> .Bb (cs.map (C.x7 s ids))
 |v=>v
def PS.x7(s:PS)(ids:List Nat):PS:=
 match ids with
 |[]=>s
 |ids=>PS.vz ids {s with
   tmp:=λt=>(s.tmp t).x7 s ids
   di:=λi=>match s.di i with
    |some (.loc cs)=>aa (.loc (cs.map (C.x7 s ids)))
    |some (.ru sz dv)=>aa (Zn (.ru sz (dv.map λe=>e.map (C.x7 s ids))))
    |b=>b
   mp:=λi=>(s.mp i).map λes=>es.map λe=>(e.1,C.x7 s ids e.2)}
def my.app(d:Option Nat)(s:PS):my->PS
 | .val v=>s.put d v
 | .new v id b=>PS.put {s with di:=lu s.di id (aa b),ba:=lu s.ba id (s.ba id+1)} d v
 | .set id b=>PS.put {s with di:=lu s.di id (aa b)} d .no
 | .Jn id b a b2=>PS.put {s with di:=lu (lu s.di id (aa b)) a (aa b2),ba:=lu s.ba id (s.ba id+1)} d .no
 | .grow v id b=>PS.put {s with di:=lu s.di id (aa b)} d v
 | .gG v id=>PS.put {s with mp:=lu s.mp id (aa []),ba:=lu s.ba id (s.ba id+1)} d v
 | .bQ id es=>PS.put {s with mp:=lu s.mp id (aa es)} d .no
 | .init v t id cs=>{s with tmp:=lu s.tmp t v,di:=lu s.di id (aa (.loc cs)),ba:=lu s.ba id (s.ba id+1)}
 | .cut v id b=>PS.put {s with di:=lu s.di id (aa b),ba:=lu s.ba id (s.ba id+1)} d v
 | .mem m v=>(s.ke m).put d v
def Ru{α:Type}:List (Option α)->Option (List α)
 |[]=>aa []
 |x::r=>match x,Ru r with
  |some x,aa l=>aa (x::l)
  |_,_=>ae
def deep(s:PS):Nat->C->Option D
 |_,.d x=>aa x
 |0,_=>ae
 |n+1,.ref id ba len=>match s.elc id ba with
  |some (sz,dv)=>if dv.length=len then(Ru (dv.map λe=>Ru (e.map (deep s n)))).map (.gd sz)else ae
  |none=>ae
 |n+1,.o8 id ba=>match s.ents id ba with
  |some es=>(Ru (es.map λe=>(deep s n e.2).map λx=>(e.1,x))).map .map
  |none=>ae
 |_,.ptr .. =>ae
def ow(s:PS):C->Option D
 | .d x=>aa x
 | .ref id ba len=>match s.dv id ba with
  |some (sz,dv)=>if dv.length=len then aa (.gd sz dv)else ae
  |none=>deep s 6 (.ref id ba len)
 | .o8 id ba=>deep s 6 (.o8 id ba)
 | .ptr .. =>ae
def k9(s:PS):List C->Option (List D)
 |[]=>aa []
 |c::r=>match ow s c,k9 s r with
  |some x,aa l=>aa (x::l)
  |_,_=>ae
def snap(s:PS):V->Option D
 | .d x=>aa x
 | .ref id ba len=>match s.dv id ba with
  |some (sz,dv)=>if dv.length=len then aa (.gd sz dv)else ae
  |none=>deep s 6 (.ref id ba len)
 | .o8 id ba=>deep s 6 (.o8 id ba)
 | .gz id ba off=>match s.cs id ba with
  |some cs=>(k9 s cs).map λds=> .ym ds off
  |none=>ae
 | .qb f [(id,ba)]=>match s.cs id ba with
  |some cs=>(k9 s cs).map λds=> .qb f [.ym ds 0]
  |none=>ae
 | .qb f [(id,ba),(id',nT)]=>match s.cs id ba,s.cs id' nT with
  |some cs,aa cs'=>match k9 s cs,k9 s cs' with
   |some ds,aa ds'=>aa (.qb f [.ym ds 0,.ym ds' 0])
   |_,_=>ae
  |_,_=>ae
 | .agg cs=>(k9 s cs).map .agg
 | .Lm id ba len n=>match s.cs id ba with
  |some cs=>match k9 s cs with
   |some ds=>if ds.length=len*n/\0<n then aa (.gd n (chunks n len ds))else ae
   |none=>ae
  |none=>ae
 |_=>ae
def Ln(s:PS):List V->Option (List D)
 |[]=>aa []
 |v::r=>match snap s v,Ln s r with
  |some x,aa l=>aa (x::l)
  |_,_=>ae
def V.isD:V->Bool
 | .d _=>ah
 |_=>ag
def IY(P:Program)(c:Nat->V×Value)(f:Nat)(args:List D)(r:D):Prop:=
 B3 P f=ah/\∀(G:ix) (w:World) (vs:Array Value),(∀(i:Nat) (d:D) (v:Value),c i=(V.d d,v)->iz G d v)->(∀i,Xo (c i) w.heap.size w)->GOk G w->vs.size=args.length->(∀(i:Nat) (x:D) (v:Value),args[i]? =aa x->vs[i]? =aa v->iz G x v)->
  Calls P f vs w λe w'=>∃v G',e= .returned v/\G.le G'/\G.same G' w.heap.size/\GOk G' w'/\Bel (Plain c) w.heap.size w w'/\iz G' r v
theorem iv.toC{P:Program}{c:Nat->V×Value}{f:Nat}{args:List D}{r:D}(h:iv P f args r):IY P c f args r:=⟨h.1,λG w vs _ _ j k l=>(h.2 G w vs j k l).mono λ_ _ ⟨v,G',a,b,d,e,g,i⟩=>⟨v,G',a,b,d,e,g.Nl λ_=>trivial,i⟩⟩
def Gt(P:Program)(f:Nat)(args:List V)(j9:List D)(own:Bool)(d:Option Nat)(s:PS)(K:PS->Prop):Prop:=
 ∃ds r,Ln s args=aa ds/\IY P s.ctx f (ds++j9) r/\(r.flat=ah\/(own=ag/\args.all V.isD=ah))/\K (s.put d (.d r))
structure B5(s s':PS)(i ba:Nat):Prop where
 dv:s'.dv i ba=s.dv i ba
 cs:s'.cs i ba=s.cs i ba
 ents:s'.ents i ba=s.ents i ba
 elc:s'.elc i ba=s.elc i ba
 K2:s'.K2 i ba=s.K2 i ba
 dp:∀n c,(∃l,c= .ref i ba l)\/c= .o8 i ba->deep s' n c=deep s n c
def J1(s s':PS):C->Prop
 | .d _=>True
 | .ref i ba _=>B5 s s' i ba
 | .o8 i ba=>B5 s s' i ba
 | .ptr i ba _=>B5 s s' i ba
def T8(s s':PS)(i ba:Nat):Prop:=B5 s s' i ba/\∀cs,s.cs i ba=aa cs->∀c∈cs,J1 s s' c
def K0(s s':PS):V->Prop
 | .d _=>True
 | .ref i ba _=>B5 s s' i ba
 | .o8 i ba=>B5 s s' i ba
 | .gz i ba _=>T8 s s' i ba
 | .Iy i ba _ _ _=>B5 s s' i ba
 | .qb _ ids=>∀p∈ids,T8 s s' p.1 p.2
 | .agg cs=>∀c∈cs,J1 s s' c
 | .Bb cs=>∀c∈cs,J1 s s' c
 | .Lm i ba _ _=>T8 s s' i ba
 | .Iz i ba _ _=>B5 s s' i ba
 | .win i ba _ _ _=>B5 s s' i ba
 | .no=>True
def sl(P:Program)(f:Nat)(m:Mem)(args:List V)(m':Mem)(r:V):Prop:=
 B3 P f=ah/\∀(s:PS) (B0:Nat) (w0:World) (c:Nat) (b G:ix) (E:Env) (a:Act) (w:World) (vs:Array Value),s.mem=m->jw B0 w0 c b s G E a w->vs.size=args.length->
  (∀(i:Nat) (x:V) (v:Value),args[i]? =aa x->vs[i]? =aa v->j4 G E s x v)->
  Calls P f vs w λe w'=>∃v G' E',e= .returned v/\jw B0 w0 c b (s.ke m') G' E' a w'/\j4 G' E' (s.ke m') r v
def OG(P:Program)(f:Nat)(s:PS)(args:List V)(r:D):Prop:=
 ∀a:PS,(∀x∈args,K0 s a x)->sl P f a.mem args a.mem (.d r)
def Fg(P:Program)(f:Nat)(s:PS)(args:List V)(R:Mem->V->Prop):Prop:=
 B3 P f=ah/\∀(B0:Nat) (w0:World) (c:Nat) (b G:ix) (E:Env) (a:Act) (w:World) (vs:Array Value),jw B0 w0 c b s G E a w->vs.size=args.length->
  (∀(i:Nat) (x:V) (v:Value),args[i]? =aa x->vs[i]? =aa v->j4 G E s x v)->
  Calls P f vs w λe w'=>∃v G' E' m' r,e= .returned v/\R m' r/\jw B0 w0 c b (s.ke m') G' E' a w'/\j4 G' E' (s.ke m') r v
def PS.dR(s:PS)(ts:List Nat):PS:={s with tmp:=λt=>if t∈ts then .no else s.tmp t}
def II(s:PS)(id:Nat)(b:KK)(sz bytes:Nat)(x k y:V)(ts:List Nat)(s':PS):Prop:=
 s.di id=ae/\s.mp id=ae/\∃m ba key es ys osz,x= .o8 m ba/\k= .d key/\s.ents m ba=aa es/\pj s y=aa (ys,osz)/\osz.getD sz=sz/\ys≠[]/\(ys.all λe=>e.all D.one)=ah/\es.length<2^30/\
  ((Iv b key es=aa ae/\ys.length*bytes<=2^47/\∃a,O9 b key (.ref id (s.ba id+1) ys.length) es=aa a/\
    s'=PS.dR {s with di:=lu s.di id (aa (.arr sz ys)),ba:=lu s.ba id (s.ba id+1),mp:=lu s.mp m (aa a)} ts)\/
   (∃i v0 n0 dv,Iv b key es=aa (aa (.ref i v0 n0))/\s.dv i v0=aa (sz,dv)/\dv.length=n0/\(n0+ys.length)*bytes<=2^47/\∃a,O9 b key (.ref i v0 (n0+ys.length)) es=aa a/\
    s'=PS.dR {s with di:=lu s.di i (aa (.arr sz (dv++ys))),mp:=lu s.mp m (aa a)} ts))
def Ig(P:Program)(o:RI)(s:PS)(K:PS->Prop):Prop:=
 match o.op with
 | .dP a sz bytes x k y ts=>∃id s',II s id a sz bytes (x.ev s) (k.ev s) (y.ev s) ts s'/\K (s'.put o.dst .no)
 | .ua f args=>∃R,Fg P f s (args.map (·.ev s)) R/\∀m' r,R m' r->K ((s.ke m').put o.dst r)
 | .Q3 f args=>match f.ev s with
  | .d (.qb g j9)=>∃R,Fg P g s (args.map (·.ev s)++j9.map .d) R/\∀m' r,R m' r->K ((s.ke m').put o.dst r)
  |_=>False
 | .Aq f args=>∃m' r,sl P f s.mem (args.map (·.ev s)) m' r/\K ((s.ke m').put o.dst r)
 | .Xm f args=>∃r,OG P f s (args.map (·.ev s)) r/\K (s.put o.dst (.d r))
 | .Od f args=>match f.ev s with
  | .d (.qb g j9)=>∃m' r,sl P g s.mem (args.map (·.ev s)++j9.map .d) m' r/\K ((s.ke m').put o.dst r)
  |_=>False
 | .call f args=>Gt P f (args.map (·.ev s)) [] ag o.dst s K
 | .zq f args=>match snap s (f.ev s)with
  |some (.qb g j9)=>Gt P g (args.map (·.ev s)) j9 (!(f.ev s).isD) o.dst s K
  |_=>False
 |op=>match op.qi (s.base+o.dst.getD 0) s with
  |some (ids,e)=>K (e.app o.dst (s.vz ids))
  |none=>False
def wanted(o:RI)(s:PS):Option Bool:=
 match o.guard with
 |none=>aa ah
 |some (t,b)=>match s.tmp t with
  | .d (.bool c)=>aa (c==b)
  | .d (.Bb [])=>aa ag
  |_=>ae
def mc(P:Program):List RI->PS->(PS->Prop)->Prop
 |[],s,K=>K s
 |o::r,s,K=>match wanted o s with
  |some ah=>Ig P o s λs'=>mc P r s' K
  |some ag=>mc P r (s.put o.dst (.d (.Bb []))) K
  |none=>False
def RI.s8(o:RI):List Nat:=
 match o.op with
 | .alloc _| .box .. | .Ks| .zr _=>o.dst.toList
 | .init g .. =>[g]
 |_=>[]
def s8(ops:List RI):List Nat:=ops.flatMap RI.s8
def sh(b:Nat)(l:List Nat):List Nat:=l.map (b+ ·)
def l7(P:Program):eh->(Exit->PS->Prop)->PS->Prop
 | .skip,Q,s=>Q .normal s
 | .region ops draw fz,Q,s=>mc P ops (if draw=ah then(s.x7 (sh s.base fz)).vz (sh s.base (s8 ops))else s.x7 (sh s.base fz)) (Q .normal)
 | .seq a b,Q,s=>l7 P a (λe s'=>match e with| .normal=>l7 P b Q s'|e=>Q e s') s
 | .cond c a b,Q,s=>match c.ev s with
  | .d (.bool x)=>if x then l7 P a Q s else l7 P b Q s
  |_=>False
 | .block id c,Q,s=>l7 P c (λe s'=>match e with| .exit i=>if i=id then Q .normal s' else Q (.exit i) s'|e=>Q e s') s
 | .loop c,Q,s=>∃(I:PS->Prop) (m:PS->Nat),I s/\∀s',I s'->l7 P c (λe f=>match e with| .normal=>I f/\m f<m s'|e=>Q e f) s'
 | .freeze,Q,s=>∃ids,Q .normal (s.x7 ids)
 | .AA l,Q,s=>∃I:(Nat->Bool)->PS->Prop,I (λ_=>ag) s/\∀A s',I A s'->
   ((∀i,i<l.length->A i=ah)->Q .normal s')/\∀i o,l[i]? =aa o->A i=ag->(∀j∈o.after,A j=ah)->mc P [o] s' (I (lu A i ah))
 | .both a b,Q,s=>l7 P a Q s/\l7 P b Q s
 | .exit id,Q,s=>Q (.exit id) s
 | .ret,Q,s=>Q .ret s
def Zg(s:PS):V->Option D
 | .d x=>aa x
 | .ref id ba len=>(Rs s (.ref id ba len)).map (·.1)
 | .o8 id ba=>(Rs s (.o8 id ba)).map (·.1)
 | .agg cs=>(Qh s cs).map λp=> .agg p.1
 |_=>ae
inductive K1 where
 |tmp (t:Nat)
 |cell (t n:Nat) (agg:Bool)
 deriving Inhabited
def CZ(s:PS):K1->Option D
 | .tmp t=>Zg s (s.tmp t)
 | .cell t n agg=>match Cw s n agg (s.tmp t)with
  |some v=>Zg s v
  |none=>ae
def eP(s:PS):List K1->Option (List D)
 |[]=>aa []
 |r::l=>match CZ s r,eP s l with
  |some x,aa xs=>aa (x::xs)
  |_,_=>ae
def bY(s:PS)(l:List K1):Option D:=
 match l with
 |[r]=>CZ s r
 |l=>(eP s l).map .Bb
def V.toC:V->Option C
 | .d x=>aa (.d x)
 | .ref i v l=>aa (.ref i v l)
 | .o8 i v=>aa (.o8 i v)
 | .gz i v o=>aa (.ptr i v o)
 |_=>ae
def uq(s:PS):K1->Option V
 | .tmp t=>aa (s.tmp t)
 | .cell t n agg=>Cw s n agg (s.tmp t)
def K8(s:PS):List K1->Option (List C)
 |[]=>aa []
 |r::l=>match(uq s r).bind V.toC,K8 s l with
  |some x,aa xs=>aa (x::xs)
  |_,_=>ae
def qz(s:PS)(l:List K1):Option V:=
 match l with
 |[r]=>uq s r
 |l=>(K8 s l).map .Bb
def iW:Value->Option D
 | .int k n=>aa (.int k n)
 | .bool b=>aa (.bool b)
 | .string s=>aa (.str s)
 | .slice ae 0 0=>aa .cj
 | .pointer ae=>aa .Y9
 | .map ae=>aa .P0
 | .nilFunc=>aa .y0
 | .func (.func f) a b=>if a.size=0/\b.size=0 then aa (.qb f [])else ae
 |_=>ae
def AT:List Value->Option (List D)
 |[]=>aa []
 |v::r=>match iW v,AT r with
  |some x,aa l=>aa (x::l)
  |_,_=>ae
def Yq:Value->Option D
 | .agg cs=>(AT cs.toList).map .agg
 |v=>iW v
def xy:Operand->Option ov
 | .tmp t=>aa (.t t)
 | .const v=>(Yq v).map .c
 | .func f=>aa (.c (.qb f []))
 | .global _=>ae
def Jw:List Operand->Option (List ov)
 |[]=>aa []
 |x::r=>match xy x,Jw r with
  |some a,aa l=>aa (a::l)
  |_,_=>ae
section
variable(P:Program)
def lx(t:TypeId):Option Nat:=(P.info? t).map (·.size)
def C1(t:TypeId):Option Bool:=
 match P.underlying t with
 |some (.struct _)|some (.array _ _)=>aa ah
 |some _=>aa ag
 |none=>ae
def H0(t:TypeId):Option (List D):=
 match(P.info? t).bind (·.zero)with
 |some v=>AT v.cells.toList
 |none=>ae
def Ho(g:TypeId->Option (List LK)):List Field->Nat->Option (List LK)
 |[],_=>aa []
 |f::r,off=>if f.name≠ "_"/\f.offset=off then match g f.type with
   |some l=>if lx P f.type=aa l.length/\0<l.length then match Ho g r (off+l.length)with
     |some m=>aa (l++m)
     |none=>ae
    else ae
   |none=>ae
  else ae
def Cl:Nat->TypeId->Option (List LK)
 |0,_=>ae
 |n+1,t=>match P.underlying t with
  |some .bool=>if lx P t=aa 1 then aa [.bool]else ae
  |some (.int _)=>if lx P t=aa 1 then aa [.int]else ae
  |some .string=>if lx P t=aa 1 then aa [.str]else ae
  |some (.array len e)=>match Cl n e with
   |some l=>if lx P e=aa l.length/\0<l.length/\lx P t=aa (len*l.length)then aa (jq len l).flatten else ae
   |none=>ae
  |some (.struct fs)=>if P.stoodInHeld t=ag then match Ho P (Cl n) fs.toList 0 with
    |some l=>if lx P t=aa l.length then aa l else ae
    |none=>ae
   else ae
  |_=>ae
def S9(t:TypeId):Option KK:=
 match Cl P 8 t,C1 P t with
 |some [k],aa ag=>aa (.one k)
 |some ks,aa ah=>aa (.row ks)
 |_,_=>ae
def uK(k:TK):Operand->Bool
 | .const (.pointer ae)=>k= .ptr
 | .const (.slice ae 0 0)=>k= .gd
 | .const (.map ae)=>k= .map
 | .const .nilFunc=>k= .fn
 |_=>ag
def dY(op:BinOp)(x y:Operand)(k:TK)(a b:ov):Option lg:=
 if op= .eql\/op= .neq then
  if uK k y then aa (.Kt k (op= .neq) a)else if uK k x then aa (.Kt k (op= .neq) b)else ae
 else ae
def dQ(fs:Array Field):List (Nat×Operand)->Option (List (Nat×Nat×ov))
 |[]=>aa []
 |(i,x)::r=>match fs[i]?,xy x,dQ fs r with
  |some f,aa a,aa l=>match lx P f.type with
   |some n=>aa ((f.offset,n,a)::l)
   |none=>ae
  |_,_,_=>ae
def S0(n:Nat):List (Nat×Operand)->Option (List (Nat×Nat×ov))
 |[]=>aa []
 |(i,x)::r=>match xy x,S0 n r with
  |some a,aa l=>aa ((i*n,n,a)::l)
  |_,_=>ae
structure Ann where
 imm:List Nat:=[]
 x7:List (Nat×List Nat):=[]
 ce:List Nat:=[]
 cf:List Nat:=[]
 cr:List Nat:=[]
 kp:List Nat:=[]
 cv:List Nat:=[]
 dyn:List Nat:=[]
 od:List Nat:=[]
 ga:List Nat:=[]
def mZ:Option Operand->Option (Option ov)
 |none=>aa ae
 |some v=>(xy v).map aa
def U2(kp cv:Bool)(t:TypeId)(x:Operand)(lo a mx:Option Operand):Option lg:=
 match P.underlying t with
 |some (.slice e)=>if kp=ah then(match lx P e,xy x,mZ lo,mZ a,mZ mx with
  |some n,aa x,aa lo,aa a,aa mx=>aa (.Ot n x lo a mx)
  |_,_,_,_,_=>ae)else match lx P e,xy x,mx with
  |some n,aa x,ae=>match cv,lo,a with
   |true,ae,aa j=>(xy j).map λj=> .P9 n x j
   |_,lo,a=>match mZ lo,mZ a with
    |some lo,aa a=>aa (.slice n x lo a)
    |_,_=>ae
  |some n,aa x,aa k=>match lo,a,xy k with
   |none,aa j,aa k=>(xy j).map λj=>if cv=ah then .Iz n x j k else .slice3 n x j k
   |_,_,_=>ae
  |_,_,_=>ae
 |some (.array ln e)=>match lx P e,xy x,lo,a,mx with
  |some n,aa x,ae,ae,ae=>aa (.vY ln n x)
  |_,_,_,_,_=>ae
 |_=>ae
def cOp(q kp cv:Bool)(h:Nat)(o:Op):Option lg:=
 match o with
 | .makeInterface .. =>aa .bad
 | .panic _=>aa .bad
 | .move x| .assign x=>(xy x).map (if kp=ah then .trim else .kf)
 | .pick c a b=>match xy c,xy a,xy b with
  |some c,aa a,aa b=>aa (.pick c a b)
  |_,_,_=>ae
 | .alloc e=>(H0 P e).map .alloc
 | .box e x=>match lx P e,xy x with
  |some n,aa x=>aa (.box n x)
  |_,_=>ae
 | .load t a=>match lx P t,C1 P t,xy a with
  |some n,aa g,aa a=>if g=ah\/n=1 then aa (.load n g a)else ae
  |_,_,_=>ae
 | .store t a x=>match lx P t,xy a,xy x with
  |some n,aa a,aa x=>aa (.store n a x)
  |_,_,_=>ae
 | .nilCheck x=>(xy x).map .Zq
 | .fieldAddr s x f=>match P.underlying s,xy x with
  |some (.struct fs),aa x=>match fs[f]? with
   |some f=>match lx P f.type with
    |some n=>if n=0 then ae else aa (.Ai f.offset x)
    |none=>ae
   |none=>ae
  |_,_=>ae
 | .indexAddr t x i=>match P.underlying t,xy x,xy i with
  |some (.array len e),aa x,aa i=>(lx P e).map λn=> .y9 len n x i
  |some (.slice e),aa x,aa i=>(lx P e).map λn=> .xn n x i
  |_,_,_=>ae
 | .index t x i=>match P.underlying t,xy x,xy i with
  |some .string,aa x,aa i=>aa (.dB x i)
  |some (.array len e),aa x,aa i=>match lx P e,C1 P e with
   |some n,aa g=>if g=ah\/n=1 then aa (.kX len n g x i)else ae
   |_,_=>ae
  |_,_,_=>ae
 | .field t x f=>match P.underlying t,xy x with
  |some (.struct fs),aa x=>match fs[f]? with
   |some f=>match lx P f.type,C1 P f.type with
    |some n,aa g=>if g=ah\/n=1 then aa (.iE f.offset n g x)else ae
    |_,_=>ae
   |none=>ae
  |_,_=>ae
 | .binOp op t x y r=>match xy x,xy y with
  |some a,aa b=>
   match P.underlying t with
   |some (.int _)|some .string=>aa (.bin op a b)
   |some .bool=>if op= .eql\/op= .neq then aa (.beq (op= .neq) a b)else ae
   |some (.pointer _)=>dY op x y .ptr a b
   |some (.slice _)=>dY op x y .gd a b
   |some (.map ..)=>dY op x y .map a b
   |some (.func ..)=>dY op x y .fn a b
   |some (.struct _)|some (.array ..)=>match Cl P 8 t with
    |some ks=>if(op= .eql\/op= .neq)/\P.eqGuardType P.depth t=ag then aa (.eqs ks (op= .neq) a b)else ae
    |none=>ae
   |_=>ae
  |_,_=>ae
 | .unOp op _ x=>(xy x).map (.un op)
 | .convert s d x=>match P.underlying s,P.underlying d,xy x with
  |some (.int _),aa (.int k),aa x=>aa (.conv k x)
  |some .string,aa .string,aa x=>aa (.fO x)
  |_,_,_=>ae
 | .build t ps=>match P.underlying t,H0 P t with
  |some (.struct fs),aa z=>if fs.toList.all (λf=>(lx P f.type).isSome)=ah then(dQ P fs ps.toList).map (.build z)else ae
  |some (.array _ e),aa z=>match lx P e with
   |some n=>(S0 n ps.toList).map (.build z)
   |none=>ae
  |_,_=>ae
 | .buildSlice t n ps=>match P.underlying t with
  |some (.slice e)=>match lx P e,H0 P e with
   |some sz,aa z=>if n*sz<=2^20/\z.length=sz/\0<sz then(S0 sz ps.toList).map (if kp=ah then .dT n sz z else .xz q n sz z)else ae
   |_,_=>ae
  |_=>ae
 | .slice t x lo p mx=>U2 P kp cv t x lo p mx
 | .makeMap t ae=>match P.underlying t with
  |some (.map ..)=>aa .Ks
  |_=>ae
 | .lookup t x i ok=>match P.underlying t with
  |some (.map kt e)=>match(P.info? e).bind (·.zero),xy x,xy i,S9 P kt with
   |some z,aa x,aa i,aa j=>(Yq z).map λz=> .lookup j z x i ok
   |_,_,_,_=>ae
  |_=>ae
 | .mapUpdate t m k v=>match P.underlying t,xy m,xy k,xy v with
  |some (.map kt _),aa m,aa k,aa v=>(S9 P kt).map λj=> .cK j m k v
  |_,_,_,_=>ae
 | .makeFunc (.func f) first j9=>if first.size=0 then(Jw j9.toList).map (.Oj f)else ae
 | .extract x i=>(xy x).map (.ext · i)
 | .call {callee:= .builtin .len,args,argTypes}=>match argTypes[0]?,args[0]? with
  |some t,aa x=>match P.underlying t,xy x with
   |some (.array n _),_=>aa (.kf (.c (.int aj n)))
   |some .string,aa x=>aa (.len .str x)
   |some (.slice _),aa x=>aa (.len .gd x)
   |some (.map ..),aa x=>aa (.len .map x)
   |_,_=>ae
  |_,_=>ae
 | .call {callee:= .builtin .cap,args,argTypes}=>match argTypes[0]?,args[0]? with
  |some t,aa x=>match P.underlying t,xy x with
   |some (.slice _),aa x=>aa (.vQ x)
   |_,_=>ae
  |_,_=>ae
 | .call {callee:= .builtin .clear,args,argTypes}=>match argTypes[0]?,args[0]? with
  |some t,aa x=>match P.underlying t,xy x with
   |some (.slice e),aa x=>match P.info? e,H0 P e with
    |some i,aa z=>if i.zero.map (·.cells.size)=aa i.size/\z.length=i.size then aa (.clr z x)else ae
    |_,_=>ae
   |_,_=>ae
  |_,_=>ae
 | .call {callee:= .builtin .append,args,argTypes}=>match argTypes[0]?,argTypes[1]?,args[0]?,args[1]? with
  |some t,aa u,aa x,aa y=>match P.underlying t,P.underlying u,xy x,xy y with
   |some (.slice e),aa (.int _),aa x,aa y=>match P.info? e,H0 P e with
    |some i,aa z=>if i.zero.map (·.cells.size)=aa i.size/\z.length=i.size/\0<i.size/\0<i.bytes/\i.size<=2^10/\i.bytes<=2^14 then aa (.iG i.size i.bytes z x y)else ae
    |_,_=>ae
   |some (.slice e),aa (.slice _),aa x,aa y=>match P.info? e with
    |some i=>if i.zero.map (·.cells.size)=aa i.size/\0<i.size/\0<i.bytes/\i.size<=2^10/\i.bytes<=2^14 then aa (.app i.size i.bytes x y)else ae
    |none=>ae
   |_,_,_,_=>ae
  |_,_,_,_=>ae
 | .call {callee:= .builtin .min,args,.. }=>match args.toList with
  |[x,y]=>match xy x,xy y with
   |some x,aa y=>aa (.Fm ag x y)
   |_,_=>ae
  |_=>ae
 | .call {callee:= .builtin .max,args,.. }=>match args.toList with
  |[x,y]=>match xy x,xy y with
   |some x,aa y=>aa (.Fm ah x y)
   |_,_=>ae
  |_=>ae
 | .call {callee:= .value (.func f),args,.. }=>match Jw args.toList with
  |some l=>if h=0 then aa (.call f l)else if h=1 then aa (.Xm f l)else if h=2 then aa (.Aq f l)else aa (.ua f l)
  |none=>ae
 | .call {callee:= .value f,args,.. }=>match xy f,Jw args.toList with
  |some f,aa l=>if h=0 then aa (.zq f l)else if h=2 then aa (.Od f l)else aa (.Q3 f l)
  |_,_=>ae
 |_=>ae
def mY(a:Nat)(an:Ann)(ops:Array Oper)(o:Oper):Option RI:=
 match cOp P (an.imm.contains (o.dst.getD 0)) (an.kp.contains (o.dst.getD 0)) (an.cv.contains (o.dst.getD 0)) (if an.ce.contains (o.dst.getD 0)then 2 else if an.cf.contains (o.dst.getD 0)then 1 else if an.cr.contains (o.dst.getD 0)then 3 else 0) o.op with
 |none=>ae
 |some r=>
  match o.guard with
  |none=>if o.dst.all (· <a)then aa {dst:=o.dst,op:=r,guard:=ae,after:=(o.after.toList.filter (ad6 .any)).map (·.on)}else ae
  |some (j,b)=>match(ops[j]?).bind (·.dst)with
   |some t=>if o.dst.all (· <a)then aa {dst:=o.dst,op:=r,guard:=aa (t,b),after:=(o.after.toList.filter (ad6 .any)).map (·.on)}else ae
   |none=>ae
def UN(a:Nat)(o1 o2 o3 o4 o5:Oper):Option RI:=
 match o1.dst,o1.op,o2.dst,o2.op,o3.dst,o3.op,o4.dst,o4.op,o5.dst,o5.op with
 |some d1,.mapEntry t (.tmp m) (.tmp k),aa d2,.extract (.tmp e2) 0,aa d3,.call c,aa d4,.extract (.tmp e4) 1,ae,.entryStore _ (.tmp m') (.tmp e5) (.tmp e6)=>
  match c.callee,c.args.toList,c.argTypes[0]?,c.argTypes[1]?,P.underlying t with
  | .builtin .append,[.tmp a0,.tmp y],aa at_,aa au,aa (.map kt et)=>
   if e2=d1/\e4=d1/\e5=d4/\e6=d3/\m'=m/\a0=d2/\at_=et/\d1≠d2/\d1≠d3/\d3≠d4/\o1.guard=ae/\o2.guard=ae/\o3.guard=ae/\o4.guard=ae/\o5.guard=ae/\
     d1<a/\d2<a/\d3<a/\d4<a/\y≠d1/\y≠d2/\m≠d1/\m≠d2/\m≠d3/\m≠d4 then
    match P.underlying at_,P.underlying au,(P.info? et).bind (·.zero),S9 P kt with
    |some (.slice e),aa (.slice _),aa (.slice ae 0 0),aa kk=>match P.info? e with
     |some i=>if i.zero.map (·.cells.size)=aa i.size/\0<i.size/\0<i.bytes/\i.size<=2^10/\i.bytes<=2^14 then aa {dst:=ae,op:= .dP kk i.size i.bytes (.t m) (.t k) (.t y) [d1,d2,d3,d4],guard:=ae,after:=[]}else ae
     |none=>ae
    |_,_,_,_=>ae
   else ae
  |_,_,_,_,_=>ae
 |_,_,_,_,_,_,_,_,_,_=>ae
def U3(b:Nat)(an:Ann)(ops:Array Oper):List Oper->Option (List RI)
 |[]=>aa []
 |o::r=>match mY P b an ops o,U3 b an ops r with
  |some a,aa l=>aa (a::l)
  |_,_=>ae
inductive Kind where
 |pure|read|alloc|write
 deriving DecidableEq
def lg.kind:lg->Kind
 | .kf _| .pick .. | .conv .. | .fO _| .un .. | .bin .. | .beq .. | .eqs .. | .iE .. | .ext .. | .Fm .. | .dB .. | .kX .. => .pure
 | .alloc _| .box .. | .Ks| .zr _| .init .. => .alloc
 | .xz im .. =>if im then .read else .write
 | .app .. | .iG .. | .dT .. | .dP .. | .store .. | .cK .. | .slice3 .. | .P9 .. | .trim _| .clr .. | .Aq .. | .Od .. | .ua .. | .Q3 .. => .write
 |_=> .read
def Kind.ok:Kind->Kind->Bool
 | .pure,_|_,.pure=>ah
 | .write,_|_,.write=>ag
 |_,_=>ah
def ov.ts:ov->List Nat
 | .t n=>[n]
 | .c _=>[]
def lg.tj:lg->List ov
 | .kf x=>[x]
 | .pick c a b=>[c,a,b]
 | .alloc _=>[]
 | .box _ x=>[x]
 | .load _ _ x=>[x]
 | .store _ a x=>[a,x]
 | .Zq x=>[x]
 | .Ai _ x=>[x]
 | .y9 _ _ x i=>[x,i]
 | .xn _ x i=>[x,i]
 | .dB x i=>[x,i]
 | .iE _ _ _ x=>[x]
 | .len _ x=>[x]
 | .bin _ x y=>[x,y]
 | .eqs _ _ x y=>[x,y]
 | .Kt _ _ x=>[x]
 | .beq _ x y=>[x,y]
 | .un _ x=>[x]
 | .conv _ x=>[x]
 | .fO x=>[x]
 | .build _ ps=>ps.map (·.2.2)
 | .xz _ _ _ _ ps=>ps.map (·.2.2)
 | .app _ _ x y=>[x,y]
 | .dT _ _ _ ps=>ps.map (·.2.2)
 | .dP _ _ _ x k y _=>[x,k,y]
 | .iG _ _ _ x y=>[x,y]
 | .vQ x=>[x]
 | .vY _ _ x=>[x]
 | .Iz _ x j k=>[x,j,k]
 | .P9 _ x j=>[x,j]
 | .Ot _ x lo d mx=>x::(lo.toList++d.toList++mx.toList)
 | .trim x=>[x]
 | .clr _ x=>[x]
 | .bad=>[]
 | .slice _ x lo d=>x::(lo.toList++d.toList)
 | .Ks=>[]
 | .lookup _ _ x i _=>[x,i]
 | .cK _ x k v=>[x,k,v]
 | .Oj _ j9=>j9
 | .ext x _=>[x]
 | .Fm _ x y=>[x,y]
 | .call _ args=>args
 | .zq f args=>f::args
 | .zr _=>[]
 | .init g _ x=>[.t g,x]
 | .slice3 _ x j k=>[x,j,k]
 | .kX _ _ _ x i=>[x,i]
 | .Aq _ args=>args
 | .Xm _ args=>args
 | .Od f args=>f::args
 | .ua _ args=>args
 | .Q3 f args=>f::args
def RI.looks(o:RI):List Nat:=(o.op.tj.flatMap ov.ts)++(match o.guard with|some (t,_)=>[t]|none=>[])
def RI.writes(o:RI):Option Nat:=
 match o.op with
 | .init g .. =>if o.dst=ae then aa g else ae
 |_=>o.dst
def RI.makes(o:RI):List Nat:=
 match o.op with
 | .alloc _| .box .. | .Ks| .app .. | .iG .. | .dT .. =>[o.dst.getD 0]
 | .xz im .. =>if im then[]else[o.dst.getD 0]
 | .init g .. =>[g]
 |_=>[]
def RI.isE(o:RI):Bool:=
 match o.op with
 | .Aq .. | .Od .. =>ah
 |_=>ag
def RI.isR(o:RI):Bool:=
 match o.op with
 | .ua .. | .Q3 .. | .dP .. =>ah
 |_=>ag
def RI.far(x y:RI):Bool:=(x.makes.all λd=> !y.s8.contains d)&&(!x.isE||y.s8.isEmpty)
def RI.soft(x y:RI):Bool:=
 match x.op,y.op with
 | .Iz ..,.store n _ _=>n !=1
 |_,_=>ag
def RI.vO(x y:RI):Bool:=
 (x.op.kind.ok y.op.kind||(x.soft y||y.soft x))&&x.far y&&y.far x&&(x.s8.all λd=>d !=y.dst.getD 0)&&(y.s8.all λd=>d !=x.dst.getD 0)&&
 (match x.writes with|some d=> !y.looks.contains d&&y.writes !=aa d|none=>x.op.kind != .alloc)&&
 (match y.writes with|some d=> !x.looks.contains d|none=>y.op.kind != .alloc)
def a5y(l:List RI)(d n:Nat):Bool:=
 (l.countP λo=>o.looks.contains d)==1&&l.any λo=>match o.op with
  | .store m (.t g) x=>g==d&&m==n&& !x.ts.contains d&&o.guard.isNone&&o.dst.isNone
  |_=>ag
def RI.ES(l:List RI)(o:RI):RI:=
 match o.op,o.dst with
 | .alloc z,aa d=>if o.guard.isNone&&a5y l d z.length then{o with op:= .zr z.length}else o
 | .store n (.t g) x,ae=>if o.guard.isNone&&a5y l g n&&(l.any λa=>a.dst==aa g&&a.guard.isNone&&match a.op with| .alloc z=>z.length==n|_=>ag)then{o with op:= .init g n x}else o
 |_,_=>o
def ahead(ops:List RI):Nat->Nat->List Nat
 |0,_=>[]
 |n+1,i=>match ops[i]? with
  |some o=>o.after++o.after.flatMap (ahead ops n)
  |none=>[]
def QT(ops:List RI)(k i:Nat):Bool:=
 match ops[k]?,ops[i]? with
 |some x,aa y=>x.vO y||(ahead ops ops.length i).contains k
 |_,_=>ag
def Yp(ops:List RI):Bool:=
 (ops.all λo=> !o.isR)&&(fc ops.length).all λi=>(match ops[i]? with|some o=>o.after.all (· <i)|none=>ag)&&(fc i).all λk=>QT ops k i&&((ops.getD k default).far (ops.getD i default))
def UM(a:Nat):List Oper->Option RI
 |o1::o2::o3::o4::o5::_=>UN P a o1 o2 o3 o4 o5
 |_=>ae
def pM(b:Nat)(an:Ann)(ops:Array Oper):Nat->List Oper->Option (List RI)
 |_,[]=>aa []
 |k+1,_::r=>pM b an ops k r
 |0,o::r=>match UM P b (o::r)with
  |some a=>(pM b an ops 4 r).map (a:: ·)
  |none=>match mY P b an ops o,pM b an ops 0 r with
   |some a,aa l=>aa (a::l)
   |_,_=>ae
def vS(b:Nat)(an:Ann)(id:Nat)(ops:Array Oper)(a:Bool):Option eh:=
 if a=ag then match pM P b an ops 0 ops.toList with
  |some l=>aa (.region l ag ((an.x7.lookup id).getD []))
  |none=>ae
 else match U3 P b an ops ops.toList with
  |some l=>if Yp (l.map (RI.ES l))=ah then aa (.region (l.map (RI.ES l)) ah ((an.x7.lookup id).getD []))else ae
  |none=>ae
def UP:List eh->eh
 |[]=> .skip
 |[x]=>x
 |x::r=> .both x (UP r)
def BH(ops:Array Oper)(l:List RI):Nat->Array Bool->Option eh
 |0,A=>if J7 .any ops A=[]then aa .skip else ae
 |n+1,A=>if J7 .any ops A=[]then aa .skip else
  (Ru ((J7 .any ops A).map λi=>(BH ops l n (A.setIfInBounds i ah)).map λt=> .seq (.region [l.getD i default] ag []) t)).map UP
def a4v(a:Nat)(an:Ann)(ops:Array Oper):Option eh:=
 match U3 P a an ops ops.toList with
 |some l=>BH ops l ops.size (iK ops.size ag)
 |none=>ae
def UO(a:Nat)(an:Ann)(ops:Array Oper):Option eh:=
 match U3 P a an ops ops.toList with
 |some l=>if((fc l.length).all λi=>(l.getD i default).after.all (· <i))=ah then aa (.AA l)else ae
 |none=>ae
def comp(e:Nat)(an:Ann):Code->Option eh
 | .skip=>aa .skip
 | .label _=>aa .skip
 | .region id ops d=>(if d=ah/\an.ga.contains id=ah then UO P e an ops else if d=ah/\an.od.contains id=ah then a4v P e an ops else vS P e an id ops d).map λr=>if an.dyn.contains id=ah then .seq .freeze r else r
 | .seq a b=>match comp e an a,comp e an b with
  |some a,aa b=>aa (.seq a b)
  |_,_=>ae
 | .cond c a b=>match xy c,comp e an a,comp e an b with
  |some c,aa a,aa b=>aa (.cond c a b)
  |_,_,_=>ae
 | .block id c=>(comp e an c).map (.block id)
 | .loop c=>(comp e an c).map .loop
 | .exit id=>aa (.exit id)
 | .scope c=>comp e an c
 | .ret=>aa .ret
 |_=>ae
end
end Go.PI
namespace Go.PI
section
variable{P:Program}{Q:Exit->PS->Prop}{s:PS}
theorem xS:l7 P .skip Q s=Q .normal s:=fy rfl (il _)
theorem Qg{a b:eh}:l7 P (.seq a b) Q s=l7 P a (λe s'=>match e with| .normal=>l7 P b Q s'|e=>Q e s') s:=fy rfl (il _)
theorem bS{id:Nat}{c:eh}:l7 P (.block id c) Q s=l7 P c (λe s'=>match e with| .exit i=>if i=id then Q .normal s' else Q (.exit i) s'|e=>Q e s') s:=fy rfl (il _)
theorem QH{id:Nat}:l7 P (.exit id) Q s=Q (.exit id) s:=fy rfl (il _)
theorem tK:l7 P .ret Q s=Q .ret s:=fy rfl (il _)
theorem QG{c:eh}(I:PS->Prop)(m:PS->Nat)(b:I s)
  (h:∀s',I s'->l7 P c (λe a=>match e with| .normal=>I a/\m a<m s'|e=>Q e a) s'):l7 P (.loop c) Q s:=
 ⟨I,m,b,h⟩
theorem V6{K:PS->Prop}:mc P [] s K=K s:=fy rfl (il _)
theorem Cb{o:RI}{r:List RI}{K:PS->Prop}:mc P (o::r) s K=match wanted o s with
  |some ah=>Ig P o s λs'=>mc P r s' K
  |some ag=>mc P r (s.put o.dst (.d (.Bb []))) K
  |none=>False:=fy rfl (il _)
end
theorem dr(n:Int)(b: -9223372036854775808<=n)(c:n<=9223372036854775807):Qy aj n=n:=by
 unfold Qy
 have e:(2:Int)^aj.bits=18446744073709551616:=by decide
 have a:(2:Int)^(aj.bits-1)=9223372036854775808:=by decide
 simp only[e,a,ae8,rv,decide_eq_true_eq];split<;>lia
end Go.PI
namespace Go.PI
open Go Go.RowKit
structure J2(E E':Env)(s s':PS):Prop where
 ba:∀id,s.ba id<=s'.ba id
 arr:∀id sz n',s'.ba id=s.ba id->s'.Ei id=aa (sz,n')->
  ∃n,s.Ei id=aa (sz,n)/\n<=n'/\(n=n'->E'.b id=E.b id/\E'.n id=E.n id)
 loc:∀id b',s'.ba id=s.ba id->s'.di id=aa b'->b'.isVar=ah->(∃b,s.di id=aa b/\b.isVar=ah)/\E'.b id=E.b id
 mp:∀id,s'.ba id=s.ba id->(s'.mp id).isSome->(s.mp id).isSome/\E'.m id=E.m id
theorem j4.F2{G G':ix}{E E':Env}{s s':PS}(r:G.le G')(h:J2 E E' s s'){c:C}{v:Value}(g:zx G E s c v):zx G' E' s' c v:=by
 cases c with
 |d x=>exact iz.mono r g
 |ref id ba len=>
  obtain⟨b,e⟩:=g;refine⟨jg b (h.ba id),λm sz o hb=>?_⟩
  have a:s'.ba id=s.ba id:=by have:=h.ba id;lia
  obtain⟨n,j,w,q⟩:=h.arr id sz o a hb;obtain⟨i,f⟩:=e (by lia) sz n j;refine⟨by lia,λt=>?_⟩
  have k:n=o:=by lia
  obtain⟨p,e2⟩:=q k;rw[p,e2];exact f (by lia)
 |o8 id ba=>
  obtain⟨b,e⟩:=g;refine⟨jg b (h.ba id),λm u=>?_⟩
  have a:s'.ba id=s.ba id:=by have:=h.ba id;lia
  obtain⟨i,f⟩:=h.mp id a u;rw[f];exact e (by lia) i
 |ptr id ba off=>
  obtain⟨b,e⟩:=g;refine⟨jg b (h.ba id),λm ⟨b',hb,l⟩=>?_⟩
  have a:s'.ba id=s.ba id:=by have:=h.ba id;lia
  obtain⟨i,f⟩:=h.loc id b' a hb l;rw[f];exact e (by lia) i
theorem j4.move{G G':ix}{E E':Env}{s s':PS}(H:G.le G')(h:J2 E E' s s'){x:V}{v:Value}(j:j4 G E s x v):j4 G' E' s' x v:=by
 cases x with
 |d x=>exact iz.mono H j
 |ref id ba len=>exact j4.F2 (c:= .ref id ba len) H h j
 |o8 id ba=>exact j4.F2 (c:= .o8 id ba) H h j
 |gz id ba off=>
  obtain⟨k,q⟩:=j;refine⟨jg k (h.ba id),λK ⟨b',hb,w⟩=>?_⟩
  have g:s'.ba id=s.ba id:=by have:=h.ba id;lia
  obtain⟨A,y⟩:=h.loc id b' g hb w;rw[y];exact q (by lia) A
 |Iy id ba P i off=>
  obtain⟨k,q⟩:=j;refine⟨jg k (h.ba id),λK sz B hb=>?_⟩
  have g:s'.ba id=s.ba id:=by have:=h.ba id;lia
  obtain⟨n,r,C,F⟩:=h.arr id sz B g hb;obtain⟨A,y⟩:=q (by lia) sz n r;refine⟨by lia,λJ=>?_⟩
  have t:n=B:=by lia
  obtain⟨D,e2⟩:=F t;rw[D];exact y (by lia)
 |qb f ids=>
  obtain⟨k,q⟩:=j;refine⟨λp z=>jg (k p z) (h.ba p.1),λI=>?_⟩
  have key:∀p∈ids,s.ba p.1=p.2/\(∃b,s.di p.1=aa b/\b.isVar=ah)/\E'.b p.1=E.b p.1:=by
   intro p z;obtain⟨e,b',hb,w⟩:=I p z;have:=k p z;have:=h.ba p.1
   have g:s'.ba p.1=s.ba p.1:=by lia
   obtain⟨A,y⟩:=h.loc p.1 b' g hb w;exact⟨by lia,A,y⟩
  have e:(ids.map λp=>aen (aa ⟨E'.b p.1,0,ae⟩))=ids.map λp=>aen (aa ⟨E.b p.1,0,ae⟩):=
   Nj λp z=>by rw[(key p z).2.2]
  rw[e];exact q λp z=>⟨(key p z).1,(key p z).2.1⟩
 |agg cs=>
  rw[G6]at j|-;obtain⟨vs,e,C,M⟩:=j;exact⟨vs,e,C,λi c u N O=>j4.F2 H h (M i c u N O)⟩
 |Bb cs=>
  rw[Lg]at j|-;obtain⟨vs,e,C,M⟩:=j;exact⟨vs,e,C,λi c u N O=>j4.F2 H h (M i c u N O)⟩
 |Lm id ba P n=>
  obtain⟨k,q⟩:=j;refine⟨jg k (h.ba id),λK ⟨b',hb,w⟩=>?_⟩
  have g:s'.ba id=s.ba id:=by have:=h.ba id;lia
  obtain⟨A,y⟩:=h.loc id b' g hb w;rw[y];exact q (by lia) A
 |Iz id ba m a=>
  obtain⟨L,k,q⟩:=j;refine⟨L,jg k (h.ba id),λK sz B hb=>?_⟩
  have g:s'.ba id=s.ba id:=by have:=h.ba id;lia
  obtain⟨n,r,C,F⟩:=h.arr id sz B g hb;obtain⟨A,y⟩:=q (by lia) sz n r;refine⟨by lia,λJ=>?_⟩
  have t:n=B:=by lia
  obtain⟨D,e2⟩:=F t;rw[D,e2];exact y (by lia)
 |win id ba m o l=>
  obtain⟨L,k,q⟩:=j;refine⟨L,jg k (h.ba id),λK sz B hb=>?_⟩
  have g:s'.ba id=s.ba id:=by have:=h.ba id;lia
  obtain⟨n,r,C,F⟩:=h.arr id sz B g hb;obtain⟨A,y⟩:=q (by lia) sz n r;refine⟨by lia,λJ=>?_⟩
  have t:n=B:=by lia
  obtain⟨D,e2⟩:=F t;rw[D,e2];exact y (by lia)
 |no=>trivial
theorem nG{G:ix}{E:Env}{s:PS}{d:Option Nat}{y:V}{x:V}{v:Value}:j4 G E (s.put d y) x v<->j4 G E s x v:=by
 cases x<;>exact Iff.rfl
theorem nM{G:ix}{E:Env}{s:PS}{d:Option Nat}{y:V}{x:C}{v:Value}:zx G E (s.put d y) x v<->zx G E s x v:=nG
theorem OH{G:ix}{E:Env}{s:PS}{d:Option Nat}{y:V}{B0:Nat}{w:World}{id:Nat}{b:B}(h:Uf G E s B0 w id b):Uf G E (s.put d y) B0 w id b:=by
 obtain⟨k,l,cells,g,m,o,f⟩:=h;refine⟨k,l,cells,g,m,o,?_⟩
 cases b with
 |arr sz dv=>exact f
 |ru sz dv=>exact⟨f.1,f.2.1,λi e j x u a b c=>nM.2 (f.2.2 i e j x u a b c)⟩
 |loc cs=>exact⟨f.1,λj c u p q=>nM.2 (f.2 j c u p q)⟩
 |Tj n=>exact f
section
variable{B0 nt:Nat}{w0 w:World}{G0 G:ix}{s:PS}{E:Env}{a:Act}
theorem jw.nZ(h:jw B0 w0 nt G0 s G E a w){d:Option Nat}(m:d.all (· <nt)=ah){x:V}{v:Value}(n:j4 G E s x v):jw B0 w0 nt G0 (s.put d x) G E (a.put d v) w where
 size:=by cases d<;>simp[Act.put,h.size]
 defers:=by cases d<;>exact h.defers
 base:=h.base
 below:=h.below
 gok:=h.gok
 gle:=h.gle
 Jt:=h.Jt
 tmp t:=by
  rw[nG]
  cases d with
  |none=>exact h.tmp t
  |some d=>
   simp only[Option.all,decide_eq_true_eq]at m;have hs:=h.size;simp only[PS.put,Act.put,lu];by_cases e:t=d
   ·subst e;rw[bc rfl];rw[kl,Ut];rw[bc (by lia)];exact n
   rw[aq e,kl,Xx (λh=>e h.symm),<-kl];exact h.tmp t
 di id b hb:=OH (h.di id b hb)
 inj:=h.inj
 mp id es he:=by
  obtain⟨f,g,ents,clock,j,k,c,l⟩:=h.mp id es he;exact⟨f,g,ents,clock,j,k,λi e x hx hy=>⟨(c i e x hx hy).1,nM.2 (c i e x hx hy).2⟩,l⟩
 Sn:=h.Sn
 ctx p:=by rw[nG];exact h.ctx p
 tb:=h.tb
theorem j4.a9r{G:ix}{E:Env}{s:PS}{v:Value}:j4 G E s .no v:=trivial
theorem jw.ev(h:jw B0 w0 nt G0 s G E a w){x:Operand}{o:ov}(hx:xy x=aa o):j4 G E s (o.ev s) (a.eval x):=by
 cases x with
 |tmp t=>
  simp only[xy,av]at hx;subst hx;exact h.tmp t
 |const v=>
  simp only[xy]at hx
  have cell:∀(v:Value) (d:D),iW v=aa d->iz G d v:=by
   intro v d b;unfold iW at b
   split at b<;>first|(injection b with b;subst b;constructor)|(cases b)|skip
   split at b
   ·rename_i f x y k
    injection b with b
    subst b;have q:x= #[]:=Yy k.1;have e2:y= #[]:=Yy k.2;subst q e2;exact .qb rfl (by simp)
   cases b
  have cells:∀(l:List Value) (ds:List D),AT l=aa ds->l.length=ds.length/\∀(i:Nat) (x:D) (v:Value),ds[i]? =aa x->l[i]? =aa v->iz G x v:=by
   intro l
   induction l with
   |nil=>intro ds b;simp only[AT,av]at b;subst b;simp
   |cons v l A=>
    intro ds b;simp only[AT]at b;split at b
    ·rename_i x B r u
     injection b with b
     subst b;obtain⟨n,p⟩:=A B u;refine⟨by simp[n],λi F C j e=>?_⟩
     cases i with
     |zero=>simp at j e;subst j e;exact cell _ _ r
     |succ i=>simp at j e;exact p i F C j e
    cases b
  cases c:Yq v with
  |none=>rw[c]at hx;cases hx
  |some d=>
   rw[c]at hx;simp only[afd,av]at hx;subst hx;show iz G d v
   cases v with
   |agg cs=>
    simp only[Yq]at c
    cases m:AT cs.toList with
    |none=>rw[m]at c;cases c
    |some ds=>
     rw[m]at c;simp only[afd,av]at c;subst c;obtain⟨n,p⟩:=cells _ _ m;exact .agg (by simpa using n) λi x v z c=>p i x v z (by simpa using c)
   |_=>exact cell _ _ c
 |func f=>
  simp only[xy,av]at hx;subst hx;exact iz.qb rfl (by simp)
 |global g=>cases hx
theorem jw.drew(h:jw B0 w0 nt G0 s G E a w):jw B0 w0 nt G0 s G E a w.drew where
 size:=h.size
 defers:=h.defers
 base:=h.base
 below:=h.below.drew
 gok:=⟨h.gok.cv,h.gok.mv⟩
 gle:=h.gle
 Jt:=h.Jt
 tmp:=h.tmp
 di:=h.di
 inj:=h.inj
 mp:=h.mp
 Sn:=h.Sn
 ctx:=h.ctx
 tb:=h.tb
end
section
variable{B0 nt:Nat}{w0 w w':World}{G0 G G':ix}{s s':PS}{E E':Env}{a:Act}
theorem Uf.lt{id:Nat}{b:B}(h:Uf G E s B0 w id b):E.b id<w.heap.size:=by
 obtain⟨_,_,cells,d,c,_⟩:=h;exact(la.1 c).1
theorem Uf.move{id:Nat}{b:B}(h:Uf G E s B0 w id b)(f:G.le G')(k:J2 E E' s s')(v:w'.heap[E.b id]? =w.heap[E.b id]?)
  (g:∀o,G'.cv (E.b id) o=ae)(l:E'.b id=E.b id)(e2:E'.n id=E.n id):Uf G' E' s' B0 w' id b:=by
 obtain⟨p,y,cells,m,q,r,d⟩:=h;unfold Uf;rw[l,e2];refine⟨p,g,cells,m,v.trans q,r,?_⟩
 cases b with
 |arr sz dv=>exact⟨d.1,d.2.1,λi e j x u a b c=>(d.2.2 i e j x u a b c).mono f⟩
 |ru sz dv=>exact⟨d.1,d.2.1,λi e j x u a b c=>j4.F2 f k (d.2.2 i e j x u a b c)⟩
 |loc cs=>exact⟨d.1,λj c u g t=>j4.F2 f k (d.2 j c u g t)⟩
 |Tj n=>exact d
theorem C6(w:World)(o:Obj)(k:Nat)(h:k<w.heap.size):(w.alloc o).heap[k]? =w.heap[k]? :=Below.heap_alloc w o k h
theorem Mv(w:World)(o:Obj):(w.alloc o).heap[w.heap.size]? =aa o:=by
 show(w.heap.push o)[w.heap.size]? =_;simp
theorem GOk.alloc(h:GOk G w)(o:Obj):GOk G (w.alloc o):=h.below (Below.alloc (Below.refl _ _) (bm _) o)
theorem GOk.HO(h:GOk G w){b:Nat}(hb:w.heap.size<=b)(o:Nat):G.cv b o=none:=by
 cases c:G.cv b o with
 |none=>rfl
 |some v=>have:=h.lt c;lia
theorem GOk.a3v(h:GOk G w){b:Nat}(hb:w.heap.size<=b):G.mv b=none:=by
 cases c:G.mv b with
 |none=>rfl
 |some v=>have:=h.ltm c;lia
def Holds(G:ix)(E:Env)(s:PS)(cells:Array Value):B->Prop
 | .arr sz dv=>dv.length*sz<=cells.size/\(∀(i:Nat) (e:List D),dv[i]? =aa e->e.length=sz)/\
   ∀(i:Nat) (e:List D) (j:Nat) (x:D) (u:Value),dv[i]? =aa e->e[j]? =aa x->cells[i*sz+j]? =aa u->iz G x u
 | .ru sz dv=>dv.length*sz<=cells.size/\(∀(i:Nat) (e:List C),dv[i]? =aa e->e.length=sz)/\
   ∀(i:Nat) (e:List C) (j:Nat) (x:C) (u:Value),dv[i]? =aa e->e[j]? =aa x->cells[i*sz+j]? =aa u->zx G E s x u
 | .loc cs=>cs.length=cells.size/\∀(j:Nat) (c:C) (u:Value),cs[j]? =aa c->cells[j]? =aa u->zx G E s c u
 | .Tj n=>n=cells.size
theorem Holds.move{cells:Array Value}{b:B}(h:Holds G E s cells b)(d:G.le G')(f:J2 E E' s s'):Holds G' E' s' cells b:=by
 cases b with
 |arr sz dv=>exact⟨h.1,h.2.1,λi e j x u a b c=>(h.2.2 i e j x u a b c).mono d⟩
 |ru sz dv=>exact⟨h.1,h.2.1,λi e j x u a b c=>j4.F2 d f (h.2.2 i e j x u a b c)⟩
 |loc cs=>exact⟨h.1,λj c u g k=>j4.F2 d f (h.2 j c u g k)⟩
 |Tj n=>exact h
theorem jw.new(h:jw B0 w0 nt G0 s G E a w)(id:Nat)(b:B)(cells:Array Value)(A:TypeId)(hb:Holds G E s cells b):
  jw B0 w0 nt G0 {s with di:=lu s.di id (aa b),ba:=lu s.ba id (s.ba id+1)} G
   {E with b:=lu E.b id w.heap.size,n:=lu E.n id cells.size} a (w.alloc (.cells cells A)):=by
 have g:J2 E {E with b:=lu E.b id w.heap.size,n:=lu E.n id cells.size} s {s with di:=lu s.di id (aa b),ba:=lu s.ba id (s.ba id+1)}:=by
  have F:∀i,lu s.ba id (s.ba id+1) i=s.ba i->i≠id:=by
   intro i d e;subst e;rw[de]at d;lia
  refine⟨λi=>?_,λi sz H m c=>?_,λi I m c r=>?_,λi m O=>?_⟩
  ·show _<=lu s.ba id (s.ba id+1) i;by_cases e:i=id
   ·subst e;rw[de];lia
   rw[ie _ _ _ _ e];exact bm _
  ·have e:=F i m;simp only[PS.Ei,ie _ _ _ _ e]at c;exact⟨H,c,bm _,λ_=>⟨ie _ _ _ _ e,ie _ _ _ _ e⟩⟩
  ·have e:=F i m;simp only[ie _ _ _ _ e]at c;exact⟨⟨I,c,r⟩,ie _ _ _ _ e⟩
  exact⟨O,rfl⟩
 have N:w.heap.size=w.heap.size:=rfl
 have q:B0<=w.heap.size:=by rw[h.base];exact h.below.size
 refine⟨h.size,h.defers,h.base,h.below.alloc (by rw[h.base];exact h.below.size) _,h.gok.alloc _,h.gle,h.Jt,λt=>j4.move (ix.me _) g (h.tmp t),λi b' c=>?_,λi j v y d l u=>?_,λi es d=>?_,h.Sn,λp=>j4.move (ix.me _) g (h.ctx p),h.tb⟩
 ·by_cases e:i=id
  ·subst e;simp only[de,av]at c;subst c;unfold Uf;simp only[de];refine⟨q,λo=>h.gok.HO (bm _) o,cells,A,Mv _ _,bm _,?_⟩;have:=hb.move (ix.me G) g;cases b<;>exact this
  simp only[ie _ _ _ _ e]at c;have k:=h.di i _ c;exact k.move (ix.me _) g (C6 _ _ _ k.lt) k.2.1 (ie _ _ _ _ e) (ie _ _ _ _ e)
 ·have lt:∀i b,s.di i=aa b->E.b i≠w.heap.size:=λi b d=>by have:=(h.di i b d).lt;lia
  by_cases z:i=id
  ·subst z;have f:j≠i:=λe=>u e.symm;simp only[ie _ _ _ _ f]at l;simp only[de,ie _ _ _ _ f];exact λe=>lt j y l e.symm
  simp only[ie _ _ _ _ z]at d|-;by_cases f:j=id
  ·subst f;simp only[de];exact lt i v d
  simp only[ie _ _ _ _ f]at l|-;exact h.inj i j v y d l u
 obtain⟨J,K,ents,clock,C,L,D,M⟩:=h.mp i es d;exact⟨J,K,ents,clock,(C6 _ _ _ (la.1 C).1).trans C,L,λi e x hx hy=>⟨(D i e x hx hy).1,j4.F2 (ix.me _) g (D i e x hx hy).2⟩,M⟩
structure Bh(w w':World)(g:Nat)(o:Obj):Prop where
 os:w'.os=w.os
 tape:w'.tape=w.tape
 output:w'.output=w.output
 drawn:w'.drawn=w.drawn
 size:w'.heap.size=w.heap.size
 other:∀k,k≠g->w'.heap[k]? =w.heap[k]?
 at_:w'.heap[g]? =aa o
theorem Bh.below{g:Nat}{o:Obj}(h:Bh w w' g o)(b:B0<=g){Q:Prop}:Bel Q B0 w w':=
 ⟨⟨h.os,h.tape,h.output,by rw[h.size];exact bm _,λk c=>h.other k (by lia)⟩,λ_=>by rw[h.drawn];exact bm _⟩
theorem FX{k:Nat}(h:w'.heap[k]? =w.heap[k]?)(o:Nat):w'.cell? ⟨k,o,ae⟩=w.cell? ⟨k,o,ae⟩:=World.cell?_of_block (w:=w) h
theorem GOk.OP{g:Nat}{o:Obj}(h:GOk G w)(c:Bh w w' g o)(i:∀o,G.cv g o=ae)(j:G.mv g=ae):GOk G w' where
 cv b o v hv:=by
  have:b≠g:=λe=>by subst e;rw[i]at hv;cases hv
  exact(FX (c.other b this) o).trans (h.cv b o v hv)
 mv b es hv:=by
  have:b≠g:=λe=>by subst e;rw[j]at hv;cases hv
  obtain⟨ents,clock,d,f⟩:=h.mv b es hv;exact⟨ents,clock,(c.other b this).trans d,f⟩
def Alike(b b':B):Prop:=b.isVar=b'.isVar/\∀sz c,b'.Ei=aa (sz,c)->∃n,b.Ei=aa (sz,n)/\n<=c
theorem yf{s:PS}{id:Nat}{b:B}(h:s.di id=aa b):s.Ei id=b.Ei:=by unfold PS.Ei;rw[h];rfl
theorem Alike.arr{sz:Nat}{dv b:List (List D)}(h:dv.length<=b.length):Alike (.arr sz dv) (.arr sz b):=⟨rfl,λd e c=>by simp only[B.Ei,av,db]at c;obtain⟨rfl,rfl⟩:=c;exact⟨_,rfl,h⟩⟩
theorem Alike.loc{cs b:List C}:Alike (.loc cs) (.loc b):=⟨rfl,λd e c=>by simp[B.Ei]at c⟩
theorem jw.YO(h:jw B0 w0 nt G0 s G E a w){id:Nat}{b:B}(hb:s.di id=aa b):G.mv (E.b id)=none:=by
 cases e:G.mv (E.b id)with
 |none=>rfl
 |some es=>
  obtain⟨ents,clock,d,_⟩:=h.gok.mv _ _ e;obtain⟨_,_,cells,f,c,_⟩:=h.di id b hb;rw[d]at c;cases c
theorem jw.set(h:jw B0 w0 nt G0 s G E a w){id:Nat}{b b':B}(hb:s.di id=aa b)(m:Alike b b'){cells:Array Value}{D:TypeId}
  (q:Bh w w' (E.b id) (.cells cells D (0,0)))(C:E.n id<=cells.size)(P:Holds G E s cells b'):
  jw B0 w0 nt G0 {s with di:=lu s.di id (aa b')} G E a w':=by
 have o:J2 E E s {s with di:=lu s.di id (aa b')}:=by
  refine⟨λi=>bm _,λi sz J _ d=>?_,λi u _ d r=>?_,λi S R=>⟨R,rfl⟩⟩
  ·by_cases e:i=id
   ·subst e;rw[yf (b:=b') (de _ _ _)]at d;obtain⟨n,C,A⟩:=m.2 _ _ d;exact⟨n,(yf hb).trans C,A,λ_=>⟨rfl,rfl⟩⟩
   simp only[PS.Ei,ie _ _ _ _ e]at d;exact⟨J,d,bm _,λ_=>⟨rfl,rfl⟩⟩
  by_cases e:i=id
  ·subst e;simp only[de,av]at d;subst d;exact⟨⟨_,hb,m.1.trans r⟩,rfl⟩
  simp only[ie _ _ _ _ e]at d;exact⟨⟨u,d,r⟩,rfl⟩
 have v:=h.di id b hb;have H:=v.1;refine⟨h.size,h.defers,h.base,h.below.trans (q.below H),h.gok.OP q v.2.1 (h.YO hb),h.gle,h.Jt,λt=>j4.move (ix.me _) o (h.tmp t),λi u c=>?_,λi j g L f Q I=>?_,λi es f=>?_,h.Sn,λp=>j4.move (ix.me _) o (h.ctx p),h.tb⟩
 ·by_cases e:i=id
  ·subst e;simp only[de,av]at c;subst c;refine⟨H,v.2.1,cells,D,q.at_,C,?_⟩;have:=P.move (ix.me G) o;cases b'<;>exact this
  simp only[ie _ _ _ _ e]at c;have k:=h.di i u c;exact k.move (ix.me _) o (q.other _ (h.inj i id u b c hb e)) k.2.1 rfl rfl
 ·have un:∀i g,lu s.di id (aa b') i=aa g->∃b2,s.di i=aa b2:=by
   intro i g f;by_cases e:i=id
   ·subst e;exact⟨b,hb⟩
   rw[ie _ _ _ _ e]at f;exact⟨g,f⟩
  obtain⟨b2,y⟩:=un i g f;obtain⟨b3,l⟩:=un j L Q;exact h.inj i j b2 b3 y l I
 obtain⟨N,y,ents,clock,l,O,F,z⟩:=h.mp i es f;refine⟨N,y,ents,clock,(q.other _ λe=>?_).trans l,O,λi e x hx hy=>⟨(F i e x hx hy).1,j4.F2 (ix.me _) o (F i e x hx hy).2⟩,z⟩;obtain⟨_,_,K,M,z,_⟩:=v;rw[e,z]at l;cases l
theorem jw.a38(h:jw B0 w0 nt G0 s G E a w){id sz n I:Nat}{b b':B}(hb:s.di id=aa b)(N:b.Ei=aa (sz,n))(l:b'.Ei=aa (sz,I))(P:n<I)
  (cells:Array Value)(D:TypeId)(O:Holds G E s cells b'):
  jw B0 w0 nt G0 {s with di:=lu s.di id (aa b')} G {E with b:=lu E.b id w.heap.size,n:=lu E.n id cells.size} a (w.alloc (.cells cells D)):=by
 have m:J2 E {E with b:=lu E.b id w.heap.size,n:=lu E.n id cells.size} s {s with di:=lu s.di id (aa b')}:=by
  refine⟨λi=>bm _,λi R u _ c=>?_,λi y _ c q=>?_,λi S Q=>⟨Q,rfl⟩⟩
  ·by_cases e:i=id
   ·subst e;rw[yf (b:=b') (de _ _ _),l]at c;simp only[av,db]at c;obtain⟨rfl,rfl⟩:=c;exact⟨n,(yf hb).trans N,aep P,λe=>by lia⟩
   simp only[PS.Ei,ie _ _ _ _ e]at c;exact⟨u,c,bm _,λ_=>⟨ie _ _ _ _ e,ie _ _ _ _ e⟩⟩
  by_cases e:i=id
  ·subst e;simp only[de,av]at c;subst c
   cases b'<;>first|(cases q;done)|(simp[B.Ei]at l;done)
  simp only[ie _ _ _ _ e]at c;exact⟨⟨y,c,q⟩,ie _ _ _ _ e⟩
 have g:B0<=w.heap.size:=by rw[h.base];exact h.below.size
 refine⟨h.size,h.defers,h.base,h.below.alloc g _,h.gok.alloc _,h.gle,h.Jt,λt=>j4.move (ix.me _) m (h.tmp t),λi y c=>?_,λi j z A d r v=>?_,λi es d=>?_,h.Sn,λp=>j4.move (ix.me _) m (h.ctx p),h.tb⟩
 ·by_cases e:i=id
  ·subst e;simp only[de,av]at c;subst c;unfold Uf;simp only[de];refine⟨g,λo=>h.gok.HO (bm _) o,cells,D,Mv _ _,bm _,?_⟩;have:=O.move (ix.me G) m;cases b'<;>exact this
  simp only[ie _ _ _ _ e]at c;have k:=h.di i _ c;exact k.move (ix.me _) m (C6 _ _ _ k.lt) k.2.1 (ie _ _ _ _ e) (ie _ _ _ _ e)
 ·have lt:∀i b,s.di i=aa b->E.b i≠w.heap.size:=λi b d=>by have:=(h.di i b d).lt;lia
  by_cases C:i=id
  ·subst C;have f:j≠i:=λe=>v e.symm;simp only[ie _ _ _ _ f]at r;simp only[de,ie _ _ _ _ f];exact λe=>lt j A r e.symm
  simp only[ie _ _ _ _ C]at d|-;by_cases f:j=id
  ·subst f;simp only[de];exact lt i z d
  simp only[ie _ _ _ _ f]at r|-;exact h.inj i j z A d r v
 obtain⟨J,K,ents,clock,F,L,H,M⟩:=h.mp i es d;exact⟨J,K,ents,clock,(C6 _ _ _ (la.1 F).1).trans F,L,λi e x hx hy=>⟨(H i e x hx hy).1,j4.F2 (ix.me _) m (H i e x hx hy).2⟩,M⟩
end
section
variable{B0 nt:Nat}{w0 w w':World}{G0 G G':ix}{s s':PS}{E E':Env}{a:Act}
def bG(G' G:ix)(E:Env)(s:PS)(id:Nat):Prop:=
 (∀sz dv ba v,s.di id=aa (.arr sz dv)->s.ba id=ba->j4 G E s (.ref id ba dv.length) v->iz G' (.gd sz dv) v)/\
 (∀es ds ba v,s.mp id=aa es->aR es=aa ds->s.ba id=ba->j4 G E s (.o8 id ba) v->iz G' (.map ds) v)
def PS.Jg(i:Nat)(s:PS):PS:={s with di:=lu s.di i ae,mp:=lu s.mp i ae}
theorem PS.N4(i:Nat)(r:List Nat)(s:PS):s.vz (i::r)=(s.Jg i).vz r:=rfl
theorem J2.Jg(id:Nat):J2 E E s (s.Jg id):=by
 refine⟨λi=>bm _,λi sz f _ b=>?_,λi g _ b d=>?_,λi _ c=>?_⟩
 ·by_cases e:i=id
  ·subst e;simp[PS.Jg,PS.Ei,de]at b
  simp only[PS.Jg,PS.Ei,ie _ _ _ _ e]at b;exact⟨f,b,bm _,λ_=>⟨rfl,rfl⟩⟩
 ·by_cases e:i=id
  ·subst e;simp[PS.Jg,de]at b
  simp only[PS.Jg,ie _ _ _ _ e]at b;exact⟨⟨g,b,d⟩,rfl⟩
 by_cases e:i=id
 ·subst e;simp[PS.Jg,de]at c
 simp only[PS.Jg,ie _ _ _ _ e]at c;exact⟨c,rfl⟩
theorem NO:∀{es:List (D×C)} {ds:List (D×D)},aR es=aa ds->es=ds.map λe=>(e.1,.d e.2):=by
 intro es
 induction es with
 |nil=>intro ds h;simp only[aR,av]at h;subst h;rfl
 |cons e r f=>
  intro ds h;obtain⟨k,c⟩:=e
  cases c with
  |d x=>
   simp only[aR]at h;split at h
   ·rename_i l b
    injection h with h
    subst h;rw[f b];rfl
   cases h
  |ref _ _ _=>cases h
  |o8 _ _=>cases h
  |ptr _ _ _=>cases h
theorem jw.Jg(h:jw B0 w0 nt G0 s G E a w)(id:Nat):∃G',G.le G'/\jw B0 w0 nt G0 (s.Jg id) G' E a w/\bG G' G E s id:=by
 classical
 let G':ix:=
  {cv:=λb o=>match s.di id with
    |some (.arr sz dv)=>if b=E.b id/\o<dv.length*sz then w.cell? ⟨b,o,ae⟩else G.cv b o
    |_=>G.cv b o
   mv:=λb=>match s.mp id with
    |some _=>if b=E.m id then(match w.heap[b]? with|some (.map ents _)=>aa (ents.toList.map λ(e:MapEntry)=>(e.key,e.val))|_=>ae)else G.mv b
    |none=>G.mv b}
 have X:∀b o,b≠E.b id->G'.cv b o=G.cv b o:=by
  intro b o hb
  show(match s.di id with|some (.arr sz dv)=>if b=E.b id/\o<dv.length*sz then w.cell? ⟨b,o,ae⟩else G.cv b o|_=>G.cv b o)=_
  split
  ·rw[aq (λh=>hb h.1)]
  rfl
 have g:G.le G':=by
  refine⟨λb o v c=>?_,λb es c=>?_⟩
  ·show(match s.di id with|some (.arr sz dv)=>if b=E.b id/\o<dv.length*sz then w.cell? ⟨b,o,ae⟩else G.cv b o|_=>G.cv b o)=_
   split
   ·split
    ·exact h.gok.cv b o v c
    exact c
   exact c
  show(match s.mp id with|some _=>if b=E.m id then(match w.heap[b]? with|some (.map ents _)=>aa (ents.toList.map λ(e:MapEntry)=>(e.key,e.val))|_=>ae)else G.mv b|none=>G.mv b)=_
  split
  ·split
   ·obtain⟨ents,clock,F,q⟩:=h.gok.mv b es c;rw[F];simp[q]
   exact c
  exact c
 have Q:GOk G' w:=by
  refine⟨λb o v c=>?_,λb es c=>?_⟩
  ·change(match s.di id with|some (.arr sz dv)=>if b=E.b id/\o<dv.length*sz then w.cell? ⟨b,o,ae⟩else G.cv b o|_=>G.cv b o)=_ at c
   split at c
   ·split at c
    ·exact c
    exact h.gok.cv b o v c
   exact h.gok.cv b o v c
  change(match s.mp id with|some _=>if b=E.m id then(match w.heap[b]? with|some (.map ents _)=>aa (ents.toList.map λ(e:MapEntry)=>(e.key,e.val))|_=>ae)else G.mv b|none=>G.mv b)=_ at c
  split at c
  ·split at c
   ·split at c
    ·rename_i ents clock Y
     injection c with c
     exact⟨ents,clock,Y,c⟩
    cases c
   exact h.gok.mv b es c
  exact h.gok.mv b es c
 have z:=J2.Jg (E:=E) (s:=s) id
 have n:∀i b,(s.Jg id).di i=aa b->i≠id/\s.di i=aa b:=by
  intro i b hb;by_cases e:i=id
  ·subst e;simp[PS.Jg,de]at hb
  simp only[PS.Jg,ie _ _ _ _ e]at hb;exact⟨e,hb⟩
 have r:∀i es,(s.Jg id).mp i=aa es->i≠id/\s.mp i=aa es:=by
  intro i b hb;by_cases e:i=id
  ·subst e;simp[PS.Jg,de]at hb
  simp only[PS.Jg,ie _ _ _ _ e]at hb;exact⟨e,hb⟩
 refine⟨G',g,⟨h.size,h.defers,h.base,h.below,Q,ix.dO h.gle g,⟨λb o hb=>?_,λb hb=>?_⟩,λt=>j4.move g z (h.tmp t),λi b hb=>?_,λi j A B l y J=>?_,λi es l=>?_,λi j A B l y J=>?_,λp=>j4.move g z (h.ctx p),h.tb⟩,?_⟩
 ·rw[<-h.Jt.1 b o hb]
  show(match s.di id with|some (.arr sz dv)=>if b=E.b id/\o<dv.length*sz then w.cell? ⟨b,o,ae⟩else G.cv b o|_=>G.cv b o)=_
  split
  ·rename_i sz dv hs;have:=(h.di id _ hs).1;rw[aq (λh=>by lia)]
  rfl
 ·rw[<-h.Jt.2 b hb]
  show(match s.mp id with|some _=>if b=E.m id then(match w.heap[b]? with|some (.map ents _)=>aa (ents.toList.map λ(e:MapEntry)=>(e.key,e.val))|_=>ae)else G.mv b|none=>G.mv b)=_
  split
  ·rename_i es hs;have:=(h.mp id es hs).1;rw[aq (by lia)]
  rfl
 ·obtain⟨e,hb⟩:=n i b hb;have k:=h.di i b hb;refine k.move g z rfl (λo=>?_) rfl rfl
  show(match s.di id with|some (.arr sz dv)=>if E.b i=E.b id/\o<dv.length*sz then w.cell? ⟨E.b i,o,ae⟩else G.cv (E.b i) o|_=>G.cv (E.b i) o)=_
  split
  ·rename_i sz dv hs;rw[aq (λV=>h.inj i id b _ hb hs e V.1)];exact k.2.1 o
  exact k.2.1 o
 ·exact h.inj i j A B (n i A l).2 (n j B y).2 J
 ·obtain⟨e,l⟩:=r i es l;obtain⟨F,q,ents,clock,C,H,D,I⟩:=h.mp i es l;refine⟨F,?_,ents,clock,C,H,λi e x hx hy=>⟨(D i e x hx hy).1.mono g,j4.F2 g z (D i e x hx hy).2⟩,I⟩
  show(match s.mp id with|some _=>if E.m i=E.m id then _ else G.mv (E.m i)|none=>G.mv (E.m i))=_
  split
  ·rename_i K hs;rw[aq (h.Sn i id es K l hs e)];exact q
  exact q
 ·exact h.Sn i j A B (r i A l).2 (r j B y).2 J
 refine⟨λsz dv ba v hs c R=>?_,λes ds ba v hs L c R=>?_⟩
 ·obtain⟨_,q⟩:=R;obtain⟨_,k2⟩:=q c sz dv.length (yf hs);obtain⟨cap,e1,e2,rfl⟩:=k2 rfl;obtain⟨_,_,cells,et,C,H,D,I,W⟩:=h.di id _ hs
  have S:∀o,o<dv.length*sz->G'.cv (E.b id) o=w.cell? ⟨E.b id,o,ae⟩:=by
   intro o Z
   show(match s.di id with|some (.arr sz dv)=>if E.b id=E.b id/\o<dv.length*sz then w.cell? ⟨E.b id,o,ae⟩else G.cv (E.b id) o|_=>G.cv (E.b id) o)=_
   rw[hs];simp only[];rw[bc ⟨trivial,Z⟩]
  have T:∀o,w.cell? ⟨E.b id,o,ae⟩=cells[o]? :=by
   intro o;simp[aet,C]
  have U:∀i j,i<dv.length->j<sz->i*sz+j<dv.length*sz:=by
   intro i j l y;have:(i+1)*sz<=dv.length*sz:=ig _ l;rw[kj]at this;lia
  refine iz.gd e2 I (λi j l y=>?_) (λi e j x v u hx c=>?_)
  ·have:=U i j l y;rw[gj,S _ this,T,bz (by lia)];rfl
  have N:i<dv.length:=(bd.1 u).1
  have O:j<sz:=by have:=I i e u;have:=(bd.1 hx).1;lia
  rw[gj,S _ (U i j N O),T]at c;exact(W i e j x v u hx c).mono g
 obtain⟨_,q⟩:=R;have e:=q c (by rw[hs];rfl);subst e;have z:=NO L;subst z;obtain⟨F,_,ents,clock,C,H,D,_⟩:=h.mp id _ hs
 have P:G'.mv (E.m id)=aa (ents.toList.map λ(e:MapEntry)=>(e.key,e.val)):=by
  show(match s.mp id with|some _=>if E.m id=E.m id then(match w.heap[E.m id]? with|some (.map ents _)=>aa (ents.toList.map λ(e:MapEntry)=>(e.key,e.val))|_=>ae)else G.mv (E.m id)|none=>G.mv (E.m id))=_
  rw[hs,C];simp
 refine iz.map P (by simpa using H) (λi e f u M=>?_) (λi e f u M=>?_)
 all_goals
  simp only[dn,ax]at M;obtain⟨x,hx,rfl⟩:=M;have:=D i (e.1,.d e.2) x (by simp[u]) (by simpa using hx)
 ·exact this.1.mono g
 exact iz.mono g this.2
theorem jw.vz:∀(ids:List Nat) {s:PS} {G:ix},jw B0 w0 nt G0 s G E a w->∃G',G.le G'/\jw B0 w0 nt G0 (s.vz ids) G' E a w/\∀id∈ids,bG G' G E s id:=by
 intro ids
 induction ids with
 |nil=>exact λh=>⟨_,ix.me _,h,λid f=>by cases f⟩
 |cons i r y=>
  intro s G h;obtain⟨z,m,t,p⟩:=h.Jg i;obtain⟨o,n,u,q⟩:=y t;refine⟨o,ix.dO m n,u,λid f=>?_⟩
  have first:bG o G E s i:=⟨λsz dv ba v a b c=>(p.1 sz dv ba v a b c).mono n,λes ds ba v a b c d=>(p.2 es ds ba v a b c d).mono n⟩
  by_cases e:id=i
  ·subst e;exact first
  have j:id∈r:=by
   cases f with
   |head=>exact absurd rfl e
   |tail _ h=>exact h
  have g:=q id j;refine⟨λsz dv ba v hb l k=>?_,λes ds ba v hb x l k=>?_⟩
  ·exact g.1 sz dv ba v (by simp only[PS.Jg,ie _ _ _ _ e];exact hb) l (j4.move m (J2.Jg i) k)
  exact g.2 es ds ba v (by simp only[PS.Jg,ie _ _ _ _ e];exact hb) x l (j4.move m (J2.Jg i) k)
theorem zn{id ba sz:Nat}{dv:List (List D)}(h:s.dv id ba=aa (sz,dv)):s.ba id=ba/\s.di id=aa (.arr sz dv):=by
 unfold PS.dv at h;split at h
 ·rename_i d;split at h
  ·rename_i e f hb
   injection h with h
   injection h with b c
   subst b c;exact⟨d,hb⟩
  cases h
 cases h
theorem Lb{id ba sz:Nat}{dv:List (List C)}(h:s.elc id ba=aa (sz,dv)):s.ba id=ba/\∃b,s.di id=aa b/\b.Ei=aa (sz,dv.length)/\
  ((∃ds,b= .arr sz ds/\dv=ds.map λe=>e.map .d)\/b= .ru sz dv):=by
 unfold PS.elc at h;split at h
 ·rename_i f;split at h
  ·rename_i c ds hb;simp only[av,db]at h;obtain⟨rfl,rfl⟩:=h;exact⟨f,_,hb,by simp[B.Ei],.inl ⟨ds,rfl,rfl⟩⟩
  ·rename_i c g hb;simp only[av,db]at h;obtain⟨rfl,rfl⟩:=h;exact⟨f,_,hb,rfl,.inr rfl⟩
  cases h
 cases h
theorem Hq{id ba sz n:Nat}(h:s.K2 id ba=aa (sz,n)):s.ba id=ba/\s.Ei id=aa (sz,n):=by
 unfold PS.K2 at h;split at h
 ·rename_i c;split at h
  ·rename_i b hb;exact⟨c,(yf hb).trans h⟩
  cases h
 cases h
theorem FA{id ba sz:Nat}{dv:List (List D)}(h:s.dv id ba=aa (sz,dv)):s.K2 id ba=aa (sz,dv.length):=by
 obtain⟨b,c⟩:=zn h;unfold PS.K2;rw[bc b,c];rfl
theorem mG{id ba sz:Nat}{dv:List (List D)}(h:s.dv id ba=aa (sz,dv)):s.elc id ba=aa (sz,dv.map λe=>e.map .d):=by
 obtain⟨b,c⟩:=zn h;unfold PS.elc;rw[bc b,c]
theorem a08{id sz n:Nat}(h:s.Ei id=aa (sz,n)):∃b,s.di id=aa b/\b.Ei=aa (sz,n):=by
 unfold PS.Ei at h
 cases hb:s.di id with
 |none=>rw[hb]at h;cases h
 |some b=>rw[hb]at h;exact⟨b,rfl,h⟩
theorem xl{id ba:Nat}{cs:List C}(h:s.cs id ba=aa cs):s.ba id=ba/\s.di id=aa (.loc cs):=by
 unfold PS.cs at h;split at h
 ·rename_i c;split at h
  ·rename_i b hb
   injection h with h
   subst h;exact⟨c,hb⟩
  cases h
 cases h
theorem Gj{id ba:Nat}{es:List (D×C)}(h:s.ents id ba=aa es):s.ba id=ba/\s.mp id=aa es:=by
 unfold PS.ents at h;split at h
 ·rename_i b;exact⟨b,h⟩
 cases h
theorem jX{c:C}{x:D}{ids:List Nat}{u:Value}(b:Rs s c=aa (x,ids))(f:zx G E s c u)(i:G.le G')(j:∀id∈ids,bG G' G E s id):iz G' x u:=by
 cases c with
 |d y=>
  simp only[Rs,av,db]at b;obtain⟨rfl,rfl⟩:=b;exact iz.mono i f
 |ref id ba len=>
  simp only[Rs]at b;split at b
  ·rename_i sz dv h;split at b
   ·rename_i k;simp only[av,db]at b;obtain⟨rfl,rfl⟩:=b;obtain⟨e,e2⟩:=zn h;subst k;exact(j id (by simp)).1 sz dv ba u e2 e f
   cases b
  cases b
 |o8 id ba=>
  simp only[Rs]at b;split at b
  ·rename_i es h;simp only[ax,db]at b;obtain⟨ds,g,rfl,rfl⟩:=b;obtain⟨e,e2⟩:=Gj h;exact(j id (by simp)).2 es ds ba u e2 g e f
  cases b
 |ptr id ba off=>cases b
theorem qP:∀{cs:List C} {ds:List D} {ids:List Nat},Qh s cs=aa (ds,ids)->ds.length=cs.length/\
  (G.le G'->(∀id∈ids,bG G' G E s id)->∀(i:Nat) (c:C) (x:D) (u:Value),cs[i]? =aa c->ds[i]? =aa x->zx G E s c u->iz G' x u):=by
 intro cs
 induction cs with
 |nil=>intro ds ids h;simp only[Qh,av,db]at h;obtain⟨rfl,rfl⟩:=h;exact⟨rfl,by simp⟩
 |cons c r p=>
  intro ds ids h;simp only[Qh]at h;split at h
  ·rename_i x i l j m o;simp only[av,db]at h;obtain⟨rfl,rfl⟩:=h;obtain⟨q,t⟩:=p o;refine⟨by simp[q],λd f n k v u e hx g=>?_⟩
   cases n with
   |zero=>
    simp only[iw,av]at e hx;subst e hx;exact jX m g d λid b=>f id (sE _ b)
   |succ n=>
    simp only[mq]at e hx;exact t d (λid b=>f id (nP _ b)) n k v u e hx g
  cases h
end
def full(w:World):ix where
 cv b o:=w.cell? ⟨b,o,ae⟩
 mv b:=match w.heap[b]? with
  |some (.map ents _)=>aa (ents.toList.map λ(e:MapEntry)=>(e.key,e.val))
  |_=>ae
theorem GOk.a02(w:World):GOk (full w) w where
 cv _ _ _ h:=h
 mv b es h:=by
  unfold full at h;simp only at h;split at h
  ·rename_i ents clock a
   injection h with h
   exact⟨ents,clock,a,h⟩
  cases h
theorem GOk.Wl{G:ix}{w:World}(h:GOk G w):G.le (full w)where
 cv:=h.cv
 mv b es he:=by
  obtain⟨ents,clock,a,c⟩:=h.mv b es he;simp only[full,a,c]
section
variable{B0 nt:Nat}{w0 w w':World}{G0 G G':ix}{s s':PS}{E E':Env}{a:Act}
theorem T7:∀{cs:List C} {ds:List D},Mj cs=aa ds->cs=ds.map .d:=by
 intro cs
 induction cs with
 |nil=>intro ds h;simp only[Mj,av]at h;subst h;rfl
 |cons c r e=>
  intro ds h
  cases c with
  |d x=>
   simp only[Mj]at h;split at h
   ·rename_i l b
    injection h with h
    subst h;rw[e b];rfl
   cases h
  |ref _ _ _=>cases h
  |o8 _ _=>cases h
  |ptr _ _ _=>cases h
theorem bD(ds:List D):Mj (ds.map .d)=aa ds:=by
 induction ds with
 |nil=>rfl
 |cons x r b=>simp[Mj,b]
theorem jw.zp(h:jw B0 w0 nt G0 s G E a w){id:Nat}{b:B}(hb:s.di id=aa b):∃cells c,w.heap[E.b id]? =aa (.cells cells c (0,0))/\E.n id<=cells.size/\Holds G E s cells b/\∀o,w.cell? ⟨E.b id,o,ae⟩=cells[o]? :=by
 obtain⟨_,_,cells,c,d,e,f⟩:=h.di id b hb;refine⟨cells,c,d,e,?_,λo=>by simp[aet,d]⟩;cases b<;>exact f
theorem Zk{α:Type}:∀{l:List (Option α)} {r:List α},Ru l=aa r->r.length=l.length/\∀(i:Nat) (x:α),r[i]? =aa x->l[i]? =aa (aa x):=by
 intro l
 induction l with
 |nil=>intro r h;simp only[Ru,av]at h;subst h;simp
 |cons y l c=>
  intro r h;simp only[Ru]at h;split at h
  ·rename_i x f b
   injection h with h
   subst h;obtain⟨d,e⟩:=c b;refine⟨by simp[d],λi x hx=>?_⟩
   cases i with
   |zero=>simp at hx|-;rw[hx]
   |succ i=>simp at hx|-;exact e i x hx
  cases h
theorem Holds.elc{cells:Array Value}{b:B}{sz:Nat}{dv:List (List C)}(h:Holds G E s cells b)(hb:(∃ds,b= .arr sz ds/\dv=ds.map λe=>e.map .d)\/b= .ru sz dv):
  dv.length*sz<=cells.size/\(∀(i:Nat) (e:List C),dv[i]? =aa e->e.length=sz)/\
   ∀(i:Nat) (e:List C) (j:Nat) (c:C) (u:Value),dv[i]? =aa e->e[j]? =aa c->cells[i*sz+j]? =aa u->zx G E s c u:=by
 rcases hb with ⟨ds,rfl,rfl⟩|rfl
 ·obtain⟨m,n,o⟩:=h;refine⟨by simpa using m,λi e g=>?_,λi e j c u g l p=>?_⟩
  ·simp only[dn,ax]at g;obtain⟨k,f,rfl⟩:=g;simpa using n i k f
  simp only[dn,ax]at g;obtain⟨k,f,rfl⟩:=g;simp only[dn,ax]at l;obtain⟨x,hx,rfl⟩:=l;exact o i k j x u f hx p
 exact h
theorem dA{i j n sz:Nat}(b:i<n)(c:j<sz):i*sz+j<n*sz:=by
 have:(i+1)*sz<=n*sz:=ig _ b;rw[kj]at this;lia
theorem jw.AY(h:jw B0 w0 nt G0 s G E a w):∀(n:Nat) {c:C} {d:D} {v:Value},deep s n c=aa d->zx G E s c v->iz (full w) d v:=by
 intro n
 induction n with
 |zero=>
  intro c d v hs m
  cases c with
  |d x=>simp only[deep,av]at hs;subst hs;exact iz.mono h.gok.Wl m
  |ref _ _ _=>simp[deep]at hs
  |o8 _ _=>simp[deep]at hs
  |ptr _ _ _=>simp[deep]at hs
 |succ n L=>
  intro c d v hs m
  cases c with
  |d x=>simp only[deep,av]at hs;subst hs;exact iz.mono h.gok.Wl m
  |ref id ba len=>
   simp only[deep]at hs;split at hs
   ·rename_i sz dv o;split at hs
    ·rename_i J;simp only[ax]at hs;obtain⟨ds,l,rfl⟩:=hs;obtain⟨r,A⟩:=Zk l;simp only[al]at r;obtain⟨t,b,e2,M,N⟩:=Lb o;obtain⟨_,q⟩:=m.2 t sz dv.length ((yf e2).trans M);obtain⟨cap,c1,V,rfl⟩:=q J;obtain⟨cells,W,B,F,Q,K⟩:=h.zp e2;obtain⟨H,O,P⟩:=Q.elc N
     have row:∀(i:Nat) (e:List D),ds[i]? =aa e->∃g,dv[i]? =aa g/\e.length=g.length/\∀(j:Nat) (x:D),e[j]? =aa x->∃c,g[j]? =aa c/\deep s n c=aa x:=by
      intro i e k;have:=A i e k;simp only[dn,ax]at this;obtain⟨g,u,S⟩:=this;obtain⟨T,U⟩:=Zk S;refine⟨g,u,by simpa using T,λj x hx=>?_⟩;have:=U j x hx;simp only[dn,ax]at this;exact this
     subst J;rw[<-r];refine iz.gd (by lia) (λi e k=>?_) (λi j k R=>?_) (λi e j x v k hx m=>?_)
     ·obtain⟨g,q1,q2,_⟩:=row i e k;rw[q2];exact O i g q1
     ·show(w.cell? _).isSome;have:=dA (n:=dv.length) (by lia:i<dv.length) R;rw[gj,K,bz (by lia)];rfl
     have p:w.cell? ⟨E.b id,0+i*sz+j,ae⟩=aa v:=m;rw[gj,K]at p;obtain⟨g,q1,_,q3⟩:=row i e k;obtain⟨c,q4,q5⟩:=q3 j x hx;exact L q5 (P i g j c v q1 q4 p)
    cases hs
   cases hs
  |o8 id ba=>
   simp only[deep]at hs;split at hs
   ·rename_i es o;simp only[ax]at hs;obtain⟨ds,l,rfl⟩:=hs;obtain⟨r,A⟩:=Zk l;simp only[al]at r;obtain⟨t,e2⟩:=Gj o;have:=m.2 t (by rw[e2];rfl);subst this;obtain⟨X,_,ents,clock,B,F,H,_⟩:=h.mp id es e2;refine iz.map (fs:=ents.toList.map λ(e:MapEntry)=>(e.key,e.val)) (by simp only[full,B]) (by simpa using F.trans r.symm) (λi e f o z=>?_) (λi e f o z=>?_)
    all_goals
     simp only[dn,ax]at z;obtain⟨x,hx,rfl⟩:=z;have I:=A i e o;simp only[dn,ax]at I;obtain⟨g,k,y,hy,rfl⟩:=I;have:=H i g x k (by simpa using hx)
    ·exact this.1.mono h.gok.Wl
    exact L hy this.2
   cases hs
  |ptr _ _ _=>simp[deep]at hs
theorem jw.Sf(h:jw B0 w0 nt G0 s G E a w){c:C}{d:D}{v:Value}(hs:ow s c=aa d)(f:zx G E s c v):iz (full w) d v:=by
 cases c with
 |d y=>simp only[ow,av]at hs;subst hs;exact iz.mono h.gok.Wl f
 |ref id ba len=>
  simp only[ow]at hs;split at hs
  ·rename_i sz dv k;split at hs
   ·rename_i u
    injection hs with hs
    subst hs u;obtain⟨n,e2⟩:=zn k;obtain⟨_,z⟩:=f.2 n sz dv.length (yf e2);obtain⟨cap,c1,m,rfl⟩:=z rfl;obtain⟨cells,A,B,F,q,l⟩:=h.zp e2;obtain⟨H,o,p⟩:=q;refine iz.gd m o (λi j r t=>?_) (λi e j x v k hx f=>?_)
    ·show(w.cell? _).isSome;have:=dA r t;rw[gj,l,bz (by lia)];rfl
    have g:w.cell? ⟨E.b id,0+i*sz+j,ae⟩=aa v:=f;rw[gj,l]at g;exact(p i e j x v k hx g).mono h.gok.Wl
   cases hs
  exact h.AY 6 hs f
 |o8 id ba=>exact h.AY 6 hs f
 |ptr id ba off=>cases hs
theorem Y2:∀{cs:List C} {ds:List D},k9 s cs=aa ds->ds.length=cs.length/\∀(i:Nat) (c:C) (d:D),cs[i]? =aa c->ds[i]? =aa d->ow s c=aa d:=by
 intro cs
 induction cs with
 |nil=>intro ds h;simp only[k9,av]at h;subst h;exact⟨rfl,by simp⟩
 |cons c r k=>
  intro ds h;simp only[k9]at h;split at h
  ·rename_i x l g j
   injection h with h
   subst h;obtain⟨m,n⟩:=k j;refine⟨by simp[m],λi f d b e=>?_⟩
   cases i with
   |zero=>simp at b e;subst b e;exact g
   |succ i=>simp at b e;exact n i f d b e
  cases h
theorem jw.iS(h:jw B0 w0 nt G0 s G E a w){id ba:Nat}{cs:List C}{ds:List D}(g:s.cs id ba=aa cs)(i:k9 s cs=aa ds)(off:Nat):
  iz (full w) (.ym ds off) (.pointer (aa ⟨E.b id,off,ae⟩)):=by
 obtain⟨_,hb⟩:=xl g;obtain⟨cells,n,_,_,e,f⟩:=h.zp hb;obtain⟨m,e2⟩:=Y2 i;have p:=e.1
 have k:=iz.ym (G:=full w) (cells:=ds) (b:=E.b id) (o:=0) (off:=off) (λj c=>by
  show(w.cell? _).isSome;rw[gj,f,bz (by lia)]
  rfl) (λj x v hx l=>by
  have d:cells[j]? =aa v:=by
   have:w.cell? ⟨E.b id,0+j,ae⟩=aa v:=l
   rwa[gj,f]at this
  have c:j<cs.length:=by have:=(bd.1 hx).1;lia
  have:=e.2 j cs[j] v (bh c) d
  exact h.Sf (e2 j _ x (bh c) hx) this)
 rwa[gj]at k
theorem NR{α:Type}:∀{n sz:Nat} {ds:List α},n*sz<=ds.length->(chunks sz n ds).length=n/\∀(i:Nat) (e:List α),(chunks sz n ds)[i]? =aa e->e.length=sz/\∀(j:Nat) (x:α),e[j]? =aa x->ds[i*sz+j]? =aa x:=by
 intro n
 induction n with
 |zero=>intro sz ds _;exact⟨rfl,by simp[chunks]⟩
 |succ n d=>
  intro sz ds c;rw[kj]at c;obtain⟨f,g⟩:=d (sz:=sz) (ds:=ds.drop sz) (by simp;lia);refine⟨by simp[chunks,f],λi e b=>?_⟩
  cases i with
  |zero=>
   simp only[chunks,iw,av]at b;subst b;refine⟨by simp;lia,λj x hx=>?_⟩;rw[ko]at hx;split at hx
   ·simpa using hx
   cases hx
  |succ i=>
   simp only[chunks,mq]at b;obtain⟨q1,q2⟩:=g i e b;refine⟨q1,λj x hx=>?_⟩;have:=q2 j x hx;rw[pv]at this;rw[<-this,kj]
   congr 1
   lia
theorem jw.jG(h:jw B0 w0 nt G0 s G E a w){x:V}{d:D}{v:Value}(hs:snap s x=aa d)(g:j4 G E s x v):iz (full w) d v:=by
 cases x with
 |d y=>simp only[snap,av]at hs;subst hs;exact iz.mono h.gok.Wl g
 |ref id ba len=>exact h.Sf (c:= .ref id ba len) hs g
 |o8 id ba=>exact h.Sf (c:= .o8 id ba) hs g
 |gz id ba off=>
  simp only[snap]at hs;split at hs
  ·rename_i cs q;simp only[ax]at hs;obtain⟨ds,r,rfl⟩:=hs;obtain⟨I,e2⟩:=xl q;have:=g.2 I ⟨_,e2,rfl⟩;subst this;exact h.iS q r off
  cases hs
 |Iy id ba F i off=>cases hs
 |qb f ids=>
  have key:∀p∈ids,∀cs,s.cs p.1 p.2=aa cs->s.ba p.1=p.2/\∃b,s.di p.1=aa b/\b.isVar=true:=λp _ cs q=>⟨(xl q).1,_,(xl q).2,rfl⟩
  match ids,hs,g,key with
  |[(id,ba)],hs,g,key=>
   simp only[snap]at hs;split at hs
   ·rename_i cs q;simp only[ax]at hs;obtain⟨ds,r,rfl⟩:=hs;have:=g.2 (by intro p A;simp only[Q9]at A;subst A;exact key _ (by simp) cs q);subst this;refine iz.qb (by simp) λi x v hx g=>?_
    match i,hx,g with
    |0,hx,g=>
     simp at hx g;subst hx g;exact h.iS q r 0
    |i+1,hx,g=>simp at hx
   cases hs
  |[(id,ba),(id',nT)],hs,g,key=>
   simp only[snap]at hs;split at hs
   ·rename_i cs H q z;split at hs
    ·rename_i ds N r J
     injection hs with hs
     subst hs
     have:=g.2 (by
      intro p A;simp only[fa,kz,or_false]at A;rcases A with rfl|rfl
      ·exact key _ (by simp) cs q
      exact key _ (by simp) H z)
     subst this;refine iz.qb (by simp) λi x v hx g=>?_
     match i,hx,g with
     |0,hx,g=>
      simp at hx g;subst hx g;exact h.iS q r 0
     |1,hx,g=>
      simp at hx g;subst hx g;exact h.iS z J 0
     |i+2,hx,g=>simp at hx
    cases hs
   cases hs
 |agg cs=>
  simp only[snap,ax]at hs;obtain⟨ds,r,rfl⟩:=hs;obtain⟨vs,rfl,e2,O⟩:=G6.1 g;obtain⟨W,S⟩:=Y2 r;refine iz.agg (by lia) λi x u hx R=>?_
  have t:i<cs.length:=by have:=(bd.1 hx).1;lia
  exact h.Sf (S i _ x (bh t) hx) (O i _ u (bh t) R)
 |Bb cs=>cases hs
 |Lm id ba F n=>
  simp only[snap]at hs;split at hs
  ·rename_i cs q;split at hs
   ·rename_i ds r;split at hs
    ·rename_i U
     injection hs with hs
     subst hs;obtain⟨I,e2⟩:=xl q;have:=g.2 I ⟨_,e2,rfl⟩;subst this;obtain⟨cells,T,_,_,K,L⟩:=h.zp e2;obtain⟨q1,q2⟩:=Y2 r;have P:=K.1;have k:=NR (ds:=ds) (sz:=n) (n:=F) (by lia)
     have:=iz.gd (G:=full w) (sz:=n) (l:=chunks n F ds) (b:=E.b id) (o:=0) (c:=F) (by rw[k.1];exact bm _) (λi e t=>(k.2 i e t).1) (λi j t Q=>by
      show(w.cell? _).isSome;rw[k.1]at t;have:=dA t Q;rw[gj,L,bz (by lia)]
      rfl) (λi e j x v t hx g=>by
      have B:w.cell? ⟨E.b id,0+i*n+j,ae⟩=aa v:=g;rw[gj,L]at B;have C:=(k.2 i e t).2 j x hx
      have M:i*n+j<cs.length:=by have:=(bd.1 C).1;lia
      exact h.Sf (q2 _ _ x (bh M) C) (K.2 _ _ v (bh M) B))
     rwa[k.1]at this
    cases hs
   cases hs
  cases hs
 |Iz id ba m j=>cases hs
 |win _ _ _ _ _=>cases hs
 |no=>cases hs
theorem JV:∀{args:List V} {ds:List D},Ln s args=aa ds->ds.length=args.length/\∀(i:Nat) (x:V) (d:D),args[i]? =aa x->ds[i]? =aa d->snap s x=aa d:=by
 intro args
 induction args with
 |nil=>intro ds h;simp only[Ln,av]at h;subst h;simp
 |cons x r g=>
  intro ds h;simp only[Ln]at h;split at h
  ·rename_i d l e f
   injection h with h
   subst h;obtain⟨j,k⟩:=g f;refine⟨by simp[j],λi m c hx b=>?_⟩
   cases i with
   |zero=>simp at hx b;subst hx b;exact e
   |succ i=>simp at hx b;exact k i m c hx b
  cases h
def join(G G':ix)(n:Nat):ix where
 cv b o:=if b<n then G.cv b o else G'.cv b o
 mv b:=if b<n then G.mv b else G'.mv b
theorem jw.nC(h:jw B0 w0 nt G0 s G E a w)(hb:Bel (Plain s.ctx) w.heap.size w w'){G':ix}(c:G.le G')(j:GOk G' w')(m:∀b o,b<w.heap.size->G'.cv b o=G.cv b o)(d:∀b,b<w.heap.size->G'.mv b=G.mv b):
  jw B0 w0 nt G0 s G' E a w':=by
 have A:B0<=w.heap.size:=by rw[h.base];exact h.below.size
 have f:J2 E E s s:=⟨λ_=>bm _,λ_ _ C _ h=>⟨C,h,bm _,λ_=>⟨rfl,rfl⟩⟩,λ_ b _ h B=>⟨⟨b,h,B⟩,rfl⟩,λ_ _ h=>⟨h,rfl⟩⟩;refine⟨h.size,h.defers,h.base,h.below.trans (hb.mono A),j,ix.dO h.gle c,⟨λb o l=>?_,λb l=>?_⟩,λt=>j4.move c f (h.tmp t),λi b g=>?_,h.inj,λi es g=>?_,h.Sn,λp=>j4.move c f (h.ctx p),h.tb⟩
 ·rw[m b o (by lia)];exact h.Jt.1 b o l
 ·rw[d b (by lia)];exact h.Jt.2 b l
 ·have k:=h.di i b g;exact k.move c f (hb.block _ k.lt) (λo=>by rw[m _ _ k.lt];exact k.2.1 o) rfl rfl
 obtain⟨u,v,ents,clock,n,y,q,z⟩:=h.mp i es g;have r:=(la.1 n).1;exact⟨u,by rw[d _ r];exact v,ents,clock,(hb.block _ r).trans n,y,λi e x hx hy=>⟨(q i e x hx hy).1.mono c,j4.F2 c f (q i e x hx hy).2⟩,z⟩
theorem jw.gG(h:jw B0 w0 nt G0 s G E a w)(id:Nat):
  jw B0 w0 nt G0 {s with mp:=lu s.mp id (aa []),ba:=lu s.ba id (s.ba id+1)} G {E with m:=lu E.m id w.heap.size} a (w.alloc (.map #[] 0)):=by
 have o:J2 E {E with m:=lu E.m id w.heap.size} s {s with mp:=lu s.mp id (aa []),ba:=lu s.ba id (s.ba id+1)}:=by
  have J:∀i,lu s.ba id (s.ba id+1) i=s.ba i->i≠id:=by
   intro i c e;subst e;rw[de]at c;lia
  refine⟨λi=>?_,λi sz K q g=>⟨K,g,bm _,λ_=>⟨rfl,rfl⟩⟩,λi C q g r=>⟨⟨C,g,r⟩,rfl⟩,λi q B=>?_⟩
  ·show _<=lu s.ba id (s.ba id+1) i;by_cases e:i=id
   ·subst e;rw[de];lia
   rw[ie _ _ _ _ e];exact bm _
  have e:=J i q;simp only[ie _ _ _ _ e]at B;exact⟨B,ie _ _ _ _ e⟩
 have f:B0<=w.heap.size:=by rw[h.base];exact h.below.size
 refine⟨h.size,h.defers,h.base,h.below.alloc f _,h.gok.alloc _,h.gle,h.Jt,λt=>j4.move (ix.me _) o (h.tmp t),λi b' g=>?_,h.inj,λi es c=>?_,λi j v y c n u=>?_,λp=>j4.move (ix.me _) o (h.ctx p),h.tb⟩
 ·have k:=h.di i b' g;exact k.move (ix.me _) o (C6 _ _ _ k.lt) k.2.1 rfl rfl
 ·by_cases e:i=id
  ·subst e;simp only[de,av]at c|-;subst c;exact⟨f,h.gok.a3v (bm _),#[],0,Mv _ _,rfl,by simp,by simp[eF]⟩
  simp only[ie _ _ _ _ e]at c|-;obtain⟨D,F,ents,clock,l,H,A,I⟩:=h.mp i es c;exact⟨D,F,ents,clock,(C6 _ _ _ (la.1 l).1).trans l,H,λi e x hx hy=>⟨(A i e x hx hy).1,j4.F2 (ix.me _) o (A i e x hx hy).2⟩,I⟩
 have lt:∀i b,s.mp i=aa b->E.m i≠w.heap.size:=λi b c=>by
  obtain⟨_,_,ents,clock,l,_⟩:=h.mp i b c;have:=(la.1 l).1;lia
 by_cases z:i=id
 ·subst z;have d:j≠i:=λe=>u e.symm;simp only[ie _ _ _ _ d]at n;simp only[de,ie _ _ _ _ d];exact λe=>lt j y n e.symm
 simp only[ie _ _ _ _ z]at c|-;by_cases d:j=id
 ·subst d;simp only[de];exact lt i v c
 simp only[ie _ _ _ _ d]at n|-;exact h.Sn i j v y c n u
theorem jw.bQ(h:jw B0 w0 nt G0 s G E a w){id:Nat}{d es:List (D×C)}(r:s.mp id=aa d){ents:Array MapEntry}{clock:Nat}(q:Bh w w' (E.m id) (.map ents clock))
  (V:ents.size=es.length)(I:∀(i:Nat) (e:D×C) (x:MapEntry),es[i]? =aa e->ents[i]? =aa x->iz G e.1 x.key/\zx G E s e.2 x.val)(A:eF ents clock):
  jw B0 w0 nt G0 {s with mp:=lu s.mp id (aa es)} G E a w':=by
 have n:J2 E E s {s with mp:=lu s.mp id (aa es)}:=by
  refine⟨λ_=>bm _,λ_ _ X _ h=>⟨X,h,bm _,λ_=>⟨rfl,rfl⟩⟩,λ_ b _ h W=>⟨⟨b,h,W⟩,rfl⟩,λi _ H=>⟨?_,rfl⟩⟩;by_cases e:i=id
  ·subst e;rw[r];rfl
  simp only[ie _ _ _ _ e]at H;exact H
 obtain⟨J,K,O,N,L,Z,m5⟩:=h.mp id d r
 have B:∀o,G.cv (E.m id) o=none:=by
  intro o
  cases T:G.cv (E.m id) o with
  |none=>rfl
  |some v=>
   have:=h.gok.cv _ _ _ T;simp[aet,L]at this
 refine⟨h.size,h.defers,h.base,h.below.trans (q.below J),h.gok.OP q B K,h.gle,h.Jt,λt=>j4.move (ix.me _) n (h.tmp t),λi b hb=>?_,h.inj,λi l c=>?_,λi j g P c U M=>?_,λp=>j4.move (ix.me _) n (h.ctx p),h.tb⟩
 ·have k:=h.di i b hb;refine k.move (ix.me _) n (q.other _ λe=>?_) k.2.1 rfl rfl;obtain⟨_,_,cells,Y,f,_⟩:=k;rw[e,L]at f;cases f
 ·by_cases e:i=id
  ·subst e;simp only[de,av]at c;subst c;exact⟨J,K,ents,clock,q.at_,V,λi e x hx hy=>⟨(I i e x hx hy).1,j4.F2 (ix.me _) n (I i e x hx hy).2⟩,A⟩
  simp only[ie _ _ _ _ e]at c;obtain⟨Q,z,y,u,f,R,F,S⟩:=h.mp i l c;exact⟨Q,z,y,u,(q.other _ (h.Sn i id l d c r e)).trans f,R,λi e x hx hy=>⟨(F i e x hx hy).1,j4.F2 (ix.me _) n (F i e x hx hy).2⟩,S⟩
 have un:∀i g,lu s.mp id (aa es) i=aa g->∃b2,s.mp i=aa b2:=by
  intro i g c;by_cases e:i=id
  ·subst e;exact⟨d,r⟩
  rw[ie _ _ _ _ e]at c;exact⟨g,c⟩
 obtain⟨b2,z⟩:=un i g c;obtain⟨b3,f⟩:=un j P U;exact h.Sn i j b2 b3 z f M
end
theorem Fx(b o n:Nat):(⟨b,o,ae⟩:Addr).add n=⟨b,o+n,ae⟩:=by
 unfold Addr.add;split<;>simp_all
theorem bJ{P:Program}{t:TypeId}{g:Bool}(a:C1 P t=aa g)(w:World):(isAgg t).run P w= .ok g w:=by
 unfold C1 at a;unfold isAgg underlying
 cases b:P.underlying t with
 |none=>rw[b]at a;cases a
 |some d=>
  rw[b]at a;simp only[df,run_program,br,b];cases d<;>simp at a<;>subst a<;>simp
theorem u6{P:Program}{t:TypeId}{n:Nat}(a:lx P t=aa n)(w:World):(sizeOf t).run P w= .ok n w:=by
 unfold lx at a;simp only[ax]at a;obtain⟨i,b,rfl⟩:=a;simp[sizeOf,typeInfo,b]
theorem iz.yI{G:ix}{x:D}{v:Value}(h:iz G x v)(hx:x.one=ah):v.oneCell'=true:=by
 cases h<;>first|rfl|cases hx
section
variable{P:Program}{B0 nt:Nat}{w0 w w':World}{G0 G G':ix}{s s':PS}{E E':Env}{a:Act}
theorem Tm{t:TypeId}{n b o:Nat}{g:Bool}{cs:List C}(hs:lx P t=aa n)(B:C1 P t=aa g)(y:g=ah\/n=1)(r:cs.length=n)
  (k:∀j,j<n->∃u,w.cell? ⟨b,o+j,ae⟩=aa u/\∀c,cs[j]? =aa c->zx G E s c u):
  ∃u,(loadVar t ⟨b,o,ae⟩).run P w= .ok u w/\j4 G E s (mkv g cs) u:=by
 unfold loadVar;simp only[df,bJ B,br]
 cases g with
 |true=>
  have A:∀j,j<n->w.cell? ((⟨b,o,ae⟩:Addr).add j)=aa ((w.cell? ⟨b,o+j,ae⟩).getD undef):=by
   intro j D;obtain⟨u,f,_⟩:=k j D;rw[Fx,f];rfl
  simp only[da,df,u6 hs,br,run_loadCells w _ n (λj=>(w.cell? ⟨b,o+j,ae⟩).getD undef) A,fl];refine⟨_,rfl,?_⟩
  have rel:∀(i:Nat) (c:C) (u:Value),cs[i]? =aa c->((fc n).map λj=>(w.cell? ⟨b,o+j,ae⟩).getD undef).toArray[i]? =aa u->zx G E s c u:=by
   intro i c u q f
   have h:i<n:=by have:=(bd.1 q).1;lia
   obtain⟨H,p,m⟩:=k i h;simp only[B7,dn,Nk h,jc,av]at f;rw[p]at f;simp only[jj]at f;subst f;exact m c q
  unfold mkv
  cases z:Mj cs with
  |some ds=>
   have e:=T7 z;subst e;refine iz.agg (by simp at r|-;lia) λi x v hx F=>?_;exact rel i (.d x) v (by simp[hx]) F
  |none=>exact G6.2 ⟨_,rfl,by simp;lia,rel⟩
 |false=>
  have l:n=1:=by simpa using y
  subst l;obtain⟨u,f,m⟩:=k 0 (by lia);rw[Ad]at f;refine⟨u,by simp[f],?_⟩
  match cs,r with
  |[c],_=>
   unfold mkv;simp only[Mj];exact m c rfl
theorem iP{g:Bool}{ds:List D}:mkd g ds=mkv g (ds.map .d):=by
 unfold mkd mkv;rw[bD];cases g
 ·match ds with
  |[]=>rfl
  |[x]=>rfl
  |_::_::_=>rfl
 rfl
theorem Au(x:Addr)(w:World):(a5p (.pointer (aa x))).run P w= .ok x w:=rfl
theorem Yd(h:jw B0 w0 nt G0 s G E a w){t:TypeId}{n:Nat}{g:Bool}{x y:V}{v:Value}(hs:lx P t=aa n)(H:C1 P t=aa g)(F:g=ah\/n=1)
  (f:Cw s n g x=aa y)(I:j4 G E s x v):∃u,(aeq t v).run P w= .ok u w/\j4 G E s y u:=by
 unfold aeq
 cases x with
 |gz id ba off=>
  simp only[Cw]at f;split at f
  ·rename_i cs R;split at f
   ·rename_i m
    injection f with f
    subst f;obtain⟨B,e2⟩:=xl R;have:=I.2 B ⟨_,e2,rfl⟩;subst this;obtain⟨cells,Q,_,_,A,C⟩:=h.zp e2;simp only[df,Au,br];refine Tm hs H F (by simp;lia) λj r=>?_
    have p:off+j<cells.size:=by have:=A.1;lia
    refine⟨cells[off+j],by rw[C,bz p],λc k=>?_⟩;refine A.2 (off+j) c _ ?_ (bz p);rw[ko,bc r,pv]at k;exact k
   cases f
  cases f
 |Iy id ba X i off=>
  simp only[Cw]at f;split at f
  ·rename_i sz dv M;split at f
   ·rename_i e l;split at f
    ·rename_i m
     injection f with f
     subst f;obtain⟨B,e2⟩:=zn M;obtain⟨_,D⟩:=I.2 B sz dv.length (yf e2);have:=D m.1;subst this;obtain⟨cells,Q,_,_,A,C⟩:=h.zp e2;obtain⟨U,K,L⟩:=A;simp only[df,Au,br];have N:=K i e l;have q:i<dv.length:=(bd.1 l).1;have hb:(i+1)*sz<=dv.length*sz:=ig _ q;rw[kj,Cj]at hb;have J:=m.2;rw[iP];refine Tm hs H F (by simp;lia) λj r=>?_
     have p:i*sz+off+j<cells.size:=by lia
     refine⟨cells[i*sz+off+j],by rw[C,bz p],λc k=>?_⟩;rw[dn,ko,bc r,pv]at k
     cases hx:e[off+j]? with
     |none=>rw[hx]at k;cases k
     |some x=>
      rw[hx]at k;simp only[jc,av]at k;subst k;exact L i e (off+j) x _ l hx (by rw[<-tc];exact bz p)
    cases f
   cases f
  split at f
  ·rename_i sz dv M;split at f
   ·rename_i e l;split at f
    ·rename_i m
     injection f with f
     subst f;obtain⟨B,b,e2,S,T⟩:=Lb M;obtain⟨_,D⟩:=I.2 B sz dv.length ((yf e2).trans S);have:=D m.1;subst this;obtain⟨cells,Q,_,_,A,C⟩:=h.zp e2;obtain⟨U,K,L⟩:=A.elc T;simp only[df,Au,br];have N:=K i e l;have q:i<dv.length:=(bd.1 l).1;have hb:(i+1)*sz<=dv.length*sz:=ig _ q;rw[kj,Cj]at hb;have J:=m.2;refine Tm hs H F (by simp;lia) λj r=>?_
     have p:i*sz+off+j<cells.size:=by lia
     refine⟨cells[i*sz+off+j],by rw[C,bz p],λc k=>?_⟩;rw[ko,bc r,pv]at k;exact L i e (off+j) c _ l k (by rw[<-tc];exact bz p)
    cases f
   cases f
  cases f
 |d z=>
  cases z with
  |ym cells off=>
   simp only[Cw]at f;split at f
   ·rename_i m
    injection f with f
    subst f
    cases I with
    | @ym _ b o _ W D=>
     simp only[df,Au,br];rw[iP];refine Tm hs H F (by simp;lia) λj r=>?_;obtain⟨u,O⟩:=ma.1 (W (off+j) (by lia));rw[<-tc]at O;refine⟨u,h.gok.cv _ _ _ O,λc k=>?_⟩;rw[dn,ko,bc r,pv]at k
     cases hx:cells[off+j]? with
     |none=>rw[hx]at k;cases k
     |some x=>
      rw[hx]at k;simp only[jc,av]at k;subst k;exact D (off+j) x u hx (by rw[<-tc];exact O)
   cases f
  |_=>cases f
 |_=>cases f
theorem T4{x:V}{cs:List C}{v:Value}(hx:x.cells s=aa cs)(b:j4 G E s x v):
  v.cells.size=cs.length/\∀(j:Nat) (c:C) (u:Value),cs[j]? =aa c->v.cells[j]? =aa u->zx G E s c u:=by
 have one:∀(c:C) (v:Value),v.cells= #[v]->zx G E s c v->v.cells.size=[c].length/\∀(j:Nat) (m:C) (u:Value),[c][j]? =aa m->v.cells[j]? =aa u->zx G E s m u:=by
  intro c v g r;rw[g];refine⟨rfl,λj m u f i=>?_⟩
  match j,f,i with
  |0,f,i=>simp at f i;subst f i;exact r
  |j+1,f,i=>simp at f
 cases x with
 |d z=>
  cases z with
  |agg ds=>
   simp only[V.cells,av]at hx;subst hx
   cases b with
   |agg l p=>
    refine⟨by simpa[Value.cells]using l,λj c u g q=>?_⟩;simp only[dn,ax]at g;obtain⟨x,hx,rfl⟩:=g;exact p j x u hx q
  |Bb _=>cases hx
  |any=>cases hx
  |_=>simp only[V.cells,av]at hx;subst hx;refine one _ _ ?_ b;cases b<;>rfl
 |ref id ba len=>
  simp only[V.cells]at hx;split at hx
  ·rename_i sz n k;split at hx
   ·rename_i l
    injection hx with hx
    subst hx;obtain⟨h,e2⟩:=Hq k;obtain⟨_,t⟩:=b.2 h sz n e2;obtain⟨cap,_,_,e⟩:=t l;exact one _ _ (by rw[e];rfl) b
   cases hx
  cases hx
 |o8 id ba=>
  simp only[V.cells]at hx;split at hx
  ·rename_i es k
   injection hx with hx
   subst hx;obtain⟨h,e2⟩:=Gj k;have e:=b.2 h (by rw[e2];rfl);exact one _ _ (by rw[e];rfl) b
  cases hx
 |gz id ba off=>
  simp only[V.cells]at hx;split at hx
  ·rename_i o k
   injection hx with hx
   subst hx;obtain⟨h,e2⟩:=xl k;have e:=b.2 h ⟨_,e2,rfl⟩;exact one (.ptr id ba off) _ (by rw[e];rfl) b
  cases hx
 |agg o=>
  simp only[V.cells,av]at hx;subst hx;obtain⟨vs,rfl,l,p⟩:=G6.1 b;exact⟨l,λj c u g q=>p j c u g q⟩
 |_=>cases hx
theorem F1{α:Type}(l:List α)(off:Nat)(xs:List α)(h:off+xs.length<=l.length)(j:Nat):
  (patch l off xs)[j]? =if off<=j/\j<off+xs.length then xs[j-off]? else l[j]? :=by
 unfold patch;rw[uy,On];simp only[ey,rY (show off<=l.length by lia)];by_cases b:j<off
 ·rw[bc b,aq (by lia),ko,bc b]
 rw[aq b,On];by_cases c:j-off<xs.length
 ·rw[bc c,bc (by lia)]
 rw[aq c,aq (by lia),pv]
 congr 1
 lia
theorem so{α:Type}(l:List α)(off:Nat)(xs:List α)(h:off+xs.length<=l.length):(patch l off xs).length=l.length:=by
 unfold patch;simp;lia
theorem Ou{t:TypeId}{n b o:Nat}{c:TypeId}{v:Value}{cells:Array Value}(hs:lx P t=aa n)(f:v.cells.size=n)(g:w.heap[b]? =aa (.cells cells c (0,0)))
  (e:o+n<=cells.size)(d:∀u∈v.cells.toList,u.oneCell'=ah):
  (storeVar t ⟨b,o,ae⟩ v).run P w= .ok () (w.setRow b (patch cells.toList o v.cells.toList).toArray):=by
 unfold storeVar;simp only[df,u6 hs,br];rw[aq (by simpa using f)];have:=run_storeCells_at (P:=P) b o c v.cells.toList 0 cells w g (by simp;lia) d;simpa[patch]using this
theorem Bh.setRow{b:Nat}{c:TypeId}{cells:Array Value}(e:w.heap[b]? =aa (.cells cells c (0,0)))(cs:Array Value):Bh w (w.setRow b cs) b (.cells cs c (0,0)):=
 ⟨rfl,rfl,rfl,rfl,by simp,λk d=>setRow_other w b k cs d,setRow_heap w b cells cs c (0,0) e⟩
theorem Z4(h:jw B0 w0 nt G0 s G E a w){t:TypeId}{n id ba S i off:Nat}{ad:Value}{xs:List C}{v:Value}{e:nJ}(hs:lx P t=aa n)
  (g:G5 s n xs id ba S i off=aa e)(hx:j4 G E s (.Iy id ba S i off) ad)(T:v.cells.size=xs.length)
  (hv:∀(j:Nat) (c:C) (u:Value),xs[j]? =aa c->v.cells[j]? =aa u->zx G E s c u)(yr:xs.all (C.one s)=ah->∀u∈v.cells.toList,u.oneCell'=ah):
  ∃w' id b,((a5p ad).bind λa=>storeVar t a v).run P w= .ok () w'/\e=([],.set id b)/\jw B0 w0 nt G0 {s with di:=lu s.di id (aa b)} G E a w':=by
 unfold G5 at g;split at g
 ·rename_i sz dv Y;split at g
  ·rename_i e p;split at g
   ·rename_i k
    injection g with g
    subst g;obtain⟨W,b,e2,N,O⟩:=Lb Y;obtain⟨_,k2⟩:=hx.2 W sz dv.length ((yf e2).trans N);have:=k2 k.2.1;subst this;obtain⟨cells,et,M,hn,Z,hw⟩:=h.zp e2;obtain⟨X,F,R⟩:=Z.elc O;have U:∀(A:Addr) (f:Addr->Sem Unit),((a5p (.pointer (aa A))).bind f).run P w=(f A).run P w:=λ_ _=>rfl;rw[U];have I:=F i e p;have K:i<dv.length:=(bd.1 p).1;have hb:(i+1)*sz<=dv.length*sz:=ig _ K;rw[kj,Cj]at hb;have h3:=k.2.2.1;have h4:=k.2.2.2;rw[Ou hs (by lia) M (by lia) (yr k.1)]
    have y:off+xs.length<=e.length:=by lia
    have q:i*sz+off+v.cells.toList.length<=cells.toList.length:=by simp;lia
    have H:Alike b (.ru sz (dv.set i (patch e off xs))):=by
     refine⟨by rcases O with ⟨_,rfl,_⟩|rfl<;>rfl,λa3 n' Q=>?_⟩
     simp only[B.Ei,J8,av,db]at Q;obtain⟨rfl,rfl⟩:=Q;exact⟨_,N,bm _⟩
    refine⟨_,id,_,rfl,rfl,h.set e2 H (Bh.setRow M _) (by simp[so _ _ _ q,hn]) ⟨by simp[so _ _ _ q];exact X,λm z d=>?_,λm z j x u d r l=>?_⟩⟩
    ·rw[u7]at d;split at d
     ·injection d with d;subst d;rw[so _ _ _ y];exact I
     exact F m z d
    rw[B7,F1 _ _ _ q]at l;simp only[x9,T]at l;rw[u7]at d;split at d
    ·rename_i o;subst o
     injection d with d
     subst d;rw[F1 _ _ _ y]at r;split at r
     ·rename_i L;rw[bc (by lia)]at l
      have e0:i*sz+j-(i*sz+off)=j-off:=by lia
      rw[e0]at l;exact hv (j-off) x u r (by simpa using l)
     rename_i L;rw[aq (by lia)]at l;exact R i e j x u p r (by simpa using l)
    rename_i o
    have a0:j<sz:=by have:=F m z d;have:=(bd.1 r).1;lia
    have V:m<dv.length:=(bd.1 d).1
    have D:¬(i*sz+off<=m*sz+j/\m*sz+j<i*sz+off+xs.length):=by
     rintro⟨a1,a2⟩;rcases a5i o with ju|J
     ·have:(i+1)*sz<=m*sz:=ig _ ju;rw[kj,Cj]at this;lia
     have:(m+1)*sz<=i*sz:=ig _ J;rw[kj,Cj]at this;lia
    rw[aq D]at l;exact R m z j x u d r (by simpa using l)
   cases g
  cases g
 cases g
theorem eJ(h:jw B0 w0 nt G0 s G E a w){t:TypeId}{n:Nat}{x:V}{ad:Value}{xs:List C}{v:Value}{e:nJ}(hs:lx P t=aa n)
  (f:Ac s n xs x=aa e)(hx:j4 G E s x ad)(A:v.cells.size=xs.length)
  (F:∀(j:Nat) (c:C) (u:Value),xs[j]? =aa c->v.cells[j]? =aa u->zx G E s c u)(H:xs.all (C.one s)=ah->∀u∈v.cells.toList,u.oneCell'=ah):
  ∃w' id b,(a8r t ad v).run P w= .ok () w'/\e=([],.set id b)/\jw B0 w0 nt G0 {s with di:=lu s.di id (aa b)} G E a w':=by
 unfold a8r
 cases x with
 |gz id ba off=>
  simp only[Ac]at f;split at f
  ·rename_i cs U;split at f
   ·rename_i m
    injection f with f
    subst f;obtain⟨J,e2⟩:=xl U;have:=hx.2 J ⟨_,e2,rfl⟩;subst this;obtain⟨cells,X,B,S,Q,hw⟩:=h.zp e2;obtain⟨hl,Z⟩:=Q;simp only[df,Au,br];rw[Ou hs (by lia) B (by lia) (H m.1)]
    have q:off+xs.length<=cs.length:=by lia
    have l:off+v.cells.toList.length<=cells.toList.length:=by simp;lia
    refine⟨_,id,_,rfl,rfl,h.set e2 .loc (Bh.setRow B _) (by simp[so _ _ _ l,S]) ⟨by simp[so _ _ _ q,so _ _ _ l,hl],λj c u p g=>?_⟩⟩;rw[F1 _ _ _ q]at p;rw[B7,F1 _ _ _ l]at g;simp only[x9,A]at g;split at p
    ·rename_i o;rw[bc o]at g;exact F _ c u p (by simpa using g)
    rename_i o;rw[aq o]at g;exact Z j c u p (by simpa using g)
   cases f
  cases f
 |Iy id ba ln i off=>
  simp only[Ac]at f;split at f
  ·rename_i sz dv he;split at f
   ·rename_i e ds z M;split at f
    ·rename_i m
     injection f with f
     subst f;obtain⟨J,e2⟩:=zn he;obtain⟨_,k2⟩:=hx.2 J sz dv.length (yf e2);have:=k2 m.2.1;subst this;obtain⟨cells,X,B,S,Q,hw⟩:=h.zp e2;obtain⟨Y,L,T⟩:=Q;have K:=T7 M;subst K;rw[al]at A;simp only[df,Au,br];have N:=L i e z;have R:i<dv.length:=(bd.1 z).1;have hb:(i+1)*sz<=dv.length*sz:=ig _ R;rw[kj,Cj]at hb;have h3:=m.2.2.1;have h4:=m.2.2.2;rw[Ou hs (by lia) B (by lia) (H m.1)]
     have q:off+ds.length<=e.length:=by lia
     have l:i*sz+off+v.cells.toList.length<=cells.toList.length:=by simp;lia
     refine⟨_,id,_,rfl,rfl,h.set e2 (.arr (by simp)) (Bh.setRow B _) (by simp[so _ _ _ l,S]) ⟨by simp[so _ _ _ l];exact Y,λr D k=>?_,λr D j x u k p g=>?_⟩⟩
     ·rw[u7]at k;split at k
      ·injection k with k;subst k;rw[so _ _ _ q];exact N
      exact L r D k
     rw[B7,F1 _ _ _ l]at g;simp only[x9,A]at g;rw[u7]at k;split at k
     ·rename_i y;subst y
      injection k with k
      subst k;rw[F1 _ _ _ q]at p;split at p
      ·rename_i o;rw[bc (by lia)]at g
       have e0:i*sz+j-(i*sz+off)=j-off:=by lia
       rw[e0]at g;exact F (j-off) (.d x) u (by simp[p]) (by simpa using g)
      rename_i o;rw[aq (by lia)]at g;exact T i e j x u z p (by simpa using g)
     rename_i y
     have a0:j<sz:=by have:=L r D k;have:=(bd.1 p).1;lia
     have W:r<dv.length:=(bd.1 k).1
     have I:¬(i*sz+off<=r*sz+j/\r*sz+j<i*sz+off+ds.length):=by
      rintro⟨a1,a2⟩;rcases a5i y with ju|O
      ·have:(i+1)*sz<=r*sz:=ig _ ju;rw[kj,Cj]at this;lia
      have:(r+1)*sz<=i*sz:=ig _ O;rw[kj,Cj]at this;lia
     rw[aq I]at g;exact T r D j x u k p (by simpa using g)
    cases f
   exact Z4 h hs f hx A F H
  exact Z4 h hs f hx A F H
 |_=>cases f
end
section
variable{P:Program}{B0 nt:Nat}{w0 w w':World}{G0 G G':ix}{s s':PS}{E E':Env}{a:Act}
theorem lY{f:Field}{n:Nat}(d:lx P f.type=aa n)(c:n≠0)(b o:Nat)(w:World):(fieldPlace ⟨b,o,ae⟩ f).run P w= .ok ⟨b,o+f.offset,ae⟩ w:=by
 unfold fieldPlace;simp only[df,u6 d,br];rw[aq c];simp[Fx]
theorem rJ{off:Nat}{x y:V}{v:Value}(c:T2 s off x=aa y)(f:j4 G E s x v):∃b o,v= .pointer (aa ⟨b,o,ae⟩)/\j4 G E s y (.pointer (aa ⟨b,o+off,ae⟩)):=by
 cases x with
 |gz id ba o=>
  simp only[T2]at c;split at c
  ·rename_i cs m
   injection c with c
   subst c;obtain⟨g,e2⟩:=xl m;have:=f.2 g ⟨_,e2,rfl⟩;subst this;exact⟨_,_,rfl,f.1,λ_ _=>rfl⟩
  cases c
 |Iy id ba u i o=>
  simp only[T2]at c;split at c
  ·rename_i sz dv n;split at c
   ·rename_i p
    injection c with c
    subst c;obtain⟨g,e2⟩:=Hq n;obtain⟨k,l⟩:=f.2 g sz dv e2;have:=l p;subst this;refine⟨_,_,rfl,f.1,λe r t hb=>?_⟩;rw[e2]at hb
    injection hb with hb
    injection hb with h j
    subst h j;exact⟨k,λ_=>by rw[tc]⟩
   cases c
  cases c
 |d z=>
  cases z with
  |ym cells o=>
   simp only[T2,av]at c;subst c
   cases f with
   | @ym _ b q _ k l=>exact⟨b,q+o,rfl,by rw[tc];exact iz.ym k l⟩
  |_=>cases c
 |_=>cases c
theorem NA{t:TypeId}{fs:Array Field}{i n:Nat}{f:Field}{x y:V}{v:Value}(h:P.underlying t=aa (.struct fs))(e:fs[i]? =aa f)(g:lx P f.type=aa n)(c:n≠0)
  (d:T2 s f.offset x=aa y)(j:j4 G E s x v):∃u,(Instr.fieldAt t v i).run P w= .ok u w/\j4 G E s y u:=by
 obtain⟨b,o,rfl,hy⟩:=rJ d j;refine⟨_,?_,hy⟩;unfold Instr.fieldAt;simp only[df,underlying,run_program,br,h,fl,e,Au,lY g c]
theorem T5(k:IntKind)(n:Int)(w:World):(asIntOf (.int k n)).run P w= .ok (k,n) w:=rfl
theorem ED{t e:TypeId}{len n:Nat}{k:IntKind}{i:Int}{x y:V}{v:Value}(h:P.underlying t=aa (.array len e))(g:lx P e=aa n)(c:0<=i)(d:i<len)
  (f:T2 s (i.toNat*n) x=aa y)(j:j4 G E s x v):∃u,(acj t v (.int k i)).run P w= .ok u w/\j4 G E s y u:=by
 obtain⟨b,o,rfl,hy⟩:=rJ f j;refine⟨_,?_,hy⟩;unfold acj;simp only[df,T5,br,underlying,run_program,h,fl,Au,u6 g,bc (afm c d),Fx]
theorem EA(h:jw B0 w0 nt G0 s G E a w){t e:TypeId}{n:Nat}{k:IntKind}{i:Int}{x y:V}{v:Value}(L:P.underlying t=aa (.slice e))(K:lx P e=aa n)
  (f:Ld s n i x=aa y)(p:j4 G E s x v):∃u,(acj t v (.int k i)).run P w= .ok u w/\j4 G E s y u:=by
 have run:∀(b o len cap:Nat),0<=i->i<len->(acj t (.slice (aa ⟨b,o,ae⟩) len cap) (.int k i)).run P w= .ok (.pointer (aa ⟨b,o+i.toNat*n,ae⟩)) w:=by
  intro b o len cap q I;unfold acj;simp only[df,T5,br,underlying,run_program,L,fl,u6 K,bc (afm q I),Fx]
 cases x with
 |ref id ba len=>
  simp only[Ld]at f;split at f
  ·rename_i sz dv r;split at f
   ·rename_i g
    injection f with f
    subst f;obtain⟨A,e2⟩:=Hq r;obtain⟨D,F⟩:=p.2 A sz dv e2;obtain⟨cap,c1,O,rfl⟩:=F g.2.1;refine⟨_,run _ _ _ _ g.2.2.1 g.2.2.2,p.1,λe M N hb=>?_⟩;rw[e2]at hb
    injection hb with hb
    injection hb with B C
    subst B C;have:=g.1;subst this;exact⟨D,λ_=>by rw[gj,Ad]⟩
   cases f
  cases f
 |d z=>
  cases z with
  |gd sz l=>
   simp only[Ld]at f;split at f
   ·rename_i q;split at f
    ·rename_i e r
     injection f with f
     subst f;obtain⟨q,rfl⟩:=q;have m:=(bd.1 r).1
     cases p with
     | @gd _ _ b o c H hs D F=>
      refine⟨_,run _ _ _ _ q (by lia),?_⟩;have J:=hs _ e r;have:=iz.ym (G:=G) (cells:=e) (b:=b) (o:=o+i.toNat*sz) (off:=0) (λj Q=>D _ j m (by lia)) (λj x v hx p=>F _ e j x v r hx p);exact this
     |Y3=>simp at m
     |bN=>simp at m
    cases f
   cases f
  |_=>cases f
 |Lm id ba R sz=>
  simp only[Ld]at f;split at f
  ·rename_i g
   injection f with f
   subst f;obtain⟨cs,H⟩:=ma.1 g.1;obtain⟨A,e2⟩:=xl H;have:=p.2 A ⟨_,e2,rfl⟩;subst this;exact⟨_,run _ _ _ _ g.2.2.1 g.2.2.2,p.1,λ_ _=>by rw[gj]⟩
  cases f
 |_=>cases f
def TK.fits:TK->TypeDesc->Bool
 | .str,.string| .gd,.slice _| .map,.map _ _| .ptr,.pointer _| .fn,.func .. =>ah
 |_,_=>ag
theorem Hl{r:Nat}{ents:Array MapEntry}{clock:Nat}(b:w.heap[r]? =aa (.map ents clock)):(getObj r).run P w= .ok (.map ents clock) w:=by
 simp only[getObj,Sem.run,b]
theorem MG(h:jw B0 w0 nt G0 s G E a w){t:TypeId}{d:TypeDesc}{k:TK}{x:V}{n:Int}{v:Value}{ty:TypeId}{args:Array Value}{p:Array TypeId}(u:args[0]? =aa v)(j:p[0]? =aa t)(z:P.underlying t=aa d)
  (c:k.fits d=ah)(b:Pz s k x=aa n)(e:j4 G E s x v):
  (aes p ty args).run P w= .ok (.int aj n) w:=by
 unfold aes;rw[u,j];simp only[df,underlying,run_program,br,z,fl];unfold Pz at b;split at b
 ·injection b with b
  subst b;cases d<;>simp[TK.fits]at c;cases e<;>simp[goInt]
 ·injection b with b
  subst b;cases d<;>simp[TK.fits]at c;cases e;simp[goInt]
 ·injection b with b
  subst b;cases d<;>simp[TK.fits]at c;cases e;simp[goInt]
 ·injection b with b
  subst b;cases d<;>simp[TK.fits]at c;cases e;simp[goInt]
 ·injection b with b
  subst b;cases d<;>simp[TK.fits]at c;cases e;simp[goInt]
 ·injection b with b
  subst b;cases d<;>simp[TK.fits]at c
  cases e with
  |map r f _ _=>
   obtain⟨ents,clock,l,i⟩:=h.gok.mv _ _ r;have o:=congrArg Ae i;simp only[al,x9]at o;simp[goInt,Hl l,o,f]
 ·split at b
  ·rename_i sz dv i;split at b
   ·rename_i f
    injection b with b
    subst b;obtain⟨g,e2⟩:=Hq i;obtain⟨A,m⟩:=e.2 g sz dv e2;obtain⟨cap,c1,q,rfl⟩:=m f;cases d<;>simp[TK.fits]at c;simp[goInt]
   cases b
  cases b
 ·split at b
  ·rename_i es i
   injection b with b
   subst b;obtain⟨g,e2⟩:=Gj i;have:=e.2 g (by rw[e2];rfl);subst this;obtain⟨_,_,ents,clock,l,f,_⟩:=h.mp _ es e2;cases d<;>simp[TK.fits]at c;simp[goInt,Hl l,f]
  cases b
 ·split at b
  ·rename_i sz dv i;split at b
   ·rename_i f
    injection b with b
    subst b;obtain⟨g,e2⟩:=Hq i;obtain⟨A,m⟩:=e.2.2 g sz dv e2;obtain⟨C,cap,off,c1,q,c3,B,D,rfl⟩:=m f;cases d<;>simp[TK.fits]at c;simp[goInt]
   cases b
  cases b
 ·split at b
  ·rename_i f
   injection b with b
   subst b;obtain⟨cs,y⟩:=ma.1 f;obtain⟨g,e2⟩:=xl y;have:=e.2 g ⟨_,e2,rfl⟩;subst this;cases d<;>simp[TK.fits]at c;simp[goInt]
  cases b
 cases b
theorem EC{t:TypeId}{b:ByteArray}{k:IntKind}{i:Int}{u:UInt8}(d:P.underlying t=aa .string)(c:(if 0<=i then b[i.toNat]? else ae)=aa u):
  (af4 t (.string b) (.int k i)).run P w= .ok (.int .u8 u.toNat) w:=by
 unfold af4;simp only[df,T5,br,underlying,run_program,d,fl,c]
theorem yC{t:TypeId}{n off:Nat}{g:Bool}{cs:List C}{vs:Array Value}(hs:lx P t=aa n)(q:C1 P t=aa g)(o:g=ah\/n=1)(z:off+n<=cs.length)(y:vs.size=cs.length)
  (l:∀(i:Nat) (c:C) (u:Value),cs[i]? =aa c->vs[i]? =aa u->zx G E s c u):∃u,(part t vs off).run P w= .ok u w/\j4 G E s (mkv g ((cs.drop off).take n)) u:=by
 unfold part;simp only[df,bJ q,br]
 have get:∀i c,((cs.drop off).take n)[i]? =aa c->i<n/\cs[off+i]? =aa c:=by
  intro i c b;rw[ko]at b;split at b
  ·rename_i k;rw[pv]at b;exact⟨k,b⟩
  cases b
 cases g with
 |true=>
  simp only[da,df,u6 hs,br,fl];refine⟨_,rfl,?_⟩
  have rel:∀(i:Nat) (c:C) (u:Value),((cs.drop off).take n)[i]? =aa c->(vs.extract off (off+n))[i]? =aa u->zx G E s c u:=by
   intro i c u b f;obtain⟨k,b⟩:=get i c b;refine l (off+i) c u b ?_;rw[gC]at f;split at f
   ·exact f
   cases f
  unfold mkv
  cases p:Mj ((cs.drop off).take n)with
  |some ds=>
   have e:=T7 p;have el:=congrArg Ae e;simp at el;refine iz.agg (by simp;lia) λi x v hx r=>rel i (.d x) v (by rw[e];simp[hx]) r
  |none=>exact G6.2 ⟨_,rfl,by simp;lia,rel⟩
 |false=>
  have h:n=1:=by simpa using o
  subst h
  have m:off<vs.size:=by lia
  have j:off<cs.length:=by lia
  refine⟨vs[off],by simp[bz m],?_⟩
  have e:(cs.drop off).take 1=[cs[off]]:=by rw[jx j];rfl
  rw[e];unfold mkv;simp only[];exact l off cs[off] vs[off] (bh j) (bz m)
theorem lU{t:TypeId}{fs:Array Field}{i n:Nat}{f:Field}{g:Bool}{cs:List C}{vs:Array Value}(o:P.underlying t=aa (.struct fs))(k:fs[i]? =aa f)(hs:lx P f.type=aa n)(j:C1 P f.type=aa g)(d:g=ah\/n=1)
  (l:f.offset+n<=cs.length)(b:vs.size=cs.length)(m:∀(i:Nat) (c:C) (u:Value),cs[i]? =aa c->vs[i]? =aa u->zx G E s c u):
  ∃u,(Instr.field t (.agg vs) i).run P w= .ok u w/\j4 G E s (mkv g ((cs.drop f.offset).take n)) u:=by
 obtain⟨u,e,h⟩:=yC (P:=P) (w:=w) (off:=f.offset) hs j d l b m;refine⟨u,?_,h⟩;unfold Instr.field;simp only[df,underlying,run_program,br,o,fl,k,asAgg,e]
theorem DZ{t e:TypeId}{len n:Nat}{k:IntKind}{i:Int}{g:Bool}{cs:List C}{vs:Array Value}(q:P.underlying t=aa (.array len e))(hs:lx P e=aa n)(l:C1 P e=aa g)(f:g=ah\/n=1)
  (d:0<=i)(m:i<len)(o:i.toNat*n+n<=cs.length)(b:vs.size=cs.length)(p:∀(i:Nat) (c:C) (u:Value),cs[i]? =aa c->vs[i]? =aa u->zx G E s c u):
  ∃u,(af4 t (.agg vs) (.int k i)).run P w= .ok u w/\j4 G E s (mkv g ((cs.drop (i.toNat*n)).take n)) u:=by
 obtain⟨u,h,j⟩:=yC (P:=P) (w:=w) (off:=i.toNat*n) hs l f o b p;refine⟨u,?_,j⟩;unfold af4;simp only[df,T5,br,underlying,run_program,q,fl,bc (afm d m),u6 hs,h]
theorem MK{op:BinOp}{k:IntKind}{x y:Int}{r:D}(h:fC op k x y=aa r)(hs:op≠ .shl/\op≠ .shr)(t:TypeId):
  ∃u,(binOp op t (.int k x) (.int k y)).run P w= .ok u w/\iz G r u:=by
 cases op<;>simp only[fC]at h<;>(try simp at hs)<;>simp only[binOp,ne_eq,not_true_eq_false,bp]
 case quo=>
  split at h
  ·cases h
  rename_i hy
  injection h with h
  subst h;exact⟨.int k (k.wrap (x.tdiv y)),by simp[Op.intDiv,hy],.int⟩
 case rem=>
  split at h
  ·cases h
  rename_i hy
  injection h with h
  subst h;exact⟨.int k (x.tmod y),by simp[Op.intDiv,hy],.int⟩
 all_goals
  injection h with h
  subst h;simp only[Op.intArith,Op.intBits,Op.intCmp,fl];exact⟨_,rfl,by constructor⟩
theorem JY{op:BinOp}{k b:IntKind}{x y:Int}{r:D}(h:fC op k x y=aa r)(hs:op= .shl\/op= .shr)(t:TypeId):
  ∃u,(binOp op t (.int k x) (.int b y)).run P w= .ok u w/\iz G r u:=by
 rcases hs with rfl|rfl<;>simp only[fC]at h
 all_goals
  split at h
  ·cases h
  rename_i hy
  injection h with h
  subst h;simp only[binOp,Op.shift,aq hy,fl];exact⟨_,rfl,by constructor⟩
theorem JT{op:BinOp}{x y:ByteArray}{r:D}(h:GS op x y=aa r)(t:TypeId):
  ∃u,(binOp op t (.string x) (.string y)).run P w= .ok u w/\iz G r u:=by
 cases op<;>simp only[GS]at h<;>(try cases h)<;>simp only[binOp,Op.stringOp,fl]
 case add=>
  split at h
  ·rename_i b
   injection h with h
   subst h;rw[aq (by simp[IntKind.max,IntKind.bits,ae8]at*;lia)];exact⟨_,rfl,.str⟩
  cases h
 all_goals exact⟨_,rfl,by constructor⟩
theorem Sy{op:BinOp}{a b:Value}(t:TypeId)(ox oy:Operand)(d:∀c,a≠ .agg c)(e:a≠ .nilIface):(eqGuard op t ox oy a b).run P w= .ok () w:=by
 unfold eqGuard;cases op<;>simp<;>(cases a<;>simp_all)
theorem MP{op:BinOp}{k c:IntKind}{a b:Int}(t:TypeId)(ox oy:Operand):(eqGuard op t ox oy (.int k a) (.int c b)).run P w= .ok () w:=Sy t ox oy (by simp) (by simp)
theorem MO{op:BinOp}{a b:ByteArray}(t:TypeId)(ox oy:Operand):(eqGuard op t ox oy (.string a) (.string b)).run P w= .ok () w:=Sy t ox oy (by simp) (by simp)
theorem NY{op:BinOp}{x y r:D}(h:pN op x y=aa r){u v:Value}(hx:iz G x u)(hy:iz G y v)(t:TypeId)(ox oy:Operand):
  ∃z,(do eqGuard op t ox oy u v;binOp op t u v:Sem Value).run P w= .ok z w/\iz G r z:=by
 unfold pN at h;split at h
 ·cases hx;cases hy;split at h
  ·rename_i b;simp only[df,MP,br];by_cases hs:op= .shl\/op= .shr
   ·exact JY h hs t
   have:op≠ .shl/\op≠ .shr:=⟨λe=>hs (.inl e),λe=>hs (.inr e)⟩;have c:=(b.resolve_left this.1).resolve_left this.2;subst c;exact MK h this t
  cases h
 ·cases hx;cases hy;simp only[df,MO,br];exact JT h t
 cases h
theorem EX{t:TypeId}(c:P.underlying t=aa .bool)(a b:Bool):(ad8 t (.bool a) (.bool b)).run P w= .ok (a==b) w:=by
 unfold ad8 af3 afe;simp only[df,underlying,run_program,br,c,fl]
theorem NZ{op:BinOp}(c:op= .eql\/op= .neq){t:TypeId}(d:P.underlying t=aa .bool)(a b:Bool)(ox oy:Operand):
  (do eqGuard op t ox oy (.bool a) (.bool b);binOp op t (.bool a) (.bool b):Sem Value).run P w= .ok (.bool (if decide (op= .neq)then !(a==b)else a==b)) w:=by
 simp only[df,Sy t ox oy (a:= .bool a) (by simp) (by simp),br];rcases c with rfl|rfl<;>simp[binOp,EX d]
theorem kQ{k:TK}{x:V}{b:Bool}(d:isNil s k x=aa b){v:Value}(i:j4 G E s x v):
  (k= .ptr->∃a,v= .pointer a/\b=a.isNone)/\(k= .gd->∃a l c,v= .slice a l c/\b=a.isNone)/\(k= .map->∃a,v= .map a/\b=a.isNone)/\
  (k= .fn->(v= .nilFunc/\b=ah)\/∃f x y,v= .func f x y/\b=ag)/\k≠ .str:=by
 have cl:∀{o:Option (List C)},o.isSome=ah->∃cs,o=aa cs:=λh=>ma.1 h;unfold isNil at d;split at d
 all_goals first
  |(injection d with d;subst d;cases i;simp;done)
  |(injection d with d;subst d;cases i<;>simp;done)
  |skip
 ·split at d
  ·rename_i e
   injection d with d;subst d
   simp only[V.live]at e;split at e
   ·rename_i sz dv m;obtain⟨g,e2⟩:=Hq m;obtain⟨_,n⟩:=i.2 g sz dv e2;obtain⟨cap,_,_,rfl⟩:=n (by simpa using e);simp
   cases e
  cases d
 ·split at d
  ·rename_i e
   injection d with d;subst d
   simp only[V.live]at e;obtain⟨cs,j⟩:=cl e;obtain⟨g,e2⟩:=xl j;have:=i.2 g ⟨_,e2,rfl⟩;subst this;simp
  cases d
 ·split at d
  ·rename_i e
   injection d with d;subst d
   simp only[V.live]at e;split at e
   ·rename_i sz dv m;obtain⟨g,e2⟩:=Hq m;obtain⟨_,n⟩:=i.2 g sz dv e2;have:=n (by simpa using e);subst this;simp
   cases e
  cases d
 ·split at d
  ·rename_i e
   injection d with d;subst d
   simp only[V.live]at e;obtain⟨es,j⟩:=ma.1 e;obtain⟨g,e2⟩:=Gj j;have:=i.2 g (by rw[e2];rfl);subst this;simp
  cases d
 ·split at d
  ·rename_i e
   injection d with d;subst d
   simp only[V.live,dg]at e
   have:=i.2 (λp q=>by
    obtain⟨cs,j⟩:=cl (e p q);obtain⟨g,e2⟩:=xl j
    exact⟨g,_,e2,rfl⟩)
   subst this;simp
  cases d
 cases d
end
section
variable{P:Program}{B0 nt:Nat}{w0 w w':World}{G0 G G':ix}{s s':PS}{E E':Env}{a:Act}
def TK.Uk:TK->Value
 | .ptr=> .pointer ae
 | .gd=> .slice ae 0 0
 | .map=> .map ae
 | .fn=> .nilFunc
 | .str=> .pointer ae
theorem eZ{k:TK}{x:Operand}(h:uK k x=ah)(a:Act):a.eval x=k.Uk:=by
 unfold uK at h;split at h<;>simp at h<;>subst h<;>rfl
theorem binOp_eql{k:TK}{v:Value}{t:TypeId}:binOp .eql t v k.Uk=(do pure (.bool (<-ad8 t v k.Uk)):Sem Value)/\binOp .neq t v k.Uk=(do pure (.bool (!(<-ad8 t v k.Uk))):Sem Value)/\
  binOp .eql t k.Uk v=(do pure (.bool (<-ad8 t k.Uk v)):Sem Value)/\binOp .neq t k.Uk v=(do pure (.bool (!(<-ad8 t k.Uk v))):Sem Value):=by
 unfold binOp;cases k<;>cases v<;>exact⟨rfl,rfl,rfl,rfl⟩
theorem rL{k:TK}{t:TypeId}{d:TypeDesc}(n:P.underlying t=aa d)(e:k.fits d=ah){x:V}{b:Bool}(j:isNil s k x=aa b){v:Value}(o:j4 G E s x v):
  (ad8 t v k.Uk).run P w= .ok b w/\(ad8 t k.Uk v).run P w= .ok b w/\(∀c,v≠ .agg c)/\v≠ .nilIface:=by
 obtain⟨m,hs,i,h,g⟩:=kQ j o;unfold ad8 af3 afe;simp only[df,underlying,run_program,br,n,fl]
 cases k with
 |str=>exact absurd rfl g
 |ptr=>
  obtain⟨a,rfl,rfl⟩:=m rfl;cases d<;>simp[TK.fits]at e;cases a<;>simp[TK.Uk]
 |gd=>
  obtain⟨a,l,c,rfl,rfl⟩:=hs rfl;cases d<;>simp[TK.fits]at e;cases a<;>simp[TK.Uk]
 |map=>
  obtain⟨a,rfl,rfl⟩:=i rfl;cases d<;>simp[TK.fits]at e;cases a<;>simp[TK.Uk]
 |fn=>
  cases d<;>simp[TK.fits]at e;rcases h rfl with ⟨rfl,rfl⟩|⟨f,y,z,rfl,rfl⟩<;>simp[TK.Uk]
theorem kB(k:TK):(∀c,k.Uk≠ .agg c)/\k.Uk≠ .nilIface:=by cases k<;>simp[TK.Uk]
theorem zD{op:BinOp}{x y:Operand}{k:TK}{A B:ov}{r:lg}(c:dY op x y k A B=aa r){t:TypeId}{d:TypeDesc}(p:P.underlying t=aa d)(o:k.fits d=ah)
  (C:j4 G E s (A.ev s) (a.eval x))(hb:j4 G E s (B.ev s) (a.eval y)){dst:Nat}{ids:List Nat}{e:my}(f:r.qi dst s=aa (ids,e)):
  ∃z v,(do eqGuard op t x y (a.eval x) (a.eval y);binOp op t (a.eval x) (a.eval y):Sem Value).run P w= .ok z w/\ids=[]/\e= .val v/\j4 G E s v z:=by
 unfold dY at c;split at c
 ·rename_i g;split at c
  ·rename_i hy
   injection c with c
   subst c;simp only[lg.qi,ax]at f;obtain⟨b,j,f⟩:=f
   injection f with h i
   subst h i;obtain⟨l,m,q,u⟩:=rL (P:=P) (w:=w) p o j C;rw[eZ hy a];simp only[df,Sy t x y q u,br]
   refine⟨.bool (if decide (op= .neq)then !b else b),_,?_,by first|rfl|trivial,rfl,.bool⟩
   have n:=(kB k);rcases g with rfl|rfl
   ·rw[binOp_eql.1];simp[l]
   rw[binOp_eql.2.1];simp[l]
  split at c
  ·rename_i hx
   injection c with c
   subst c;simp only[lg.qi,ax]at f;obtain⟨b,j,f⟩:=f
   injection f with h i
   subst h i;obtain⟨l,m,q,u⟩:=rL (P:=P) (w:=w) p o j hb;rw[eZ hx a];have n:=(kB k);simp only[df,Sy t x y n.1 n.2,br]
   refine⟨.bool (if decide (op= .neq)then !b else b),_,?_,by first|rfl|trivial,rfl,.bool⟩
   rcases g with rfl|rfl
   ·rw[binOp_eql.2.2.1];simp[m]
   rw[binOp_eql.2.2.2];simp[m]
  cases c
 cases c
theorem ON{op:UnOp}{x:ov}{v:Value}(f:j4 G E s (x.ev s) v){e:nJ}{d:Nat}(c:(lg.un op x).qi d s=aa e):∃z y,(Op.unary op v).run P w= .ok z w/\e=my.uk y/\j4 G E s y z:=by
 simp only[lg.qi]at c;split at c
 ·rename_i b hx;rw[hx]at f
  injection c with c;subst c;cases f;exact⟨_,_,rfl,rfl,.bool⟩
 ·rename_i k n hx;rw[hx]at f
  injection c with c;subst c;cases f;exact⟨_,_,rfl,rfl,.int⟩
 cases c
theorem FV{b dst:TypeId}{k f:IntKind}{c:TypeDesc}(d:P.underlying b=aa c)(e:P.underlying dst=aa (.int k))(n:Int):
  (convert b dst (.int f n)).run P w= .ok (.int k (k.wrap n)) w:=by
 unfold convert;simp only[df,underlying,run_program,br,d,e,fl];cases c<;>simp[Conv.intToInt]
theorem BB{c dst:TypeId}(d:P.underlying c=aa .string)(e:P.underlying dst=aa .string)(b:ByteArray):
  (convert c dst (.string b)).run P w= .ok (.string b) w:=by
 unfold convert;simp only[df,underlying,run_program,br,d,e,fl]
theorem pK{vs:List D}{i:Nat}{x:D}(b:vs[i]? =aa x){v:Value}(e:iz G (.Bb vs) v):∃u,(ady v i).run P w= .ok u w/\iz G x u:=by
 cases e with
 | @Bb _ us f d=>
  have c:i<us.size:=by have:=(bd.1 b).1;lia
  refine⟨us[i],?_,d i x _ b (bz c)⟩;simp[ady,bz c]
def LK.fits:LK->TypeDesc->Bool
 | .bool,.bool| .int,.int _| .str,.string=>ah
 |_,_=>ag
theorem RZ{k:LK}{t:TypeId}{d:TypeDesc}(f:P.underlying t=aa d)(e:k.fits d=ah){x y:D}{b:Bool}(c:Ps k x y=aa b){u v:Value}(hx:iz G x u)(hy:iz G y v)(n:Nat):
  (afe (n+1) t u v).run P w= .ok b w:=by
 unfold afe;simp only[df,underlying,run_program,br,f,fl];unfold Ps at c;split at c
 ·split at c
  ·rename_i h;subst h
   injection c with c
   subst c;cases hx;cases hy;cases d<;>simp[LK.fits]at e;simp
  cases c
 ·injection c with c
  subst c;cases hx;cases hy;cases d<;>simp[LK.fits]at e;simp
 ·injection c with c
  subst c;cases hx;cases hy;cases d<;>simp[LK.fits]at e;simp
 cases c
def Gu(g:Bool)(us:Array Value):Value:=if g then .agg us else us.getD 0 undef
def Row(G:ix)(xs:List D)(us:Array Value):Prop:=us.size=xs.length/\∀(i:Nat) (x:D) (u:Value),xs[i]? =aa x->us[i]? =aa u->iz G x u
theorem Row.sub{xs:List D}{us:Array Value}(h:Row G xs us)(off n:Nat)(e:off+n<=xs.length):Row G ((xs.drop off).take n) (us.extract off (off+n)):=by
 obtain⟨d,c⟩:=h;refine⟨by simp;lia,λi x u hx b=>?_⟩;rw[ko]at hx;split at hx
 ·rw[pv]at hx;rw[gC]at b;split at b
  ·exact c _ x u hx b
  cases b
 cases hx
theorem Ma{t:TypeId}{n off:Nat}{g:Bool}{us:Array Value}(hs:lx P t=aa n)(f:C1 P t=aa g)(d:g=ah\/n=1)(h:off+n<=us.size):
  (part t us off).run P w= .ok (Gu g (us.extract off (off+n))) w:=by
 unfold part Gu;simp only[df,bJ f,br]
 cases g with
 |true=>simp[u6 hs]
 |false=>
  have b:n=1:=by simpa using d
  subst b
  have c:off<us.size:=by lia
  have e:(us.extract off (off+1)).getD 0 undef=us[off]:=by
   rw[kl,gC,bc (by lia)];simp[c]
  simp[bz c,e]
theorem Si:∀{ks:List LK} {x y:List D} {b:Bool},C3 ks x y=aa b->x.length=ks.length/\y.length=ks.length:=by
 intro ks
 induction ks with
 |nil=>intro x y b h;cases x<;>cases y<;>simp_all [C3]
 |cons k ks e=>
  intro x y b h
  cases x with
  |nil=>simp[C3]at h
  |cons a x=>
   cases y with
   |nil=>simp[C3]at h
   |cons c y=>
    simp only[C3]at h;split at h
    ·rename_i p q i d;obtain⟨f,g⟩:=e d;exact⟨by simp[f],by simp[g]⟩
    cases h
theorem Zc:∀{l m:List LK} {x y:List D} {b:Bool},C3 (l++m) x y=aa b->∃p q,C3 l (x.take l.length) (y.take l.length)=aa p/\C3 m (x.drop l.length) (y.drop l.length)=aa q/\b=(p&&q):=by
 intro l
 induction l with
 |nil=>intro m x y b h;exact⟨ah,b,by simp[C3],by simpa using h,by simp⟩
 |cons k l i=>
  intro m x y b h
  cases x with
  |nil=>simp[C3]at h
  |cons a x=>
   cases y with
   |nil=>simp[C3]at h
   |cons c y=>
    simp only[qc,C3]at h;split at h
    ·rename_i p q f g
     injection h with h
     obtain⟨j,n,d,e2,e⟩:=i g;refine⟨p&&j,n,by simp[C3,f,d],by simpa using e2,by rw[<-h,e,Bool.and_assoc]⟩
    cases h
def a0q(P:Program)(G:ix)(w:World)(t:TypeId)(ks:List LK)(g:Bool)(m:Nat):Prop:=
 lx P t=aa ks.length/\C1 P t=aa g/\(g=ah\/ks.length=1)/\
  ∀(us vs:Array Value) (xs ys:List D) (b:Bool),Row G xs us->Row G ys vs->C3 ks xs ys=aa b->(afe m t (Gu g us) (Gu g vs)).run P w= .ok b w
theorem vH{m:Nat}(us vs:Array Value){n:TypeId->Option (List LK)}(B:∀(t:TypeId) (l:List LK),n t=aa l->∃g,a0q P G w t l g m):
  ∀(fs:List Field) (off:Nat) (l:List LK),Ho P n fs off=aa l->∀(xs ys:List D) (b:Bool),Row G xs us->Row G ys vs->C3 l (xs.drop off) (ys.drop off)=aa b->
  (af6 m us vs fs).run P w= .ok b w:=by
 intro fs
 induction fs with
 |nil=>
  intro off l c xs ys b hx hy e;simp only[Ho,av]at c;subst c
  have:b=true:=by
   cases L:xs.drop off<;>cases M:ys.drop off<;>simp_all [C3]
  subst this;simp[af6]
 |cons f r j=>
  intro off l c xs ys b hx hy e;simp only[Ho]at c;split at c
  ·rename_i o;split at c
   ·rename_i d h;split at c
    ·rename_i hs;split at c
     ·rename_i I i
      injection c with c
      subst c;obtain⟨g,u,v,x,C⟩:=B _ _ h;obtain⟨p,q,y,e2,k⟩:=Zc e;obtain⟨F,H⟩:=Si e;simp only[A0,dz]at F H;have z:=hx.1;have A:=hy.1;simp only[af6];rw[bc o.1,o.2]
      have hz:off+d.length<=xs.length/\off+d.length<=ys.length:=by lia
      have J:=C _ _ _ _ p (hx.sub off d.length hz.1) (hy.sub off d.length hz.2) y;simp only[df,Ma u v x (show off+d.length<=us.size by lia),Ma u v x (show off+d.length<=vs.size by lia),br,J];have K:=j (off+d.length) I i xs ys q hx hy (by rw[<-JF,<-JF];exact e2)
      cases p with
      |false=>simp[k]
      |true=>simp[k,K]
     cases c
    cases c
   cases c
  cases c
theorem LC{l:List LK}:∀{n:Nat} {x y:List D} {b:Bool},C3 (jq n l).flatten x y=aa b->x.length=n*l.length/\y.length=n*l.length:=by
 intro n x y b h;have:=Si h;simpa using this
theorem AN{m:Nat}{t:TypeId}{l:List LK}{g:Bool}(h:a0q P G w t l g m)(A:0<l.length)(us vs:Array Value)(xs ys:List D)(hx:Row G xs us)(hy:Row G ys vs):
  ∀(n i:Nat) (b:Bool),C3 (jq n l).flatten (xs.drop (i*l.length)) (ys.drop (i*l.length))=aa b->
  (Op.eqItems m t l.length us vs (GO i n)).run P w= .ok b w:=by
 intro n;obtain⟨e,f,j,x⟩:=h
 induction n with
 |zero=>
  intro i b c
  have:b=true:=by
   simp only[List.replicate_zero,acg]at c;cases B:xs.drop (i*l.length)<;>cases C:ys.drop (i*l.length)<;>simp_all [C3]
  subst this;simp[Op.eqItems]
 |succ n v=>
  intro i b c;have o:=LC c;rw[adq,VK]at c;obtain⟨p,q,k,e2,d⟩:=Zc c;simp only[A0,kj,Cj]at o;have r:=hx.1;have u:=hy.1
  have hz:i*l.length+l.length<=xs.length/\i*l.length+l.length<=ys.length:=by lia
  have y:=x _ _ _ _ p (hx.sub (i*l.length) l.length hz.1) (hy.sub (i*l.length) l.length hz.2) k;rw[ace];simp only[Op.eqItems,df,Ma e f j (show i*l.length+l.length<=us.size by lia),Ma e f j (show i*l.length+l.length<=vs.size by lia),br,y];have z:=v (i+1) q (by rw[kj,Cj,<-JF,<-JF];exact e2)
  cases p with
  |false=>simp[d]
  |true=>simp[d,z]
theorem a06:∀(n:Nat) (t:TypeId) (l:List LK),Cl P n t=aa l->∀m,n<=m->∃g,a0q P G w t l g m:=by
 intro n
 induction n with
 |zero=>intro t l h;cases h
 |succ n D=>
  intro t l h m T;obtain⟨m,rfl⟩:∃k,m=k+1:=⟨m-1,by lia⟩
  have c:∀(k:LK) (d:TypeDesc),P.underlying t=aa d->k.fits d=ah->lx P t=aa 1->∃g,a0q P G w t [k] g (m+1):=by
   intro k d f A hs;refine⟨ag,hs,?_,.inr rfl,λus vs xs ys b hx hy j=>?_⟩
   ·unfold C1;rw[f];cases d<;>simp[LK.fits]at A|-
   obtain⟨N,O⟩:=Si j
   match xs,ys,N,O with
   |[x],[y],_,_=>
    simp only[C3]at j;split at j
    ·rename_i p q J r
     injection r with r
     subst r
     injection j with j
     simp only[Ip]at j;subst j
     have F:us.getD 0 undef=us[0]'(by have:=hx.1;simp at this;lia):=by simp[Array.getD,hx.1]
     have H:vs.getD 0 undef=vs[0]'(by have:=hy.1;simp at this;lia):=by simp[Array.getD,hy.1]
     simp only[Gu,gp,bp,F,H];exact RZ f A J (hx.2 0 x _ rfl (bz _)) (hy.2 0 y _ rfl (bz _)) m
    cases j
  simp only[Cl]at h;split at h
  ·rename_i f;split at h
   ·rename_i hs;injection h with h;subst h;exact c .bool _ f rfl hs
   cases h
  ·rename_i k f;split at h
   ·rename_i hs;injection h with h;subst h;exact c .int _ f rfl hs
   cases h
  ·rename_i f;split at h
   ·rename_i hs;injection h with h;subst h;exact c .str _ f rfl hs
   cases h
  ·rename_i len e f;split at h
   ·rename_i le v;split at h
    ·rename_i hs
     injection h with h
     subst h;obtain⟨g,L⟩:=D e le v m (by lia);refine⟨ah,by simpa using hs.2.2,by unfold C1;rw[f],.inl rfl,λus vs xs ys b hx hy j=>?_⟩;simp only[Gu,da]
     have u:∃i,P.info? e=aa i/\i.size=le.length:=by
      have:=hs.1;unfold lx at this;simpa[ax]using this
     obtain⟨i,C,o⟩:=u;rw[run_equalIn_array w m us vs f C]
     have K:P.cellsOf e=le.length:=by simp[a8k,C,o]
     rw[K,ade];exact AN L hs.2.1 us vs xs ys hx hy len 0 b (by simpa using j)
    cases h
   cases h
  ·rename_i fs f;split at h
   ·rename_i S;split at h
    ·rename_i Q z;split at h
     ·rename_i hs
      injection h with h
      subst h;refine⟨ah,hs,by unfold C1;rw[f],.inl rfl,λus vs xs ys b hx hy j=>?_⟩;simp only[Gu,da]
      have B:P.fieldsOf t=fs:=by unfold Program.fieldsOf;rw[f]
      rw[run_equalIn_struct w m t us vs (by rw[B];exact f) S,B];exact vH us vs (λR M I=>D R M I m (by lia)) fs.toList 0 Q z xs ys b hx hy (by simpa using j)
     cases h
    cases h
   cases h
  cases h
end
section
variable{P:Program}{B0 nt:Nat}{w0 w w':World}{G0 G G':ix}{s s':PS}{E E':Env}{a:Act}
theorem Holds.append{c1 k c3:Array Value}{sz:Nat}{dv ys:List (List D)}(l:Holds G E s c1 (.arr sz dv))(q:c1.size=dv.length*sz)(m:Holds G E s k (.arr sz ys)):
  Holds G E s (c1++k++c3) (.arr sz (dv++ys)):=by
 obtain⟨a1,h,a3⟩:=l;obtain⟨p,b2,b3⟩:=m;refine⟨by simp[kj];lia,λi e b=>?_,λi e j x u b c d=>?_⟩
 ·rw[On]at b;split at b
  ·exact h i e b
  exact b2 _ e b
 rw[On]at b;split at b
 ·rename_i o
  have g:j<sz:=by have:=h i e b;have:=(bd.1 c).1;lia
  have hb:(i+1)*sz<=dv.length*sz:=ig _ o;rw[kj,Cj]at hb;refine a3 i e j x u b c ?_;rw[Array.append_assoc,Io,bc (by lia)]at d;exact d
 rename_i n;have f:=(bd.1 b).1
 have g:j<sz:=by have:=b2 _ e b;have:=(bd.1 c).1;lia
 have hb:(i-dv.length+1)*sz<=ys.length*sz:=ig _ f;rw[kj,Cj]at hb
 have hs:i*sz=dv.length*sz+(i-dv.length)*sz:=by rw[<-kj];congr 1;lia
 refine b3 (i-dv.length) e j x u b c ?_;rw[Io,bc (by rw[Xw];lia),Io,aq (by lia)]at d;rw[<-d]
 congr 1
 lia
theorem mF(h:jw B0 w0 nt G0 s G E a w){y:V}{ys:List (List D)}{osz:Option Nat}{sz:Nat}(m:pj s y=aa (ys,osz))(hz:osz.getD sz=sz){v:Value}(A:j4 G E s y v):
  ∃(F:Option Addr) (c:Nat) (news:List Value),v= .slice F ys.length c/\news.length=ys.length*sz/\Holds G E s news.toArray (.arr sz ys)/\(∀u∈news,(ys.all λe=>e.all D.one)=ah->u.oneCell'=ah)/\
   (mh sz ys.length v).run P w= .ok news.toArray w/\(mh sz ys.length v).run P w.drew= .ok news.toArray w.drew:=by
 have B:∀(b o c:Nat) (hs:∀(i:Nat) (e:List D),ys[i]? =aa e->e.length=sz) (cell:Nat->Value),(∀i j,i<ys.length->j<sz->w.cell? ⟨b,o+i*sz+j,ae⟩=aa (cell (i*sz+j)))->
   (∀(i:Nat) (e:List D) (j:Nat) (x:D),ys[i]? =aa e->e[j]? =aa x->iz G x (cell (i*sz+j)))->v= .slice (aa ⟨b,o,ae⟩) ys.length c->
   ∃(F:Option Addr) (c:Nat) (news:List Value),v= .slice F ys.length c/\news.length=ys.length*sz/\Holds G E s news.toArray (.arr sz ys)/\(∀u∈news,(ys.all λe=>e.all D.one)=ah->u.oneCell'=ah)/\
   (mh sz ys.length v).run P w= .ok news.toArray w/\(mh sz ys.length v).run P w.drew= .ok news.toArray w.drew:=by
  intro b o c hs cell Lr Z A
  have split:∀k,k<ys.length*sz->∃i j,i<ys.length/\j<sz/\k=i*sz+j:=by
   intro k H
   have Wy:0<sz:=by
    rcases nR sz with L|L
    ·rw[L]at H;simp at H
    exact L
   refine⟨k/sz,k%sz,(ad0 Wy).2 H,Ht _ Wy,?_⟩;rw[aeo];exact(Nat.div_add_mod k sz).symm
  have S:∀k u,((fc (ys.length*sz)).map cell)[k]? =aa u->k<ys.length*sz/\u=cell k:=by
   intro k u q;rw[dn]at q;by_cases H:k<ys.length*sz
   ·rw[Nk H]at q;exact⟨H,by simpa using q.symm⟩
   rw[nQ (by simp;lia)]at q;cases q
  have zK:∀k u,((fc (ys.length*sz)).map cell)[k]? =aa u->w.cell? ((⟨b,o,ae⟩:Addr).add k)=aa u:=by
   intro k u q;obtain⟨H,rfl⟩:=S k u q;obtain⟨i,j,g,t,rfl⟩:=split k H;rw[Fx,<-tc];exact Lr i j g t
  refine⟨_,c,(fc (ys.length*sz)).map cell,A,by simp,⟨by simp,hs,λi e j x u g t q=>?_⟩,λu q yr=>?_,?_,?_⟩
  ·obtain⟨_,rfl⟩:=S _ u (by simpa using q);exact Z i e j x g t
  ·obtain⟨k,H,rfl⟩:=j6.1 q;obtain⟨i,j,g,t,rfl⟩:=split k (er.1 H);have r:ys[i]? =aa ys[i]:=bh g
   have N:j<ys[i].length:=by rw[hs i _ r];exact t
   refine(Z i _ j _ r (bh N)).yI ?_;exact dg.1 (dg.1 yr _ (dj g)) _ (dj N)
  ·rw[A];exact run_firstCells_some w sz ys.length _ ys.length c _ (by simp) zK
  rw[A];exact run_firstCells_some w.drew sz ys.length _ ys.length c _ (by simp) zK
 have f:∀(F:Option Addr) (c:Nat),ys=[]->v= .slice F 0 c->∃(F:Option Addr) (c:Nat) (news:List Value),v= .slice F ys.length c/\news.length=ys.length*sz/\Holds G E s news.toArray (.arr sz ys)/\(∀u∈news,(ys.all λe=>e.all D.one)=ah->u.oneCell'=ah)/\
   (mh sz ys.length v).run P w= .ok news.toArray w/\(mh sz ys.length v).run P w.drew= .ok news.toArray w.drew:=by
  intro F c hy A;subst hy A;refine⟨F,c,[],rfl,by simp,⟨by simp,by simp,by simp⟩,by simp,?_,?_⟩
  ·cases F with
   |none=>exact run_firstCells_none w sz 0 0 c
   |some b=>exact run_firstCells_some w sz 0 b 0 c [] (by simp) (by simp)
  cases F with
  |none=>exact run_firstCells_none w.drew sz 0 0 c
  |some b=>exact run_firstCells_some w.drew sz 0 b 0 c [] (by simp) (by simp)
 unfold pj at m;split at m
 ·simp only[av,db]at m;obtain⟨rfl,rfl⟩:=m;cases A;exact f ae 0 rfl rfl
 ·simp only[av,db]at m;obtain⟨rfl,rfl⟩:=m;cases A;exact f _ _ rfl rfl
 ·simp only[av,db]at m;obtain⟨rfl,rfl⟩:=m;simp only[jj]at hz;subst hz
  cases A with
  |Y3=>exact f ae 0 rfl rfl
  |bN=>exact f _ _ rfl rfl
  | @gd _ _ b o c T hs k1 R=>
   refine B b o c hs (λk=>(G.cv b (o+k)).getD undef) (λi j g t=>?_) (λi e j x r hx=>?_) rfl
   ·obtain⟨u,q⟩:=ma.1 (k1 i j g t);rw[<-tc,q];exact h.gok.cv _ _ _ q
   have z:=(bd.1 r).1;have p:j<_:=(bd.1 hx).1;rw[hs i e r]at p;obtain⟨u,q⟩:=ma.1 (k1 i j z p);rw[<-tc,q];exact R i e j x u r hx q
 ·split at m
  ·rename_i d dv r;split at m
   ·rename_i O;simp only[av,db]at m;obtain⟨rfl,rfl⟩:=m;simp only[jj]at hz;subst hz;obtain⟨U,e2⟩:=zn r;obtain⟨_,R⟩:=A.2 U _ _ (yf e2);obtain⟨cap,c1,c2,rfl⟩:=R O;subst O;obtain⟨cells,et,hh,hn,T,Y⟩:=h.zp e2;obtain⟨h5,M,W⟩:=T
    have Q:∀i j,i<dv.length->j<d->i*d+j<cells.size:=by
     intro i j g t;have:(i+1)*d<=dv.length*d:=ig _ g;rw[kj]at this;lia
    refine B _ 0 cap M (λk=>(cells[k]?).getD undef) (λi j g t=>?_) (λi e j x r hx=>?_) rfl
    ·rw[gj,Y,bz (Q i j g t)];rfl
    have z:=(bd.1 r).1;have p:j<_:=(bd.1 hx).1;rw[M i e r]at p;refine W i e j x _ r hx ?_;rw[bz (Q i j z p)];rfl
   cases m
  cases m
 ·rename_i id ba n o l;split at m
  ·rename_i d dv r;split at m
   ·rename_i O;simp only[av,db]at m;obtain⟨rfl,rfl⟩:=m;simp only[jj]at hz;subst hz;obtain⟨U,e2⟩:=zn r;obtain⟨_,R⟩:=A.2.2 U _ _ (yf e2);obtain⟨C,cap,off,c1,c2,c3,c4,c5,rfl⟩:=R O.1;obtain⟨X,a0⟩:=O;subst X
    have I:((dv.drop o).take l).length=l:=by simp;lia
    rcases nR l with K|K
    ·subst K;exact f _ _ (by simp) rfl
    have Yg:off=o*d:=c5.resolve_left (λL=>absurd K (by rw[L]at c4;exact afg.2 c4));subst Yg;obtain⟨cells,et,hh,hn,T,Y⟩:=h.zp e2;obtain⟨h5,M,W⟩:=T
    have Q:∀i j,i<dv.length->j<d->i*d+j<cells.size:=by
     intro i j g t;have:(i+1)*d<=dv.length*d:=ig _ g;rw[kj]at this;lia
    have S:∀(i:Nat) (e:List D),((dv.drop o).take l)[i]? =aa e->dv[o+i]? =aa e:=by
     intro i e g;rw[ko]at g;split at g
     ·rwa[pv]at g
     cases g
    have uP:∀i j,o*d+(i*d+j)=(o+i)*d+j:=by intro i j;rw[kj];lia
    refine B _ (o*d) cap (λi e g=>M _ e (S i e g)) (λk=>(cells[o*d+k]?).getD undef) (λi j g t=>?_) (λi e j x r hx=>?_) (by rw[I])
    ·rw[I]at g;have:=Q (o+i) j (by lia) t;rw[tc,Y,uP,bz this];rfl
    have J:=S i e r;have z:=(bd.1 J).1;have p:j<_:=(bd.1 hx).1;rw[M _ e J]at p;refine W (o+i) e j x _ J hx ?_;rw[uP,bz (Q _ j z p)];rfl
   cases m
  cases m
 cases m
theorem zx.yI{c:C}{u:Value}(h:zx G E s c u)(b:c.one s=ah):u.oneCell'=true:=by
 cases c with
 |d x=>exact iz.yI h b
 |ref id ba len=>
  simp only[C.one,V.live]at b;split at b
  ·rename_i sz n g;obtain⟨f,e2⟩:=Hq g;obtain⟨_,i⟩:=h.2 f sz n e2;obtain⟨cap,_,_,rfl⟩:=i (by simpa using b);rfl
  cases b
 |o8 id ba=>
  simp only[C.one,V.live]at b;obtain⟨es,g⟩:=ma.1 b;obtain⟨f,e2⟩:=Gj g;have e:=h.2 f (by rw[e2];rfl);rw[e];rfl
 |ptr id ba off=>
  simp only[C.one,V.live]at b;obtain⟨cs,g⟩:=ma.1 b;obtain⟨f,e2⟩:=xl g;have e:=h.2 f ⟨_,e2,rfl⟩;rw[e];rfl
theorem Holds.ofD{cells:Array Value}{sz:Nat}{l:List (List D)}(h:Holds G E s cells (.arr sz l)):Holds G E s cells (.ru sz (l.map λe=>e.map .d)):=h.elc (.inl ⟨l,rfl,rfl⟩)
theorem Holds.toD{cells:Array Value}{sz:Nat}{l:List (List D)}(h:Holds G E s cells (.ru sz (l.map λe=>e.map .d))):Holds G E s cells (.arr sz l):=by
 obtain⟨c,f,g⟩:=h;refine⟨by simpa using c,λi e b=>?_,λi e j x u b hx k=>?_⟩
 ·have:=f i (e.map .d) (by simp[b]);simpa using this
 exact g i (e.map .d) j (.d x) u (by simp[b]) (by simp[hx]) k
theorem Holds.wB{c1 k c3:Array Value}{sz:Nat}{dv ys:List (List C)}(l:Holds G E s c1 (.ru sz dv))(q:c1.size=dv.length*sz)(m:Holds G E s k (.ru sz ys)):
  Holds G E s (c1++k++c3) (.ru sz (dv++ys)):=by
 obtain⟨a1,h,a3⟩:=l;obtain⟨p,b2,b3⟩:=m;refine⟨by simp[kj];lia,λi e b=>?_,λi e j x u b c d=>?_⟩
 ·rw[On]at b;split at b
  ·exact h i e b
  exact b2 _ e b
 rw[On]at b;split at b
 ·rename_i o
  have g:j<sz:=by have:=h i e b;have:=(bd.1 c).1;lia
  have hb:(i+1)*sz<=dv.length*sz:=ig _ o;rw[kj,Cj]at hb;refine a3 i e j x u b c ?_;rw[Array.append_assoc,Io,bc (by lia)]at d;exact d
 rename_i n;have f:=(bd.1 b).1
 have g:j<sz:=by have:=b2 _ e b;have:=(bd.1 c).1;lia
 have hb:(i-dv.length+1)*sz<=ys.length*sz:=ig _ f;rw[kj,Cj]at hb
 have hs:i*sz=dv.length*sz+(i-dv.length)*sz:=by rw[<-kj];congr 1;lia
 refine b3 (i-dv.length) e j x u b c ?_;rw[Io,bc (by rw[Xw];lia),Io,aq (by lia)]at d;rw[<-d]
 congr 1
 lia
theorem TQ(h:jw B0 w0 nt G0 s G E a w){y:V}{ys:List (List C)}{osz:Option Nat}{sz:Nat}(g:aQ s y=aa (ys,osz))(hz:osz.getD sz=sz){v:Value}(S:j4 G E s y v):
  ∃(t:Option Addr) (c:Nat) (news:List Value),v= .slice t ys.length c/\news.length=ys.length*sz/\Holds G E s news.toArray (.ru sz ys)/\((ys.all λe=>e.all (C.one s))=ah->∀u∈news,u.oneCell'=ah)/\
   (mh sz ys.length v).run P w= .ok news.toArray w/\(mh sz ys.length v).run P w.drew= .ok news.toArray w.drew:=by
 have p:∀{l:List (List D)},pj s y=aa (l,osz)->ys=l.map (λe=>e.map .d)->
   ∃(t:Option Addr) (c:Nat) (news:List Value),v= .slice t ys.length c/\news.length=ys.length*sz/\Holds G E s news.toArray (.ru sz ys)/\((ys.all λe=>e.all (C.one s))=ah->∀u∈news,u.oneCell'=ah)/\
   (mh sz ys.length v).run P w= .ok news.toArray w/\(mh sz ys.length v).run P w.drew= .ok news.toArray w.drew:=by
  intro l H e;subst e;obtain⟨t,c,news,Z,h2,h3,h4,Q,A⟩:=mF (P:=P) h H hz S;refine⟨t,c,news,by simpa using Z,by simpa using h2,h3.ofD,λI u n=>h4 u n ?_,by simpa using Q,by simpa using A⟩;simp only[List.all_map,dg,Function.comp_apply]at I|-;exact λe K x hx=>I e K x hx
 cases y with
 |d z=>
  cases z with
  |cj=>
   simp only[aQ,av,db]at g;obtain⟨rfl,rfl⟩:=g;exact p (l:=[]) rfl rfl
  |Pa=>
   simp only[aQ,av,db]at g;obtain⟨rfl,rfl⟩:=g;exact p (l:=[]) rfl rfl
  |gd f l=>
   simp only[aQ,av,db]at g;obtain⟨rfl,rfl⟩:=g;exact p (l:=l) rfl rfl
  |_=>cases g
 |ref id ba len=>
  simp only[aQ]at g;split at g
  ·rename_i f dv K;split at g
   ·rename_i H;simp only[av,db]at g;obtain⟨rfl,rfl⟩:=g;simp only[jj]at hz;subst hz;obtain⟨W,b,e2,X,Y⟩:=Lb K;obtain⟨_,k2⟩:=S.2 W _ _ ((yf e2).trans X);obtain⟨cap,c1,c2,rfl⟩:=k2 H;subst H;obtain⟨cells,et,hh,hn,hc,T⟩:=h.zp e2;obtain⟨Q,A,R⟩:=hc.elc Y
    have U:∀(w':World),(∀o,w'.cell? ⟨E.b id,o,ae⟩=cells[o]?)->(mh f dv.length (.slice (aa ⟨E.b id,0,ae⟩) dv.length cap)).run P w'= .ok (cells.toList.take (dv.length*f)).toArray w':=by
     intro w' M;refine run_firstCells_some w' f dv.length _ _ cap _ (by simp;lia) λj v m=>?_;rw[ko]at m;split at m
     ·rw[Fx,gj,M];simpa using m
     cases m
    refine⟨_,cap,cells.toList.take (dv.length*f),rfl,by simp;lia,⟨by simp;lia,A,λi e j c u B m n=>?_⟩,λI u n=>?_,U w T,U w.drew λo=>by rw[World.cell?_drew,T]⟩
    ·rw[B7,ko]at n;split at n
     ·exact R i e j c u B m (by simpa using n)
     cases n
    obtain⟨k,F⟩:=adf n;rw[ko]at F;split at F
    ·rename_i N
     have O:0<f:=by
      rcases nR f with J|J
      ·rw[J]at N;simp at N
      exact J
     have B:k/f<dv.length:=(ad0 O).2 N;have m:k%f<f:=Ht _ O;have q:dv[k/f]? =aa dv[k/f]:=bh B
     have r:k%f<dv[k/f].length:=by rw[A _ _ q];exact m
     have L:k/f*f+k%f=k:=by rw[aeo];exact Nat.div_add_mod k f
     have hr:=R _ _ _ _ u q (bh r) (by rw[L];simpa using F);exact hr.yI (dg.1 (dg.1 I _ (dj B)) _ (dj r))
    cases F
   cases g
  cases g
 |_=>cases g
theorem Vc(b:Option Addr)(n c:Nat)(w:World):(Builtin.lenOf (.slice b n c)).run P w= .ok n w:=rfl
theorem nD{t u e ty:TypeId}{i:TypeInfo}{z:Value}{r:TypeId}(C:P.underlying t=aa (.slice e))(D:P.underlying u=aa (.slice r))(y:P.info? e=aa i)(hz:i.zero=aa z){args:Array Value}{g:Array TypeId}
  {base:Option Addr}{b d n c:Nat}{q:Option Addr}(k:args[0]? =aa (.slice base b d))(l:args[1]? =aa (.slice q n c))(v:g[0]? =aa t)(x:g[1]? =aa u)
  {f news:List Value}(p:(mh i.size b (.slice base b d)).run P w.drew= .ok f.toArray w.drew)(o:(mh i.size n (.slice q n c)).run P w.drew= .ok news.toArray w.drew)
  (F:d<b+n)(hb:(b+n)*i.bytes<=2^47)(m:0<i.bytes):
  (A9 g ty args).run P w= .ok (.slice (aa ⟨w.heap.size,0,ae⟩) (b+n) (grownCap w (b+n) d e))
   (w.drew.alloc (.cells (f.toArray++news.toArray++mb z.cells (grownCap w (b+n) d e-(b+n))) e)):=by
 have B:¬(b+n<=d):=by lia
 have A:b+n<=2^47:=jg (Nat.le_mul_of_pos_right _ m) hb
 have h:¬(9223372036854775807<((b:Int)+(n:Int))):=by lia
 have j:¬(281474976710656<adm (b+n) d*i.bytes):=by
  have:=growslice_fits (need:=b+n) (old:=d) (bytes:=i.bytes) (by lia) (by lia);lia
 unfold A9;rw[k,l,v,x];simp[run_underlying C,run_underlying D,sizeOf,typeInfo,zeroValue,y,hz,Vc,B,h,j,Question.forced,o,p,newRow,grownCap]
 congr 2
 apply Array.ext';simp[uy]
theorem fT{t u e ty:TypeId}{i:TypeInfo}{r:TypeId}(A:P.underlying t=aa (.slice e))(B:P.underlying u=aa (.slice r))(z:P.info? e=aa i){args:Array Value}{f:Array TypeId}
  {g d h n c:Nat}{o:Option Addr}(j:args[0]? =aa (.slice (aa ⟨g,0,ae⟩) d h))(k:args[1]? =aa (.slice o n c))(v:f[0]? =aa t)(x:f[1]? =aa u)
  {news:List Value}{b:Array Value}{m:TypeId}(y:w.heap[g]? =aa (.cells b m (0,0)))(l:(mh i.size n (.slice o n c)).run P w= .ok news.toArray w)(D:∀u∈news,u.oneCell'=ah)
  (C:d+n<=h)(q:d*i.size+news.length<=b.size):
  (A9 f ty args).run P w= .ok (.slice (aa ⟨g,0,ae⟩) (d+n) h) (w.setRow g (b.toList.take (d*i.size)++news++b.toList.drop (d*i.size+news.length)).toArray):=by
 have p:=run_storeCells_at P g (d*i.size) m news 0 b w y (by simpa using q) D;simp only[Ad]at p;unfold A9;rw[j,k,v,x];simp[run_underlying A,run_underlying B,sizeOf,typeInfo,z,Vc,C,l,Fx,p]
theorem fU{t u e ty:TypeId}{i:TypeInfo}{j:TypeId}(n:P.underlying t=aa (.slice e))(o:P.underlying u=aa (.slice j))(m:P.info? e=aa i){args:Array Value}{b:Array TypeId}
  {base:Option Addr}{c:Nat}{h:Option Addr}(d:args[0]? =aa (.slice base 0 0))(f:args[1]? =aa (.slice h 0 c))(k:b[0]? =aa t)(l:b[1]? =aa u)
  (g:(mh i.size 0 (.slice h 0 c)).run P w= .ok #[] w):
  (A9 b ty args).run P w= .ok (.slice base 0 0) w:=by
 unfold A9;rw[d,f,k,l];cases base<;>simp[run_underlying n,run_underlying o,sizeOf,typeInfo,m,Vc,g,storeCells]
end
section
variable{P:Program}{B0 nt:Nat}{w0 w w':World}{G0 G G':ix}{s s':PS}{E E':Env}{a:Act}
def tz(P:Program)(B0 nt:Nat)(w0:World)(G0:ix)(a:Act)(w:World)(dst:Option Nat)(b:Result Next)(s':PS):Prop:=
 ∃(n:Next) (v:Value) (w':World) (G':ix) (E':Env) (c:PS) (x:V),b= .ok n w'/\(n= .value v\/(n= .skip/\v=undef))/\jw B0 w0 nt G0 c G' E' a w'/\j4 G' E' c x v/\s'=c.put dst x
theorem tz.val{b:Result Next}{v:Value}{x:V}{dst:Option Nat}(h:jw B0 w0 nt G0 s G E a w)(c:b= .ok (.value v) w)(d:j4 G E s x v):tz P B0 nt w0 G0 a w dst b (my.app dst s (.val x)):=
 ⟨_,v,w,G,E,s,x,c,.inl rfl,h,d,rfl⟩
theorem C4{id sz len n:Nat}{b:B}{cap:Nat}{g:Nat}(hb:s'.di id=aa b)(f:b.Ei=aa (sz,n))(d:E'.b id=g)(h:E'.n id=cap*sz)(j:n=len)(e:len<=cap):
  j4 G' E' s' (.ref id (s'.ba id) len) (.slice (aa ⟨g,0,ae⟩) len cap):=by
 refine⟨bm _,λ_ i k c=>?_⟩;rw[yf hb,f]at c;simp only[av,db]at c;obtain⟨rfl,rfl⟩:=c;exact⟨by lia,λ_=>⟨cap,h,e,by rw[d]⟩⟩
theorem eB(h:jw B0 w0 nt G0 s G E a w){t u e ty:TypeId}{i:TypeInfo}{z:Value}{I:TypeId}(Q:P.underlying t=aa (.slice e))(R:P.underlying u=aa (.slice I))(N:P.info? e=aa i)(hz:i.zero=aa z)
  (l:0<i.bytes)(y:z.cells.size=i.size){args:Array Value}{d:Array TypeId}{base D:Option Addr}{c m:Nat}{ys:List (List C)}{news:List Value}
  (j:args[0]? =aa (.slice base 0 0))(k:args[1]? =aa (.slice D m c))(J:d[0]? =aa t)(K:d[1]? =aa u)(O:m=ys.length)
  (q:news.length=ys.length*i.size)(p:Holds G E s news.toArray (.ru i.size ys))(r:(mh i.size m (.slice D m c)).run P w.drew= .ok news.toArray w.drew)
  (T:ys.length≠0)(hb:ys.length*i.bytes<=2^47)(id:Nat){nb:B}(L:nb.Ei=aa (i.size,ys.length))(F:∀cells,Holds G E s cells (.ru i.size ys)->Holds G E s cells nb):
  ∃v w' E',(A9 d ty args).run P w= .ok v w'/\jw B0 w0 nt G0 {s with di:=lu s.di id (aa nb),ba:=lu s.ba id (s.ba id+1)} G E' a w'/\
   j4 G E' {s with di:=lu s.di id (aa nb),ba:=lu s.ba id (s.ba id+1)} (.ref id (s.ba id+1) ys.length) v/\
   E'.m=E.m/\∀(g:Nat) (f:Array MapEntry) (cl:Nat),w.heap[g]? =aa (Obj.map f cl)->w'.heap[g]? =aa (Obj.map f cl):=by
 subst O
 have x:(mh i.size 0 (.slice base 0 0)).run P w.drew= .ok ([]:List Value).toArray w.drew:=by
  cases base with
  |none=>exact run_firstCells_none w.drew i.size 0 0 0
  |some b=>exact run_firstCells_some w.drew i.size 0 b 0 0 [] (by simp) (by simp)
 have run:=nD (ty:=ty) Q R N hz j k J K x r (by lia) (by rw[gj];exact hb) l;simp only[gj]at run
 have H:Holds G E s (([]:List Value).toArray++news.toArray++mb z.cells (grownCap w ys.length 0 e-ys.length)) (.ru i.size ys):=by
  have:=Holds.wB (c1:= #[]) (c3:=mb z.cells (grownCap w ys.length 0 e-ys.length)) (dv:=[]) (⟨by simp,by simp,by simp⟩:Holds G E s #[] (.ru i.size [])) (by simp) p;simpa using this
 have M:=h.drew.new id nb _ e (F _ H);have o:=grownCap_ge w ys.length 0 e;refine⟨_,_,_,run,M,?_,rfl,λg f cl A=>(C6 _ _ _ (la.1 A).1).trans A⟩;have:=C4 (G':=G) (s':={s with di:=lu s.di id (aa nb),ba:=lu s.ba id (s.ba id+1)})
  (E':={E with b:=lu E.b id w.drew.heap.size,n:=lu E.n id (([]:List Value).toArray++news.toArray++mb z.cells (grownCap w ys.length 0 e-ys.length)).size}) (id:=id) (sz:=i.size) (len:=ys.length) (cap:=grownCap w ys.length 0 e) (g:=w.heap.size)
  (de _ _ _) L (de _ _ _) (by
   show lu E.n id _ id=_;rw[de];simp only[Xw,Xr,ew,gj,size_zeroCells,q,y];rw[<-kj]
   congr 1
   lia) rfl o
 have S:lu s.ba id (s.ba id+1) id=s.ba id+1:=de _ _ _;simpa[S]using this
theorem nE(h:jw B0 w0 nt G0 s G E a w){t u e ty:TypeId}{i:TypeInfo}{z:Value}{eu:TypeId}(ht:P.underlying t=aa (.slice e))(l:P.underlying u=aa (.slice eu))(hi:P.info? e=aa i)(hz:i.zero=aa z)
  (O:0<i.bytes)(Y:z.cells.size=i.size){args:Array Value}{J:Array TypeId}{vx:Value}{xb:Option Addr}{c m:Nat}{ys:List (List C)}{news:List Value}
  (q:args[0]? =aa vx)(r:args[1]? =aa (.slice xb m c))(h0:J[0]? =aa t)(h1:J[1]? =aa u)(hm:m=ys.length)
  (A:news.length=ys.length*i.size)(y:Holds G E s news.toArray (.ru i.size ys))(D6:∀u∈news,u.oneCell'=ah)
  (V:(mh i.size m (.slice xb m c)).run P w= .ok news.toArray w)(W:(mh i.size m (.slice xb m c)).run P w.drew= .ok news.toArray w.drew)
  {id ba:Nat}{dv:List (List C)}(U:s.elc id ba=aa (i.size,dv))(hx:j4 G E s (.ref id ba dv.length) vx)(hb:(dv.length+ys.length)*i.bytes<=2^47)
  {nb:B}(H:nb.Ei=aa (i.size,dv.length+ys.length))(B6:∀cells,Holds G E s cells (.ru i.size (dv++ys))->Holds G E s cells nb)(T:nb.isVar=ag):
  ∃v w' E',(A9 J ty args).run P w= .ok v w'/\jw B0 w0 nt G0 {s with di:=lu s.di id (aa nb)} G E' a w'/\
   j4 G E' {s with di:=lu s.di id (aa nb)} (.ref id ba (dv.length+ys.length)) v/\
   E'.m=E.m/\∀(g:Nat) (F:Array MapEntry) (cl:Nat),w.heap[g]? =aa (Obj.map F cl)->w'.heap[g]? =aa (Obj.map F cl):=by
 subst hm;obtain⟨K,b,e2,L,e4⟩:=Lb U;obtain⟨_,k2⟩:=hx.2 K _ _ ((yf e2).trans L);obtain⟨cap,c1,c2,rfl⟩:=k2 rfl;obtain⟨cells,et,I,hn,hc,hw⟩:=h.zp e2;obtain⟨h5,h6,h7⟩:=hc.elc e4
 have Q:b.isVar=false:=by rcases e4 with ⟨_,rfl,_⟩|rfl<;>rfl
 have D:Holds G E s (cells.toList.take (dv.length*i.size)).toArray (.ru i.size dv):=by
  refine⟨by simp;lia,h6,λk e j x u hk p l=>h7 k e j x u hk p ?_⟩;rw[B7,ko]at l;split at l
  ·simpa using l
  cases l
 have d:(cells.toList.take (dv.length*i.size)).toArray.size=dv.length*i.size:=by simp;lia
 by_cases Z:dv.length+ys.length<=cap
 ·have Pv:dv.length*i.size+news.length<=cells.size:=by
   refine jg ?_ hn;rw[c1,A,<-kj];exact ig _ Z
  have run:=fT (ty:=ty) ht l hi q r h0 h1 I V D6 Z Pv
  have f:Holds G E s (cells.toList.take (dv.length*i.size)++news++cells.toList.drop (dv.length*i.size+news.length)).toArray (.ru i.size (dv++ys)):=by
   have:=Holds.wB (c3:=(cells.toList.drop (dv.length*i.size+news.length)).toArray) D d y;simpa using this
  have N:Alike b nb:=⟨Q.trans T.symm,λa0 n' M=>by
   rw[H]at M;simp only[av,db]at M;obtain⟨rfl,rfl⟩:=M
   exact⟨_,L,by lia⟩⟩
  have R:=h.set e2 N (Bh.setRow I _) (by simp;lia) (B6 _ f);refine⟨_,_,E,run,R,?_,rfl,λg F cl o=>?_⟩;rotate_left
  ·refine((Bh.setRow I _).other g λe=>?_).trans o;rw[e,I]at o;cases o
  subst K;exact C4 (s':={s with di:=lu s.di id (aa nb)}) (de _ _ _) H rfl c1 rfl Z
 have Wy:0<ys.length:=by lia
 have X:(mh i.size dv.length (.slice (aa ⟨E.b id,0,ae⟩) dv.length cap)).run P w.drew= .ok (cells.toList.take (dv.length*i.size)).toArray w.drew:=by
  refine run_firstCells_some w.drew i.size dv.length _ _ cap _ (by simp;lia) λj v p=>?_;rw[ko]at p;split at p
  ·rw[Fx,gj,World.cell?_drew,hw];simpa using p
  cases p
 have run:=nD (ty:=ty) ht l hi hz q r h0 h1 X W (by lia) hb O;have f:Holds G E s ((cells.toList.take (dv.length*i.size)).toArray++news.toArray++mb z.cells (grownCap w (dv.length+ys.length) cap e-(dv.length+ys.length))) (.ru i.size (dv++ys)):=Holds.wB D d y;have R:=h.drew.a38 e2 L H (by lia) _ e (B6 _ f);have S:=grownCap_ge w (dv.length+ys.length) cap e;refine⟨_,_,_,run,R,?_,rfl,λg F cl o=>(C6 _ _ _ (la.1 o).1).trans o⟩;subst K;refine C4 (s':={s with di:=lu s.di id (aa nb)}) (cap:=grownCap w (dv.length+ys.length) cap e) (de _ _ _) H (de _ _ _) ?_ rfl S;show lu E.n id _ id=_;rw[de];simp only[Xw,d,Xr,size_zeroCells,A,Y];rw[<-kj,<-kj]
 congr 1
 lia
theorem Holds.abq{cells:Array Value}{sz m:Nat}{dv:List (List D)}(h:Holds G E s cells (.arr sz dv)):Holds G E s (cells.toList.take (m*sz)).toArray (.arr sz (dv.take m)):=by
 obtain⟨l,d,f⟩:=h
 have k:(dv.take m).length*sz<=(cells.toList.take (m*sz)).length:=by
  have:(dv.take m).length*sz<=dv.length*sz:=ig _ (VN _ _);have:(dv.take m).length*sz<=m*sz:=ig _ (List.length_take_le _ _)
  simp only[ey,x9]at*
  lia
 refine⟨by simpa using k,λi e b=>?_,λi e j x u b g c=>?_⟩
 ·rw[ko]at b;split at b
  ·exact d i e b
  cases b
 rw[ko]at b;split at b
 ·rw[B7,ko]at c;split at c
  ·exact f i e j x u b g (by simpa using c)
  cases c
 cases b
theorem Holds.a7y{cells:Array Value}{sz m:Nat}{dv:List (List D)}(h:Holds G E s cells (.arr sz dv)):Holds G E s (cells.toList.drop (m*sz)).toArray (.arr sz (dv.drop m)):=by
 obtain⟨l,f,g⟩:=h;refine⟨?_,λi e b=>?_,λi e j x u b k c=>?_⟩
 ·simp only[A0,Xr,x9,Nat.sub_mul];lia
 ·rw[pv]at b;exact f _ e b
 rw[pv]at b;rw[B7,pv]at c;refine g (m+i) e j x u b k ?_
 have d:(m+i)*sz+j=m*sz+(i*sz+j):=by rw[kj];lia
 rw[d];simpa using c
theorem Holds.OW{cells:Array Value}{sz k:Nat}{dv ys:List (List D)}{news:List Value}(h:Holds G E s cells (.arr sz dv))(j:k+ys.length<=dv.length)(b:news.length=ys.length*sz)(i:Holds G E s news.toArray (.arr sz ys)):
  Holds G E s (cells.toList.take (k*sz)++news++cells.toList.drop (k*sz+news.length)).toArray (.arr sz (dv.take k++ys++dv.drop (k+ys.length))):=by
 have c:k*sz<=cells.size:=by
  have:k*sz<=dv.length*sz:=ig _ (by lia);have:=h.1;lia
 have d:=(h.abq (m:=k)).append (c3:= #[]) (by simp only[Xr,ey,x9];rw[rY c,rY (by lia)]) i;have f:=h.a7y (m:=k+ys.length);have g:=d.append (c3:= #[]) (by simp only[Xw,Xr,ey,x9,dz,b];rw[rY c,rY (by lia),kj];rfl) f
 have e:k*sz+news.length=(k+ys.length)*sz:=by rw[b,kj]
 rw[e];simpa using g
theorem nF(h:jw B0 w0 nt G0 s G E a w){t u e ty:TypeId}{i:TypeInfo}{z:Value}{X:TypeId}(I:P.underlying t=aa (.slice e))(J:P.underlying u=aa (.slice X))(F:P.info? e=aa i)(hz:i.zero=aa z)
  (m:0<i.bytes)(r:z.cells.size=i.size){args:Array Value}{A:Array TypeId}{x y:V}{Q R:Value}(g:args[0]? =aa Q)(j:args[1]? =aa R)(C:A[0]? =aa t)(D:A[1]? =aa u)
  (hx:j4 G E s x Q)(hy:j4 G E s y R){d:Nat}{dst:Option Nat}{ids:List Nat}{O:my}(b:S3 s d i.size i.bytes x y=aa (ids,O)):
  tz P B0 nt w0 G0 a w dst (((A9 A ty args).run P w).andThen λv w=> .ok (.value v) w) (O.app dst (s.vz ids)):=by
 unfold S3 at b;split at b
 ·rename_i ys osz W;split at b
  ·rename_i k;obtain⟨T,yr⟩:=k;obtain⟨xb,c,news,rfl,l,n,S,o,p⟩:=TQ (P:=P) h W T hy;split at b
   ·cases hx;split at b
    ·rename_i f;simp only[av,my.uk,db]at b;obtain⟨rfl,rfl⟩:=b;have K:ys=[]:=jf f;subst K;have U:news=[]:=jf (by simpa using l);subst U;have run:=fU (ty:=ty) I J F g j C D o;rw[run];exact tz.val h rfl iz.cj
    rename_i f;split at b
    ·rename_i hb;simp only[av,db]at b;obtain⟨rfl,rfl⟩:=b;obtain⟨v,w',E',L,M,N,_⟩:=eB (ty:=ty) h I J F hz m r g j C D rfl l n p f hb d (nb:= .ru i.size ys) rfl (λ_ q=>q);rw[L];exact⟨_,v,w',G,E',_,_,rfl,.inl rfl,M,N,rfl⟩
    cases b
   ·rename_i id ba n0;split at b
    ·rename_i Z dv H;split at b
     ·rename_i Y;simp only[av,db]at b;obtain⟨rfl,rfl⟩:=b;obtain⟨rfl,rfl,hb⟩:=Y;obtain⟨v,w',E',L,M,N,_⟩:=nE (ty:=ty) h I J F hz m r g j C D rfl l n (S yr) o p H hx hb (nb:= .ru i.size (dv++ys)) (by simp[B.Ei]) (λ_ q=>q) rfl;rw[L];exact⟨_,v,w',G,E',_,_,rfl,.inl rfl,M,N,rfl⟩
     cases b
    cases b
   cases b
  cases b
 cases b
theorem VC{ys:List (List D)}(h:(ys.all λe=>e.all D.one)=ah):((ys.map λe=>e.map C.d).all λe=>e.all (C.one s))=true:=by
 simp only[dg,j6]at h|-;rintro e ⟨f,b,rfl⟩ c g;obtain⟨x,hx,rfl⟩:=j6.1 g;exact h f b x hx
theorem OA(h:jw B0 w0 nt G0 s G E a w){t u e ty:TypeId}{i:TypeInfo}{z:Value}{eu:TypeId}(N:P.underlying t=aa (.slice e))(p:P.underlying u=aa (.slice eu))(M:P.info? e=aa i)(hz:i.zero=aa z)
  (En:0<i.size)(r:0<i.bytes)(A:z.cells.size=i.size){args:Array Value}{U:Array TypeId}{x y:ov}{vx vy:Value}(f:args[0]? =aa vx)(g:args[1]? =aa vy)(D:U[0]? =aa t)(L:U[1]? =aa u)
  (hx:j4 G E s (x.ev s) vx)(hy:j4 G E s (y.ev s) vy){d:Nat}{dst:Option Nat}{ids:List Nat}{ef:my}(b:(lg.app i.size i.bytes x y).qi d s=aa (ids,ef)):
  tz P B0 nt w0 G0 a w dst (((A9 U ty args).run P w).andThen λv w=> .ok (.value v) w) (ef.app dst (s.vz ids)):=by
 simp only[lg.qi]at b;split at b
 ·rename_i ys osz SU;split at b
  ·rename_i SM;obtain⟨xb,c,news,rfl,j,I,D6,J,R⟩:=mF (P:=P) h SU SM hy;split at b
   ·rename_i l;rw[l]at hx;cases hx;split at b
    ·rename_i F;simp only[av,my.uk,db]at b;obtain⟨rfl,rfl⟩:=b;have a0:ys=[]:=jf F;subst a0;have SN:news=[]:=jf (by simpa using j);subst SN;have run:=fU (ty:=ty) N p M f g D L J;rw[run];exact tz.val h rfl iz.cj
    rename_i F;split at b
    ·rename_i hb;simp only[av,db]at b;obtain⟨rfl,rfl⟩:=b;obtain⟨v,w',E',k1,S,K,_⟩:=eB (ty:=ty) h N p M hz r A (ys:=ys.map λe=>e.map .d) f g D L (by simp) (by simpa using j) I.ofD R (by simpa using F) (by simpa using hb) d (nb:= .arr i.size ys) (by simp[B.Ei]) (λ_ q=>q.toD);rw[k1];simp only[al]at K;exact⟨_,v,w',G,E',_,_,rfl,.inl rfl,S,K,rfl⟩
    cases b
   ·rename_i id ba n0 l;rw[l]at hx;split at b
    ·rename_i T dv H;split at b
     ·rename_i O;simp only[av,db]at b;obtain⟨rfl,rfl⟩:=b;obtain⟨yr,rfl,rfl,hb⟩:=O;obtain⟨v,w',E',k1,S,K,_⟩:=nE (ty:=ty) h N p M hz r A (ys:=ys.map λe=>e.map .d) f g D L (by simp) (by simpa using j) I.ofD (λu p=>D6 u p yr) J R (mG H) (by simpa using hx) (by simpa using hb)
       (nb:= .arr i.size (dv++ys)) (by simp[B.Ei]) (λ_ q=>Holds.toD (by simpa using q)) rfl
      rw[k1];simp only[al]at K;exact⟨_,v,w',G,E',_,_,rfl,.inl rfl,S,K,rfl⟩
     cases b
    exact nF h N p M hz r A f g D L hx hy b
   ·rename_i id ba n o k l;rw[l]at hx;split at b
    ·rename_i T dv H;split at b
     ·rename_i O;simp only[av,db]at b;obtain⟨rfl,rfl⟩:=b;obtain⟨yr,rfl,Y,rfl,a4⟩:=O;obtain⟨e1,e2⟩:=zn H;obtain⟨Z,_,S⟩:=hx;obtain⟨_,K⟩:=S e1 _ _ (yf e2);obtain⟨C,cap,off,c1,V,c3,c4,c5,rfl⟩:=K Y;obtain⟨a5,Q⟩:=Z
      have zT:cap≠0:=λD=>by rw[D]at V;exact afg.2 V (by rw[Ad];exact Q)
      have Yg:off=0:=by rw[c5.resolve_left zT,JC]
      subst Yg;obtain⟨cells,et,hh,hn,O,hw⟩:=h.zp e2;have a2:cap*i.size<=C*i.size:=ig _ (by lia);have a3:(k+ys.length)*i.size<=cap*i.size:=ig _ (by lia)
      have Pv:k*i.size+news.length<=cells.size:=by
       rw[j,<-kj];lia
      have run:=fT (ty:=ty) N p M f g D L hh J (λu p=>D6 u p yr) (by lia) Pv;have X:=O.OW (k:=k) (ys:=ys) (news:=news) (by lia) j I
      have a1:(dv.take k++ys++dv.drop (k+ys.length)).length=dv.length:=by simp;lia
      have W:Alike (.arr i.size dv) (.arr i.size (dv.take k++ys++dv.drop (k+ys.length))):=Alike.arr (by lia);have hf:=h.set e2 W (Bh.setRow hh _) (by simp;lia) X;rw[run];refine⟨_,_,_,G,E,_,.win id ba n 0 (k+ys.length),rfl,.inl rfl,hf,⟨⟨by lia,Q⟩,ae1 e1.symm,λ_ T m hd=>?_⟩,rfl⟩;simp only[PS.Ei,de,rX,B.Ei,av,db]at hd;obtain⟨rfl,rfl⟩:=hd;exact⟨by lia,λ_=>⟨C,cap,0,c1,V,c3,by lia,.inr (JC _).symm,rfl⟩⟩
     cases b
    cases b
   cases b
  cases b
 exact nF h N p M hz r A f g D L hx hy b
end
section
variable{P:Program}{B0 nt:Nat}{w0 w w':World}{G0 G G':ix}{s s':PS}{E E':Env}{a:Act}
theorem TH(off:Nat):∀(l:List Value) (k:Nat) (cells:Array Value) (m:Nat),off+k+l.length<=cells.size->
  ((l.zipIdx k).foldl (λcs p=>cs.setIfInBounds (off+p.2) p.1) cells).size=cells.size/\
  ((l.zipIdx k).foldl (λcs p=>cs.setIfInBounds (off+p.2) p.1) cells)[m]? =if off+k<=m/\m<off+k+l.length then l[m-off-k]? else cells[m]? :=by
 intro l
 induction l with
 |nil=>intro k cells m h;simp;intro b c;lia
 |cons v l f=>
  intro k cells m h;simp only[List.zipIdx_cons,yb,cq]at h|-;obtain⟨d,e⟩:=f (k+1) (cells.setIfInBounds (off+k) v) m (by simp;lia);refine⟨by rw[d];simp,?_⟩;rw[e];by_cases b:off+(k+1)<=m/\m<off+(k+1)+l.length
  ·rw[bc b,bc (by lia)]
   have:m-off-k=(m-off-(k+1))+1:=by lia
   rw[this,mq]
  rw[aq b];by_cases c:m=off+k
  ·subst c;rw[bc (by lia),Ut,bc (by lia)]
   have:off+k-off-k=0:=by lia
   rw[this];rfl
  rw[aq (by lia),Xx (by lia)]
theorem EU(v:Value)(off:Nat)(cells:Array Value)(h:off+v.cells.size<=cells.size):
  v.cells.zipIdx.foldl (λcs (p:Value×Nat)=>cs.setIfInBounds (off+p.2) p.1) cells=(patch cells.toList off v.cells.toList).toArray:=by
 have hz:v.cells.zipIdx.foldl (λcs (p:Value×Nat)=>cs.setIfInBounds (off+p.2) p.1) cells=(v.cells.toList.zipIdx 0).foldl (λcs p=>cs.setIfInBounds (off+p.2) p.1) cells:=by
  rw[<-Array.foldl_toList];simp
 rw[hz]
 have b:off+v.cells.toList.length<=cells.toList.length:=by simpa using h
 apply Array.ext_getElem?;intro m
 have e:(patch cells.toList off v.cells.toList).toArray[m]? =(patch cells.toList off v.cells.toList)[m]? :=by simp
 rw[(TH off v.cells.toList 0 cells m (by simpa using h)).2,e,F1 _ _ _ b];simp
def P6(G:ix)(E:Env)(s:PS)(cs:List C)(us:Array Value):Prop:=us.size=cs.length/\∀(i:Nat) (c:C) (u:Value),cs[i]? =aa c->us[i]? =aa u->zx G E s c u
theorem P6.patch{cs xs:List C}{us vs:Array Value}{off:Nat}(h:P6 G E s cs us)(hx:P6 G E s xs vs)(f:off+xs.length<=cs.length):P6 G E s (patch cs off xs) (patch us.toList off vs.toList).toArray:=by
 obtain⟨a1,j⟩:=h;obtain⟨k,b2⟩:=hx
 have g:off+vs.toList.length<=us.toList.length:=by simp;lia
 refine⟨by simp[so _ _ _ g,so _ _ _ f,a1],λi c u e d=>?_⟩;rw[F1 _ _ _ f]at e;rw[B7,F1 _ _ _ g]at d;simp only[x9,k]at d;split at e
 ·rename_i b;rw[bc b]at d;exact b2 _ c u e (by simpa using d)
 rename_i b;rw[aq b]at d;exact j i c u e (by simpa using d)
theorem aN{place:Nat->Option (Nat×Nat)}{ev:Operand->Value}:∀{l:List (Nat×Operand)} {ps:List (Nat×Nat×List C)} {cs b:List C} {us:Array Value},
  ps.length=l.length->(∀(i:Nat) (p:Nat×Operand) (q:Nat×Nat×List C),l[i]? =aa p->ps[i]? =aa q->place p.1=aa (q.1,q.2.1)/\P6 G E s q.2.2 (ev p.2).cells)->
  Nc cs ps=aa b->P6 G E s cs us->∃vs,Instr.fill place us (l.map λp=>(p.1,ev p.2))=aa vs/\P6 G E s b vs:=by
 intro l
 induction l with
 |nil=>
  intro ps cs b us d f c e
  cases ps with
  |nil=>simp only[Nc,av]at c;subst c;exact⟨us,rfl,e⟩
  |cons _ _=>simp at d
 |cons p l r=>
  intro ps cs b us d f c e
  cases ps with
  |nil=>simp at d
  |cons q ps=>
   obtain⟨o,n,xs⟩:=q;simp only[Nc]at c;split at c
   ·rename_i x;obtain⟨h,g⟩:=f 0 p (o,n,xs) rfl rfl;simp only at h g;simp only[du,Instr.fill,h];have v:=g.1;have m:=e.1;rw[aq (by simp;lia)];rw[EU _ _ _ (by lia)];exact r (by simpa using d) (λi t u j k=>f (i+1) t u (by simpa using j) (by simpa using k)) c (e.patch g (by lia))
   cases c
theorem HS{cs:List C}{us:Array Value}(h:P6 G E s cs us):j4 G E s (mkv ah cs) (.agg us):=by
 unfold mkv
 cases b:Mj cs with
 |some ds=>
  have e:=T7 b;subst e;exact iz.agg (by simpa using h.1) λi x v hx c=>h.2 i (.d x) v (by simp[hx]) c
 |none=>exact G6.2 ⟨us,rfl,h.1,h.2⟩
theorem TY:∀{l:List Value} {ds:List D},AT l=aa ds->∀(w0 w:World) (h:jw B0 w0 nt G0 s G E a w),l.length=ds.length/\∀(i:Nat) (x:D) (v:Value),ds[i]? =aa x->l[i]? =aa v->iz G x v:=by
 intro l ds d w0 w h
 have b:Yq (.agg l.toArray)=aa (.agg ds):=by simp[Yq,d]
 have:=h.ev (x:= .const (.agg l.toArray)) (o:= .c (.agg ds)) (by simp[xy,b])
 cases this with
 |agg f e=>exact⟨by simpa using f,λi x v hx b=>e i x v hx (by simpa using b)⟩
theorem Gz{t:TypeId}{z:List D}(hz:H0 P t=aa z)(h:jw B0 w0 nt G0 s G E a w):∃v,(P.info? t).bind (·.zero)=aa v/\(∀w,(zeroValue t).run P w= .ok v w)/\P6 G E s (z.map .d) v.cells:=by
 unfold H0 at hz;split at hz
 ·rename_i v b;obtain⟨j,k⟩:=TY hz w0 w h;refine⟨v,b,λw=>?_,by simpa using j,λi c u f g=>?_⟩
  ·cases e:P.info? t with
   |none=>rw[e]at b;cases b
   |some i=>
    rw[e]at b;simp only[rX]at b;simp[zeroValue,typeInfo,e,b]
  simp only[dn,ax]at f;obtain⟨x,hx,rfl⟩:=f;exact k i x u hx (by simpa using g)
 cases hz
theorem cC(h:jw B0 w0 nt G0 s G E a w){get:Nat->Operand->Option (Nat×Nat)}:
  ∀{l:List (Nat×Operand)} {f:List (Nat×Nat×ov)} {ps:List (Nat×Nat×List C)},f.length=l.length->
   (∀(i:Nat) (p:Nat×Operand) (q:Nat×Nat×ov),l[i]? =aa p->f[i]? =aa q->get p.1 p.2=aa (q.1,q.2.1)/\xy p.2=aa q.2.2)->Kr s f=aa ps->
   ps.length=l.length/\∀(i:Nat) (p:Nat×Operand) (q:Nat×Nat×List C),l[i]? =aa p->ps[i]? =aa q->get p.1 p.2=aa (q.1,q.2.1)/\P6 G E s q.2.2 (a.eval p.2).cells:=by
 intro l
 induction l with
 |nil=>
  intro f ps g _ c
  cases f with
  |nil=>simp only[Kr,av]at c;subst c;simp
  |cons _ _=>simp at g
 |cons p l z=>
  intro f ps g m c
  cases f with
  |nil=>simp at g
  |cons q f=>
   obtain⟨o,n,x⟩:=q;simp only[Kr]at c;split at c
   ·rename_i cs D t u
    injection c with c
    subst c;obtain⟨v,y⟩:=z (by simpa using g) (λi j k a b=>m (i+1) j k (by simpa using a) (by simpa using b)) u;refine⟨by simp[v],λi j k d e=>?_⟩
    cases i with
    |zero=>
     simp at d e;subst d e;obtain⟨A,B⟩:=m 0 p (o,n,x) rfl rfl;obtain⟨c1,r⟩:=T4 t (h.ev B);exact⟨A,c1,r⟩
    |succ i=>simp at d e;exact y i j k d e
   cases c
theorem AH{fs:Array Field}:∀{l:List (Nat×Operand)} {d:List (Nat×Nat×ov)},dQ P fs l=aa d->d.length=l.length/\
  ∀(i:Nat) (p:Nat×Operand) (q:Nat×Nat×ov),l[i]? =aa p->d[i]? =aa q->(∃f,fs[p.1]? =aa f/\f.offset=q.1/\lx P f.type=aa q.2.1)/\xy p.2=aa q.2.2:=by
 intro l
 induction l with
 |nil=>intro d h;simp only[dQ,av]at h;subst h;simp
 |cons p l u=>
  intro d h;obtain⟨j,x⟩:=p;simp only[dQ]at h;split at h
  ·rename_i f o z e g k;split at h
   ·rename_i n m
    injection h with h
    subst h;obtain⟨r,t⟩:=u k;refine⟨by simp[r],λi v y b c=>?_⟩
    cases i with
    |zero=>simp at b c;subst b c;exact⟨⟨f,e,rfl,m⟩,g⟩
    |succ i=>simp at b c;exact t i v y b c
   cases h
  cases h
theorem Vv{n:Nat}:∀{l:List (Nat×Operand)} {d:List (Nat×Nat×ov)},S0 n l=aa d->d.length=l.length/\
  ∀(i:Nat) (p:Nat×Operand) (q:Nat×Nat×ov),l[i]? =aa p->d[i]? =aa q->(p.1*n=q.1/\n=q.2.1)/\xy p.2=aa q.2.2:=by
 intro l
 induction l with
 |nil=>intro d h;simp only[S0,av]at h;subst h;simp
 |cons p l m=>
  intro d h;obtain⟨j,x⟩:=p;simp only[S0]at h;split at h
  ·rename_i o u e f
   injection h with h
   subst h;obtain⟨g,k⟩:=m f;refine⟨by simp[g],λi r t b c=>?_⟩
   cases i with
   |zero=>simp at b c;subst b c;exact⟨⟨rfl,rfl⟩,e⟩
   |succ i=>simp at b c;exact k i r t b c
  cases h
theorem yX{fs:Array Field}(b:∀f∈fs.toList,∃n,lx P f.type=aa n)(w:World):
  (fs.mapM λ(f:Field)=>(do pure (f.offset,<-sizeOf f.type):Sem (Nat×Nat))).run P w= .ok (fs.map λf=>(f.offset,P.cellsOf f.type)) w:=by
 have key:∀(l:List Field),(∀f∈l,∃n,lx P f.type=aa n)->(l.mapM λ(f:Field)=>(do pure (f.offset,<-sizeOf f.type):Sem (Nat×Nat))).run P w= .ok (l.map λf=>(f.offset,P.cellsOf f.type)) w:=by
  intro l
  induction l with
  |nil=>intro _;simp
  |cons f l h=>
   intro d;obtain⟨n,c⟩:=d f (by simp)
   have e:P.cellsOf f.type=n:=by
    unfold lx at c;unfold a8k;rw[c];rfl
   rw[List.mapM_cons];simp only[df,u6 c,br,fl,h (λf g=>d f (by simp[g])),du,e]
 have:=key fs.toList b;rw[sK,af5,this];simp only[br]
 congr 1
 apply Array.ext';simp
theorem vU(h:jw B0 w0 nt G0 s G E a w){t:TypeId}{fs:Array Field}{ps:Array (Nat×Operand)}{z:List D}{B:List (Nat×Nat×ov)}(J:P.underlying t=aa (.struct fs))(hz:H0 P t=aa z)
  (b:fs.toList.all (λf=>(lx P f.type).isSome)=ah)(g:dQ P fs ps.toList=aa B){A:List (Nat×Nat×List C)}{cs:List C}(c:Kr s B=aa A)(k:Nc (z.map .d) A=aa cs):
  ∃us,(aeu t (ps.map λ(p:Nat×Operand)=>(p.1,a.eval p.2))).run P w= .ok (.agg us) w/\P6 G E s cs us:=by
 obtain⟨Q,K,x,v⟩:=Gz hz h;obtain⟨q1,q2⟩:=AH g;have F:∀f∈fs.toList,∃n,lx P f.type=aa n:=λf k=>ma.1 (dg.1 b f k)
 have H:∀f n,lx P f=aa n->P.cellsOf f=n:=by
  intro f n y;unfold lx at y;unfold a8k;rw[y];rfl
 obtain⟨N,O⟩:=cC h (get:=λj _=>(fs[j]?).map λf=>(f.offset,P.cellsOf f.type)) q1 (λi p q c g=>by
  obtain⟨⟨f,l,m,o⟩,I⟩:=q2 i p q c g
  exact⟨by simp[l,m,H _ _ o],I⟩) c
 obtain⟨vs,r,u⟩:=aN (place:=λj=>(fs.map λf=>(f.offset,P.cellsOf f.type))[j]?) (ev:=a.eval) N (λi p q c g=>by
  obtain⟨L,M⟩:=O i p q c g
  exact⟨by simpa using L,M⟩) k v
 refine⟨vs,?_,u⟩;unfold aeu;simp only[df,x,br,underlying,run_program,J,fl,yX F]
 have e:(ps.map λ(p:Nat×Operand)=>(p.1,a.eval p.2)).toList=ps.toList.map λp=>(p.1,a.eval p.2):=by simp
 rw[e,r];rfl
theorem vV(h:jw B0 w0 nt G0 s G E a w){t e:TypeId}{len n:Nat}{ps:Array (Nat×Operand)}{z:List D}{o:List (Nat×Nat×ov)}(A:P.underlying t=aa (.array len e))(hz:H0 P t=aa z)
  (y:lx P e=aa n)(c:S0 n ps.toList=aa o){m:List (Nat×Nat×List C)}{cs:List C}(b:Kr s o=aa m)(x:Nc (z.map .d) m=aa cs):
  ∃us,(aeu t (ps.map λ(p:Nat×Operand)=>(p.1,a.eval p.2))).run P w= .ok (.agg us) w/\P6 G E s cs us:=by
 obtain⟨K,B,l,k⟩:=Gz hz h;obtain⟨q1,q2⟩:=Vv c
 obtain⟨I,J⟩:=cC h (get:=λj _=>aa (j*n,n)) q1 (λi p q b c=>by
  obtain⟨⟨r,u⟩,v⟩:=q2 i p q b c
  exact⟨by simp[r,<-u],v⟩) b
 obtain⟨vs,f,g⟩:=aN (place:=λj=>aa (j*n,n)) (ev:=a.eval) I (λi p q b c=>by
  obtain⟨F,H⟩:=J i p q b c
  exact⟨by simpa using F,H⟩) x k
 refine⟨vs,?_,g⟩;unfold aeu;simp only[df,l,br,underlying,run_program,A,fl,u6 y]
 have e:(ps.map λ(p:Nat×Operand)=>(p.1,a.eval p.2)).toList=ps.toList.map λp=>(p.1,a.eval p.2):=by simp
 rw[e,f];rfl
theorem LO{α β:Type}(f:α->β)(l:List α)(off:Nat)(xs:List α):(patch l off xs).map f=patch (l.map f) off (xs.map f):=by
 simp[patch,Mm,a1s]
theorem a04:∀{ps:List (Nat×Nat×List D)} {cs b:List D},Xk cs ps=aa b->Nc (cs.map .d) (ps.map λp=>(p.1,p.2.1,p.2.2.map .d))=aa (b.map .d):=by
 intro ps
 induction ps with
 |nil=>intro cs b h;simp only[Xk,av]at h;subst h;rfl
 |cons p ps e=>
  intro cs b h;obtain⟨o,n,xs⟩:=p;simp only[Xk]at h;split at h
  ·rename_i c;simp only[du,Nc,al];rw[bc c,<-LO];exact e h
  cases h
theorem vF:∀{ps:List (Nat×Nat×List D)} {cs b:List D},Xk cs ps=aa b->b.length=cs.length:=by
 intro ps
 induction ps with
 |nil=>intro cs b h;simp only[Xk,av]at h;subst h;rfl
 |cons p ps c=>
  intro cs b h;obtain⟨o,n,xs⟩:=p;simp only[Xk]at h;split at h
  ·rename_i d;rw[c h,so _ _ _ (by lia)]
  cases h
theorem DD(h:jw B0 w0 nt G0 s G E a w)(B:G.le G'):
  ∀{l:List (Nat×Operand)} {t:List (Nat×Nat×ov)} {ps:List (Nat×Nat×List D)} {ids:List Nat},t.length=l.length->
   (∀(i:Nat) (p:Nat×Operand) (q:Nat×Nat×ov),l[i]? =aa p->t[i]? =aa q->xy p.2=aa q.2.2)->Po s t=aa (ps,ids)->(∀id∈ids,bG G' G E s id)->
   ps.length=l.length/\∀(i:Nat) (p:Nat×Operand) (q0:Nat×Nat×ov) (q:Nat×Nat×List D),l[i]? =aa p->t[i]? =aa q0->ps[i]? =aa q->q.1=q0.1/\q.2.1=q0.2.1/\P6 G' E s (q.2.2.map .d) (a.eval p.2).cells:=by
 intro l
 induction l with
 |nil=>
  intro t ps ids A _ e _
  cases t with
  |nil=>simp only[Po,av,db]at e;obtain⟨rfl,rfl⟩:=e;simp
  |cons _ _=>simp at A
 |cons p l T=>
  intro t ps ids A J e I
  cases t with
  |nil=>simp at A
  |cons q t=>
   obtain⟨o,n,x⟩:=q;simp only[Po]at e;split at e
   ·rename_i cs U j L M;split at e
    ·rename_i ds i N;simp only[av,db]at e;obtain⟨rfl,rfl⟩:=e;obtain⟨R,S⟩:=T (by simpa using A) (λi C F a b=>J (i+1) C F (by simpa using a) (by simpa using b)) M (λid v=>I id (nP _ v));refine⟨by simp[R],λk C q0 F f r g=>?_⟩
     cases k with
     |zero=>
      simp at f r g;subst f r g;obtain⟨c1,K⟩:=T4 L (h.ev (J 0 p (o,n,x) rfl rfl));obtain⟨d1,d2⟩:=qP (G:=G) (G':=G') (E:=E) N;refine⟨rfl,rfl,by simp[c1,d1],λm c u H Q=>?_⟩;simp only[dn,ax]at H;obtain⟨y,hy,rfl⟩:=H
      have O:m<cs.length:=by have:=(bd.1 hy).1;lia
      have z:cs[m]? =aa cs[m]:=bh O;exact d2 B (λid v=>I id (sE _ v)) m _ y u z hy (K m _ u z Q)
     |succ k=>simp at f r g;exact S k C q0 F f r g
    cases e
   cases e
theorem mW{α:Type}(sz:Nat):∀(n:Nat) (l:List α),l.length=n*sz->(chunks sz n l).length=n/\∀i e,(chunks sz n l)[i]? =aa e->e.length=sz/\∀j,j<sz->e[j]? =l[i*sz+j]? :=by
 intro n
 induction n with
 |zero=>intro l _;simp[chunks]
 |succ n h=>
  intro l d;rw[kj,Cj]at d;obtain⟨f,g⟩:=h (l.drop sz) (by simp;lia);refine⟨by simp[chunks,f],λi e b=>?_⟩
  cases i with
  |zero=>
   simp only[chunks,iw,av]at b;subst b;refine⟨by simp;lia,λj c=>?_⟩;rw[ko,bc c,JC,gj]
  |succ i=>
   simp only[chunks,mq]at b;obtain⟨k,m⟩:=g i e b;refine⟨k,λj c=>?_⟩;rw[m j c,pv,kj,Cj]
   congr 1
   lia
theorem pQ(h:jw B0 w0 nt G0 s G E a w){z:List D}{e:Value}(hz:P6 G E s (z.map .d) e.cells){n:Nat}(m:0<z.length):
  P6 G E s (((jq n z).flatten).map .d) ((afb (n*z.length)).map (e.cells[· %e.cells.size]!)):=by
 obtain⟨f,o⟩:=hz;simp only[al]at f;refine⟨by simp,λi c u g j=>?_⟩
 have b:i<n*z.length:=by
  have:=(bd.1 g).1;simpa using this
 have l:∀(n i:Nat),i<n*z.length->((jq n z).flatten)[i]? =z[i%z.length]? :=by
  intro n
  induction n with
  |zero=>intro i b;simp at b
  |succ n r=>
   intro i b;rw[adq,VK,On];rw[kj,Cj]at b;split
   ·rename_i t;rw[zz t]
   rename_i p;rw[r (i-z.length) (by lia)]
   congr 1
   conv=>rhs;rw[show i=(i-z.length)+z.length by lia]
   rw[Nat.add_mod_right]
 rw[dn,l n i b]at g;simp only[Yx,VR,b,da,jc,av]at j;have k:i%z.length<z.length:=Ht _ m
 have q:i%e.cells.size<e.cells.size:=by rw[f];exact k
 rw[f]at j;refine o (i%z.length) c u (by rw[dn];exact g) ?_;rw[<-j,getElem!_pos _ _ (by rw[f];exact k)];exact bz _
end
end Go.PI
namespace Go.PI
open Go Go.RowKit
section
variable{P:Program}{B0 nt:Nat}{w0 w w':World}{G0 G G':ix}{s s':PS}{E E':Env}{a:Act}
theorem PS.iN:∀(ids:List Nat) (s:PS),(s.vz ids).ba=s.ba:=by
 intro ids
 induction ids with
 |nil=>intro s;rfl
 |cons i r b=>intro s;rw[PS.N4,b];rfl
theorem UT(h:jw B0 w0 nt G0 s G E a w){t e:TypeId}{n sz:Nat}{z:List D}{ps:Array (Nat×Operand)}{J:List (Nat×Nat×ov)}(B:P.underlying t=aa (.slice e))(En:lx P e=aa sz)(hz:H0 P e=aa z)
  (hn:n*sz<=2^20)(I:z.length=sz)(h0:0<sz)(r:S0 sz ps.toList=aa J){X:List (Nat×Nat×List D)}{k:List Nat}{ds:List D}(m:Po s J=aa (X,k))(hf:Xk (jq n z).flatten X=aa ds):
  ∃G' vs,G.le G'/\jw B0 w0 nt G0 (s.vz k) G' E a w/\Holds G' E (s.vz k) vs (.arr sz (chunks sz n ds))/\vs.size=n*sz/\(chunks sz n ds).length=n/\
   (sH t n (ps.map λ(p:Nat×Operand)=>(p.1,a.eval p.2))).run P w= .ok (.slice (aa ⟨w.heap.size,0,ae⟩) n n) (w.alloc (.cells vs e)):=by
 obtain⟨G',v,L,hg⟩:=h.vz k;obtain⟨q1,q2⟩:=Vv r;obtain⟨r1,r2⟩:=DD h v q1 (λi p q m r=>(q2 i p q m r).2) m hg;obtain⟨Y,a1,V,H⟩:=Gz hz L
 have a0:Y.cells.size=sz:=by have:=H.1;simp at this;lia
 have o:P6 G' E (s.vz k) (((jq n z).flatten).map .d) ((afb (n*sz)).map ((if n*sz=0 then(#[]:Array Value)else Y.cells)[· %(if n*sz=0 then(#[]:Array Value)else Y.cells).size]!)):=by
  by_cases b:n*sz=0
  ·have T:n=0:=by
    rcases ad9.1 b with h|h
    ·exact h
    lia
   subst T;simp[P6]
  rw[aq b];have:=pQ L H (n:=n) (by lia);rw[I]at this;exact this
 have K:∀{cs:List D} {us:Array Value},P6 G' E s (cs.map .d) us->P6 G' E (s.vz k) (cs.map .d) us:=by
  intro cs us hr;refine⟨hr.1,λi c u M B=>?_⟩;have:=hr.2 i c u M B;simp only[dn,ax]at M;obtain⟨x,_,rfl⟩:=M;exact this
 obtain⟨vs,f,C⟩:=aN (G:=G') (E:=E) (s:=s.vz k) (place:=λi=>aa (i*sz,sz)) (ev:=a.eval) (l:=ps.toList) (ps:=X.map λp=>(p.1,p.2.1,p.2.2.map .d)) (by simpa using r1) (λi p q m r=>by
  simp only[dn,ax]at r;obtain⟨q',U,rfl⟩:=r
  have Q:i<J.length:=by have:=(bd.1 m).1;lia
  have A:J[i]? =aa J[i]:=bh Q;obtain⟨k1,W,k3⟩:=r2 i p _ q' m A U;obtain⟨⟨m1,m2⟩,_⟩:=q2 i p _ m A
  exact⟨by simp[k1,W,m1,<-m2],K k3⟩) (a04 hf) o
 have g:=vF hf;simp only[adr,List.map_replicate,acd,I]at g
 have N:ds.length=n*sz:=by simpa using g
 obtain⟨c1,Z⟩:=mW sz n ds N
 have F:vs.size=n*sz:=by have:=C.1;simp at this;lia
 refine⟨G',vs,v,L,⟨by rw[c1,F];exact bm _,λi e O=>(Z i e O).1,λi e j x u O R B=>?_⟩,F,c1,?_⟩
 ·obtain⟨k1,W⟩:=Z i e O
  have S:j<sz:=by have:=(bd.1 R).1;lia
  rw[W j S]at R;exact C.2 (i*sz+j) (.d x) u (by simp[R]) B
 unfold sH;simp only[df,underlying,run_program,br,B,fl,u6 En];rw[aq (by lia)]
 have y:(ps.map λ(p:Nat×Operand)=>(p.1,a.eval p.2)).toList=ps.toList.map λp=>(p.1,a.eval p.2):=by simp
 by_cases b:n*sz=0
 ·rw[bc b];simp only[bc b]at f;simp only[df,fl,br,y,f];rfl
 rw[aq b];simp only[aq b]at f;simp only[df,V,fl,br,y,f];rfl
theorem jw.fixed(h:jw B0 w0 nt G0 s G E a w){sz n:Nat}{dv:List (List D)}{vs:Array Value}(g:TypeId)(q:Holds G E s vs (.arr sz dv))(B:dv.length=n):
  ∃G',G.le G'/\jw B0 w0 nt G0 s G' E a (w.alloc (.cells vs g))/\iz G' (.gd sz dv) (.slice (aa ⟨w.heap.size,0,ae⟩) n n):=by
 let G':ix:={cv:=λb o=>if b=w.heap.size then vs[o]? else G.cv b o,mv:=G.mv}
 have m:∀o,(w.alloc (.cells vs g)).cell? ⟨w.heap.size,o,ae⟩=vs[o]? :=λo=>by
  unfold aet;simp only[Mv];rfl
 have f:G.le G':=⟨λb o v d=>by
  have:=h.gok.lt d;show(if b=w.heap.size then vs[o]? else G.cv b o)=_
  rw[aq (by lia)];exact d,λ_ _ h=>h⟩
 have hb:Bel (Plain s.ctx) w.heap.size w (w.alloc (.cells vs g)):=(Bel.refl _ _).alloc (bm _) _
 have t:GOk G' (w.alloc (.cells vs g)):=by
  refine⟨λb o v d=>?_,λb es d=>?_⟩
  ·change(if b=w.heap.size then vs[o]? else G.cv b o)=aa v at d;split at d
   ·rename_i e;subst e;rw[m];exact d
   exact(hb.cell (p:=⟨b,o,ae⟩) (h.gok.lt d)).trans (h.gok.cv b o v d)
  obtain⟨ents,clock,y,A⟩:=h.gok.mv b es d;exact⟨ents,clock,(hb.block b (h.gok.ltm d)).trans y,A⟩
 refine⟨G',f,h.nC hb f t (λb o C=>?_) (λ_ _=>rfl),?_⟩
 ·show(if b=w.heap.size then vs[o]? else G.cv b o)=_;rw[aq (by lia)]
 have k:=iz.gd (G:=G') (sz:=sz) (l:=dv) (b:=w.heap.size) (o:=0) (c:=n) (by lia) q.2.1 (λi j r z=>?_) (λi e j x v r z u=>?_)
 ·rw[B]at k;exact k
 ·show(if w.heap.size=w.heap.size then vs[0+i*sz+j]? else _).isSome;rw[bc rfl,gj];have y:=q.1;have:(i+1)*sz<=dv.length*sz:=ig _ r;rw[kj,Cj]at this;rw[bz (by lia)];rfl
 change(if w.heap.size=w.heap.size then vs[0+i*sz+j]? else _)=aa v at u;rw[bc rfl,gj]at u;exact(q.2.2 i e j x v r z u).mono f
theorem GG(h:jw B0 w0 nt G0 s G E a w){t e:TypeId}{n sz:Nat}{z:List D}{ps:Array (Nat×Operand)}{q:List (Nat×Nat×ov)}(K:P.underlying t=aa (.slice e))(r:lx P e=aa sz)(hz:H0 P e=aa z)
  (F:n*sz<=2^20)(k:z.length=sz)(y:0<sz)(I:S0 sz ps.toList=aa q){d:Nat}{dst:Option Nat}{ids:List Nat}{l:my}{M:Bool}(c:(lg.xz M n sz z q).qi d s=aa (ids,l)):
  tz P B0 nt w0 G0 a w dst (((sH t n (ps.map λ(p:Nat×Operand)=>(p.1,a.eval p.2))).run P w).andThen λv w=> .ok (.value v) w) (l.app dst (s.vz ids)):=by
 simp only[lg.qi]at c;split at c
 ·rename_i N f H;split at c
  ·rename_i ds B;obtain⟨G',vs,C,m,o,j,c1,run⟩:=UT h K r hz F k y I H B;split at c
   ·simp only[my.uk,av,db]at c;obtain⟨rfl,rfl⟩:=c;rw[run];obtain⟨u,x,A,J⟩:=m.fixed e o c1;exact⟨_,_,_,u,_,_,.d (.gd sz (chunks sz n ds)),rfl,.inl rfl,A,J,rfl⟩
   ·cases c
   simp only[av,db]at c;obtain⟨rfl,rfl⟩:=c;have i:=m.new d _ vs e o;rw[run];refine⟨_,_,_,G',_,_,.ref d (s.ba d+1) n,rfl,.inl rfl,i,?_,rfl⟩;have:=C4 (G':=G') (s':={s.vz f with di:=lu (s.vz f).di d (aa (.arr sz (chunks sz n ds))),ba:=lu (s.vz f).ba d ((s.vz f).ba d+1)})
    (E':={E with b:=lu E.b d w.heap.size,n:=lu E.n d vs.size}) (id:=d) (sz:=sz) (n:=(chunks sz n ds).length) (len:=n) (cap:=n) (g:=w.heap.size) (de _ _ _) rfl (de _ _ _) (by
     show lu E.n d _ d=_
     rw[de,j]) c1 (bm _)
   have L:lu (s.vz f).ba d ((s.vz f).ba d+1) d=s.ba d+1:=by rw[de,PS.iN]
   simpa[L]using this
  cases c
 cases c
theorem Ie{k:IntKind}{i:Int}{y:Nat}(b:0<=i)(d:i<=y)(c:BoundsCode)(w:World):(Xv (.int k i) y c).run P w= .ok i.toNat w:=by
 unfold Xv;simp only[df,T5,br,bc (afm b d),fl]
theorem xD(h:jw B0 w0 nt G0 s G E a w){t e:TypeId}{n:Nat}{x:ov}{lo B:Option ov}{R:Value}{m g:Option Value}(Q:P.underlying t=aa (.slice e))(W:lx P e=aa n)
  (hx:j4 G E s (x.ev s) R)(O:(lo=ae/\m=ae)\/∃o v,lo=aa o/\m=aa v/\j4 G E s (o.ev s) v)(M:(B=ae/\g=ae)\/∃o v,B=aa o/\g=aa v/\j4 G E s (o.ev s) v)
  {d:Nat}{ids:List Nat}{V:my}(z:(lg.slice n x lo B).qi d s=aa (ids,V)):
  ∃u y,(As t R m g ae).run P w= .ok u w/\ids=[]/\V= .val y/\j4 G E s y u:=by
 simp only[lg.qi]at z;split at z
 ·rename_i sz l p I f;rw[I]at hx;split at z
  ·rename_i j r;split at z
   ·rename_i K;simp only[my.uk,av,db]at z;obtain⟨rfl,rfl⟩:=z;obtain⟨rfl,X,N⟩:=K
    have key:∀(b:Option Addr) (cap:Nat),R= .slice b l.length cap->l.length<=cap->(As t R m g ae).run P w= .ok (.slice (if cap=p.getD 0 then b else b.map (·.add (p.getD 0*sz))) (j-p.getD 0) (cap-p.getD 0)) w:=by
     intro b cap A zT;subst A
     have hb:(se ah l.length cap m g ae).run P w= .ok (p.getD 0,j,cap) w:=by
      unfold se
      have T:(g=ae/\j=l.length)\/∃v,g=aa v/\∀c,(Xv v cap c).run P w= .ok j w:=by
       rcases M with ⟨rfl,rfl⟩|⟨o,v,rfl,rfl,A⟩
       ·simp only[Sk,av]at r;exact .inl ⟨rfl,r.symm⟩
       simp only[Sk]at r;split at r
       ·rename_i k q D;rw[D]at A;cases A;split at r
        ·rename_i F
         injection r with r
         subst r;exact .inr ⟨_,rfl,λc=>Ie F (by lia) c w⟩
        cases r
       cases r
      have U:(m=ae/\p.getD 0=0)\/∃v,m=aa v/\∀c,(Xv v j c).run P w= .ok (p.getD 0) w:=by
       rcases O with ⟨rfl,rfl⟩|⟨o,v,rfl,rfl,A⟩
       ·simp only[Wx,av]at f;subst f;exact .inl ⟨rfl,rfl⟩
       simp only[Wx]at f;split at f
       ·rename_i k q D;rw[D]at A;cases A;split at f
        ·rename_i F
         injection f with f
         subst f;exact .inr ⟨_,rfl,λc=>Ie F (by simp at X;lia) c w⟩
        cases f
       cases f
      rcases T with ⟨rfl,rfl⟩|⟨v1,rfl,J⟩<;>rcases U with ⟨rfl,e0⟩|⟨v2,rfl,e2⟩
      ·simp[df,e0]
      ·simp[df,e2]
      ·simp[df,J,e0]
      simp[df,J,e2]
     unfold As;simp only[df,underlying,run_program,br,Q,fl];unfold aez;simp only[df,underlying,run_program,br,Q,fl,hb,u6 W]
    have len:((l.take j).drop (p.getD 0)).length=j-p.getD 0:=by simp;lia
    have get:∀i e,((l.take j).drop (p.getD 0))[i]? =aa e->l[p.getD 0+i]? =aa e/\i<j-p.getD 0:=by
     intro i e B;have:=(bd.1 B).1;rw[pv,ko]at B;split at B
     ·exact⟨B,by lia⟩
     cases B
    cases hx with
    |Y3=>
     have H:j=0:=by simpa using N
     subst H
     have C:p.getD 0=0:=by lia
     refine⟨_,_,key ae 0 rfl (by simp),rfl,rfl,?_⟩;rw[C];exact iz.Y3
    | @bN _ a c=>
     have H:j=0:=by simpa using N
     subst H
     have C:p.getD 0=0:=by lia
     refine⟨_,_,key (aa a) c rfl (by simp),rfl,rfl,?_⟩;rw[C];split<;>exact iz.bN
    | @gd _ _ b o c K hs Y Z=>
     refine⟨_,_,key (aa ⟨b,o,ae⟩) c rfl K,rfl,rfl,?_⟩;by_cases L:c=p.getD 0
     ·have S:(l.take j).drop (p.getD 0)=[]:=jf (by rw[len];lia);rw[bc L,S]
      have:j-p.getD 0=0:=by lia
      rw[this];exact iz.gd (l:=[]) (by simp) (by simp) (by simp) (by simp)
     rw[aq L];simp only[jc,Fx];rw[<-len];refine iz.gd (by rw[len];lia) (λi e B=>hs _ e (get i e B).1) (λi q B D=>?_) (λi e q x v B hx A=>?_)
     ·have:=Y (p.getD 0+i) q (by lia) D;rw[kj,<-tc]at this;exact this
     refine Z (p.getD 0+i) e q x v (get i e B).1 hx ?_;rw[kj,<-tc];exact A
   cases z
  cases z
 ·rename_i p I f;rw[I]at hx;cases hx;split at z
  ·rename_i j r;split at z
   ·rename_i K;simp only[my.uk,av,db]at z;obtain⟨rfl,rfl⟩:=z;obtain⟨C,rfl⟩:=K
    have hb:(se ah 0 0 m g ae).run P w= .ok (0,0,0) w:=by
     unfold se
     have T:(g=ae)\/∃v,g=aa v/\∀c,(Xv v 0 c).run P w= .ok 0 w:=by
      rcases M with ⟨rfl,rfl⟩|⟨o,v,rfl,rfl,A⟩
      ·exact .inl rfl
      simp only[Sk]at r;split at r
      ·rename_i k q D;rw[D]at A;cases A;split at r
       ·rename_i F;simp only[av]at r;refine .inr ⟨_,rfl,λc=>?_⟩;have:=Ie (P:=P) (k:=k) F (y:=0) (by lia) c w
        rwa[r]at this
       cases r
      cases r
     have U:(m=ae)\/∃v,m=aa v/\∀c,(Xv v 0 c).run P w= .ok 0 w:=by
      rcases O with ⟨rfl,rfl⟩|⟨o,v,rfl,rfl,A⟩
      ·exact .inl rfl
      simp only[Wx]at f;split at f
      ·rename_i k q D;rw[D]at A;cases A;split at f
       ·rename_i F;simp only[av]at f;subst f;simp only[jj]at C;refine .inr ⟨_,rfl,λc=>?_⟩;have:=Ie (P:=P) (k:=k) F (y:=0) (by lia) c w
        rwa[C]at this
       cases f
      cases f
     rcases T with rfl|⟨v1,rfl,J⟩<;>rcases U with rfl|⟨v2,rfl,e2⟩
     ·simp[df]
     ·simp[df,e2]
     ·simp[df,J]
     simp[df,J,e2]
    refine⟨.slice ae 0 0,.d .cj,?_,rfl,rfl,iz.cj⟩;unfold As;simp only[df,underlying,run_program,br,Q,fl];unfold aez;simp only[df,underlying,run_program,br,Q,fl,hb,u6 W];rfl
   cases z
  cases z
 cases z
theorem jw.a0b(h:jw B0 w0 nt G0 s G E a w){id sz n j m:Nat}{b b':B}(hb:s.di id=aa b)(V:b.Ei=aa (sz,n))(J:b'.Ei=aa (sz,j))(M:m<=E.n id)(K:∀cells,Holds G E s cells b->Holds G E s cells b'):
  jw B0 w0 nt G0 {s with di:=lu s.di id (aa b'),ba:=lu s.ba id (s.ba id+1)} G {E with n:=lu E.n id m} a w:=by
 have A:∀i,lu s.ba id (s.ba id+1) i=s.ba i->i≠id:=by
  intro i d e;subst e;rw[de]at d;lia
 have g:J2 E {E with n:=lu E.n id m} s {s with di:=lu s.di id (aa b'),ba:=lu s.ba id (s.ba id+1)}:=by
  refine⟨λi=>?_,λi sz U l c=>?_,λi y l c u=>?_,λi l N=>⟨N,rfl⟩⟩
  ·show _<=lu s.ba id (s.ba id+1) i;by_cases e:i=id
   ·subst e;rw[de];lia
   rw[ie _ _ _ _ e];exact bm _
  ·have e:=A i l;simp only[PS.Ei,ie _ _ _ _ e]at c;exact⟨U,c,bm _,λ_=>⟨rfl,ie _ _ _ _ e⟩⟩
  have e:=A i l;simp only[ie _ _ _ _ e]at c;exact⟨⟨y,c,u⟩,rfl⟩
 refine⟨h.size,h.defers,h.base,h.below,h.gok,h.gle,h.Jt,λt=>j4.move (ix.me _) g (h.tmp t),λi y c=>?_,λi k f C d L r=>?_,λi es d=>?_,h.Sn,λp=>j4.move (ix.me _) g (h.ctx p),h.tb⟩
 ·by_cases e:i=id
  ·subst e;simp only[de,av]at c;subst c;obtain⟨O,Q,cells,D,R,W,S⟩:=h.di i _ hb
   have v:Holds G E s cells b:=by cases b<;>exact S
   have T:=(K cells v).move (ix.me G) g;unfold Uf;simp only[de];refine⟨O,Q,cells,D,R,by lia,?_⟩;cases b'<;>exact T
  simp only[ie _ _ _ _ e]at c;have k:=h.di i _ c;exact k.move (ix.me _) g rfl k.2.1 rfl (ie _ _ _ _ e)
 ·have un:∀i f,lu s.di id (aa b') i=aa f->∃b2,s.di i=aa b2:=by
   intro i f d;by_cases e:i=id
   ·subst e;exact⟨_,hb⟩
   rw[ie _ _ _ _ e]at d;exact⟨f,d⟩
  obtain⟨b2,o⟩:=un i f d;obtain⟨b3,q⟩:=un k C L;exact h.inj i k b2 b3 o q r
 obtain⟨F,o,ents,clock,q,H,z,I⟩:=h.mp i es d;exact⟨F,o,ents,clock,q,H,λi e x hx hy=>⟨(z i e x hx hy).1,j4.F2 (ix.me _) g (z i e x hx hy).2⟩,I⟩
theorem Holds.take{cells:Array Value}{sz j:Nat}{dv:List (List D)}(h:Holds G E s cells (.arr sz dv)):Holds G E s cells (.arr sz (dv.take j)):=by
 obtain⟨i,f,g⟩:=h;refine⟨?_,λq e b=>?_,λq e p x u b c d=>?_⟩
 ·have:(dv.take j).length*sz<=dv.length*sz:=ig _ (VN _ _);lia
 ·rw[ko]at b;split at b
  ·exact f q e b
  cases b
 rw[ko]at b;split at b
 ·exact g q e p x u b c d
 cases b
theorem Holds.a5x{cells:Array Value}{sz j:Nat}{dv:List (List C)}(h:Holds G E s cells (.ru sz dv)):Holds G E s cells (.ru sz (dv.take j)):=by
 obtain⟨i,f,g⟩:=h;refine⟨?_,λq e b=>?_,λq e p x u b c d=>?_⟩
 ·have:(dv.take j).length*sz<=dv.length*sz:=ig _ (VN _ _);lia
 ·rw[ko]at b;split at b
  ·exact f q e b
  cases b
 rw[ko]at b;split at b
 ·exact g q e p x u b c d
 cases b
theorem J9{t e:TypeId}{n:Nat}(d:P.underlying t=aa (.slice e))(g:lx P e=aa n){k f:IntKind}{j:Int}(c:0<=j){b:Option Addr}{len cap:Nat}(h:j.toNat<=cap):
  (As t (.slice b len cap) ae (aa (.int k j)) (aa (.int f j))).run P w= .ok (.slice (if j.toNat=0 then b else b.map (·.add 0)) j.toNat j.toNat) w:=by
 have hb:(se ah len cap ae (aa (.int k j)) (aa (.int f j))).run P w= .ok (0,j.toNat,j.toNat) w:=by
  unfold se;simp only[df,Ie c (show j<=(cap:Nat)by lia),br,Ie c (show j<=(j.toNat:Nat)by lia),fl]
 unfold As;simp only[df,underlying,run_program,br,d,fl];unfold aez;simp only[df,underlying,run_program,br,d,fl,hb,u6 g,JC,Wt]
theorem sR(h:jw B0 w0 nt G0 s G E a w){t e:TypeId}{n:Nat}{x j k:ov}{T R S:Value}(F:P.underlying t=aa (.slice e))(C:lx P e=aa n)
  (hx:j4 G E s (x.ev s) T)(O:j4 G E s (j.ev s) R)(Q:j4 G E s (k.ev s) S){d:Nat}{dst:Option Nat}{ids:List Nat}{N:my}(f:(lg.slice3 n x j k).qi d s=aa (ids,N)):
  tz P B0 nt w0 G0 a w dst (((As t T ae (aa R) (aa S)).run P w).andThen λv w=> .ok (.value v) w) (N.app dst (s.vz ids)):=by
 simp only[lg.qi]at f;split at f
 ·rename_i ka p kb q e2 V;rw[e2]at O;rw[V]at Q;cases O;cases Q;split at f
  ·rename_i K;obtain⟨rfl,u⟩:=K;generalize x.ev s=y at f hx
   cases y with
   |d z=>
    cases z with
    |gd sz l=>
     simp only[Ud]at f;split at f
     ·rename_i H;obtain⟨rfl,A⟩:=H;simp only[my.uk,av,db]at f;obtain⟨rfl,rfl⟩:=f
      cases hx with
      |Y3=>
       rw[J9 F C u (by simp at A;lia)]
       have m:p.toNat=0:=by simp at A;lia
       rw[m];simp only[ne_eq,not_true_eq_false,and_false,bp,reduceIte,My];exact tz.val h rfl iz.Y3
      | @bN _ a c=>
       rw[J9 F C u (by simp at A;lia)]
       have m:p.toNat=0:=by simp at A;lia
       rw[m];simp only[ne_eq,not_true_eq_false,and_false,bp,reduceIte,My];exact tz.val h rfl iz.bN
      | @gd _ _ b o c H hs k1 L=>
       rw[J9 F C u (by lia)];by_cases m:p.toNat=0/\l≠[]
       ·rw[bc m,m.1];exact tz.val h rfl iz.Pa
       rw[aq m]
       have hb:(if p.toNat=0 then(aa ⟨b,o,ae⟩:Option Addr)else(aa ⟨b,o,ae⟩:Option Addr).map (·.add 0))=aa ⟨b,o,ae⟩:=by
        split
        ·rfl
        simp only[jc,Fx,Ad]
       rw[hb];refine tz.val h rfl ?_
       have len:(l.take p.toNat).length=p.toNat:=by simp;lia
       have get:∀(i:Nat) (e:List D),(l.take p.toNat)[i]? =aa e->l[i]? =aa e:=by
        intro i e r;rw[ko]at r;split at r
        ·exact r
        cases r
       have:=iz.gd (G:=G) (sz:=sz) (l:=l.take p.toNat) (b:=b) (o:=o) (c:=p.toNat) (by rw[len];exact bm _) (λi e r=>hs i e (get i e r)) (λi q r Y=>k1 i q (by lia) Y) (λi e q x v r hx Z=>L i e q x v (get i e r) hx Z);rw[len]at this;exact this
     cases f
    |Pa=>
     simp only[Ud]at f;split at f
     ·rename_i m;simp only[my.uk,av,db]at f;obtain⟨rfl,rfl⟩:=f;cases hx;rename_i b o c;rw[J9 F C u (by lia),bc m,m];exact tz.val h rfl iz.Pa
     cases f
    |cj=>
     simp only[Ud]at f;split at f
     ·rename_i m;simp only[my.uk,av,db]at f;obtain⟨rfl,rfl⟩:=f;cases hx;rw[J9 F C u (by lia),bc m,m];exact tz.val h rfl iz.cj
     cases f
    |_=>cases f
   |ref id ba n0=>
    simp only[Ud]at f;split at f
    ·rename_i sz dv I;split at f
     ·rename_i H;obtain⟨rfl,A,U⟩:=H;simp only[av,db]at f;obtain⟨rfl,rfl⟩:=f;obtain⟨v1,M⟩:=zn I;obtain⟨_,L⟩:=hx.2 v1 _ _ (yf M);obtain⟨cap,c1,c2,rfl⟩:=L A;rw[J9 F C u (by lia)];obtain⟨_,_,_,kZ,_,_⟩:=h.zp M
      have J:p.toNat*sz<=E.n id:=by rw[c1];exact ig _ (by lia)
      have X:=h.a0b (b':= .arr sz (dv.take p.toNat)) (j:=p.toNat) M rfl (by simp[B.Ei];lia) J (λ_ q=>q.take);refine⟨_,_,w,G,_,_,.ref id (s.ba id+1) p.toNat,rfl,.inl rfl,X,?_,rfl⟩
      have W:(if p.toNat=0 then aa (⟨E.b id,0,ae⟩:Addr)else(aa (⟨E.b id,0,ae⟩:Addr)).map (·.add 0))=aa ⟨E.b id,0,ae⟩:=by
       split
       ·rfl
       simp[Fx]
      rw[W];have:=C4 (G':=G) (s':={s with di:=lu s.di id (aa (.arr sz (dv.take p.toNat))),ba:=lu s.ba id (s.ba id+1)}) (E':={E with n:=lu E.n id (p.toNat*sz)}) (id:=id) (sz:=sz) (n:=p.toNat) (len:=p.toNat) (cap:=p.toNat) (g:=E.b id) (de _ _ _) (by simp[B.Ei];lia) rfl (de _ _ _) rfl (bm _);simpa[de]using this
     cases f
    cases f
   |_=>cases f
  cases f
 cases f
end
end Go.PI
namespace Go.PI
open Go Go.RowKit
section
variable{P:Program}{B0 nt:Nat}{w0 w w':World}{G0 G G':ix}{s s':PS}{E E':Env}{a:Act}
theorem sQ(h:jw B0 w0 nt G0 s G E a w){t e:TypeId}{n:Nat}{x j:ov}{F D:Value}(z:P.underlying t=aa (.slice e))(M:lx P e=aa n)
  (hx:j4 G E s (x.ev s) F)(l:j4 G E s (j.ev s) D){d:Nat}{dst:Option Nat}{ids:List Nat}{u:my}(c:(lg.P9 n x j).qi d s=aa (ids,u)):
  tz P B0 nt w0 G0 a w dst (((As t F ae (aa D) ae).run P w).andThen λv w=> .ok (.value v) w) (u.app dst (s.vz ids)):=by
 have key:∀(b:Option Addr) (len cap:Nat) (k:IntKind) (p:Int),0<=p->p<=cap->(As t (.slice b len cap) ae (aa (.int k p)) ae).run P w= .ok (.slice (if cap=0 then b else b.map (·.add 0)) p.toNat cap) w:=by
  intro b len cap k p o y
  have hb:(se ah len cap ae (aa (.int k p)) ae).run P w= .ok (0,p.toNat,cap) w:=by
   unfold se;simp only[df,Ie o (show p<=(cap:Nat)by lia),br,fl]
  unfold As;simp only[df,underlying,run_program,br,z,fl];unfold aez;simp only[df,underlying,run_program,br,z,fl,hb,u6 M,JC,Wt]
 simp only[lg.qi]at c;split at c
 ·rename_i id ba m A k i f;rw[i]at hx;rw[f]at l;cases l;split at c
  ·rename_i sz dv r;split at c
   ·rename_i y;simp only[av,db]at c;obtain⟨rfl,rfl⟩:=c;obtain⟨rfl,L,o,K⟩:=y;obtain⟨O,C⟩:=zn r;obtain⟨_,N⟩:=hx.2 O _ _ (yf C);obtain⟨cap,c1,Q,rfl⟩:=N L;rw[key _ _ _ _ _ o (by lia)];have I:=h.a0b (b':= .arr sz (dv.take k.toNat)) (j:=k.toNat) (m:=E.n id) C rfl (by simp[B.Ei];lia) (bm _) (λ_ q=>q.take);refine⟨_,_,w,G,_,_,.ref id (s.ba id+1) k.toNat,rfl,.inl rfl,I,?_,rfl⟩
    have H:(if cap=0 then aa (⟨E.b id,0,ae⟩:Addr)else(aa (⟨E.b id,0,ae⟩:Addr)).map (·.add 0))=aa ⟨E.b id,0,ae⟩:=by
     split
     ·rfl
     simp[Fx]
    rw[H];have:=C4 (G':=G) (s':={s with di:=lu s.di id (aa (.arr sz (dv.take k.toNat))),ba:=lu s.ba id (s.ba id+1)}) (E':={E with n:=lu E.n id (E.n id)}) (id:=id) (sz:=sz) (n:=k.toNat) (len:=k.toNat) (cap:=cap) (g:=E.b id) (de _ _ _) (by simp[B.Ei];lia) rfl (by simp only[de];exact c1) rfl (by lia);simpa[de]using this
   cases c
  cases c
 ·rename_i A k i f;rw[i]at hx;rw[f]at l;cases l;cases hx;split at c
  ·rename_i J;simp only[my.uk,av,db]at c;obtain⟨rfl,rfl⟩:=c;subst J;rw[key ae 0 0 A 0 (by lia) (by lia)];exact tz.val h rfl iz.cj
  cases c
 cases c
theorem wA{t u e ty:TypeId}{i:TypeInfo}{z:Value}{K k:IntKind}(H:P.underlying t=aa (.slice e))(I:P.underlying u=aa (.int K))(D:P.info? e=aa i)(hz:i.zero=aa z){args:Array Value}{b:Array TypeId}
  {n:Int}(l:args[0]? =aa (.slice ae 0 0))(m:args[1]? =aa (.int k n))(y:b[0]? =aa t)(A:b[1]? =aa u)(M:0<n)(hs:0<i.size)
  (hb:n*i.bytes<=2^47)(C:0<i.bytes):
  (A9 b ty args).run P w= .ok (.slice (aa ⟨w.heap.size,0,ae⟩) n.toNat (grownCap w n.toNat 0 e))
   (w.drew.alloc (.cells (mb z.cells n.toNat++mb z.cells (grownCap w n.toNat 0 e-n.toNat)) e)):=by
 have F:n<=2^47:=by
  have:n*1<=n*i.bytes:=Q8 (by lia) (by lia);lia
 have J:aj.wrap n=n:=dr n (by lia) (by lia)
 have q:¬(n<0):=by lia
 have j:¬(2^48<n*(i.bytes:Int)):=by lia
 have g:¬(281474976710656<n*(i.bytes:Int)):=by lia
 have p:¬(n.toNat*i.size=0):=by
  intro h;rcases ad9.1 h with h|h<;>lia
 have N:¬(0+n.toNat<=0):=by lia
 have c:¬(9223372036854775807<((0+n.toNat:Nat):Int)):=by lia
 have B:n.toNat*i.bytes<=2^47:=by
  have:((n.toNat*i.bytes:Nat):Int)=n*i.bytes:=by rw[Int.natCast_mul,Int.toNat_of_nonneg (by lia)]
  lia
 have d:¬(281474976710656<adm n.toNat 0*i.bytes):=by
  have:=growslice_fits (need:=n.toNat) (old:=0) (bytes:=i.bytes) (by lia) (by lia);lia
 have e2:n.toNat≠0:=by lia
 have v:i.size≠0:=by lia
 have L:∀w,(mh i.size 0 (.slice ae 0 0)).run P w= .ok ([]:List Value).toArray w:=λw=>run_firstCells_none w i.size 0 0 0;have r:∀w,(asInt (.int k n)).run P w= .ok n w:=λ_=>rfl
 have x:(max n 0:Int)=n:=by lia
 have f:¬(9223372036854775807<n):=by lia
 have o:¬(n<=0):=by lia
 unfold A9;rw[l,m,y,A];simp[run_underlying H,run_underlying I,sizeOf,typeInfo,zeroValue,D,hz,r,J,q,j,g,e2,v,c,d,f,x,o,Question.forced,L,newRow,grownCap];exact λh=>absurd h p
theorem GJ(h:jw B0 w0 nt G0 s G E a w){t u e ty:TypeId}{i:TypeInfo}{z:Value}{ik:IntKind}{o:List D}(ht:P.underlying t=aa (.slice e))(f:P.underlying u=aa (.int ik))(U:P.info? e=aa i)(hz:i.zero=aa z)
  (Q:H0 P e=aa o)(R:o.length=i.size)(Z:0<i.size)(K:0<i.bytes){args:Array Value}{H:Array TypeId}{x y:ov}{X Y:Value}(I:args[0]? =aa X)(J:args[1]? =aa Y)(h0:H[0]? =aa t)(h1:H[1]? =aa u)
  (hx:j4 G E s (x.ev s) X)(hy:j4 G E s (y.ev s) Y){d:Nat}{dst:Option Nat}{ids:List Nat}{T:my}(l:(lg.iG i.size i.bytes o x y).qi d s=aa (ids,T)):
  tz P B0 nt w0 G0 a w dst (((A9 H ty args).run P w).andThen λv w=> .ok (.value v) w) (T.app dst (s.vz ids)):=by
 simp only[lg.qi]at l;split at l
 ·rename_i k n N O;rw[N]at hx;rw[O]at hy;cases hx;cases hy;split at l
  ·rename_i hc;obtain⟨hn,hb⟩:=hc;simp only[av,db]at l;obtain⟨rfl,rfl⟩:=l;rw[wA (ty:=ty) ht f U hz I J h0 h1 hn Z hb K];obtain⟨p,F,_,C⟩:=Gz (P:=P) Q h
   have S:p=z:=by
    rw[U]at F;simpa[hz]using F.symm
   subst S
   have A:p.cells.size=i.size:=by have:=C.1;simp at this;lia
   have Vj:Holds G E s (mb p.cells n.toNat++mb p.cells (grownCap w n.toNat 0 e-n.toNat)) (.arr i.size (jq n.toNat o)):=by
    refine⟨by simp[size_zeroCells,A,kj],λq r c=>?_,λq r j x u c V f=>?_⟩
    ·rw[S6]at c;split at c
     ·injection c with c;subst c;exact R
     cases c
    rw[S6]at c;split at c
    ·rename_i M
     injection c with c;subst c
     have m:j<i.size:=by have:=(bd.1 V).1;lia
     have W:=dA M m;rw[Io,bc (by rw[size_zeroCells,A];exact W)]at f;unfold mb at f;rw[A]at f;simp only[Yx,VR,W,da,jc,av]at f
     have em:(q*i.size+j)%i.size=j:=by rw[aeo,Nat.mul_add_mod];exact zz m
     rw[em]at f;refine C.2 j (.d x) u (by rw[dn,V];rfl) ?_;rw[<-f,getElem!_pos _ _ (by rw[A];exact m)];exact bz _
    cases c
   have hf:=h.drew.new d (.arr i.size (jq n.toNat o)) _ e Vj;have L:=grownCap_ge w n.toNat 0 e;refine⟨_,_,_,G,_,_,.ref d (s.ba d+1) n.toNat,rfl,.inl rfl,hf,?_,rfl⟩;have:=C4 (G':=G) (s':={s with di:=lu s.di d (aa (.arr i.size (jq n.toNat o))),ba:=lu s.ba d (s.ba d+1)})
    (E':={E with b:=lu E.b d w.drew.heap.size,n:=lu E.n d (mb p.cells n.toNat++mb p.cells (grownCap w n.toNat 0 e-n.toNat)).size}) (id:=d) (sz:=i.size) (n:=n.toNat) (len:=n.toNat) (cap:=grownCap w n.toNat 0 e) (g:=w.heap.size)
    (de _ _ _) (by simp[B.Ei]) (de _ _ _) (by
     show lu E.n d _ d=_;rw[de];simp only[Xw,size_zeroCells,A];rw[<-kj]
     congr 1
     lia) rfl L
   have hv:lu s.ba d (s.ba d+1) d=s.ba d+1:=de _ _ _;simpa[hv]using this
  cases l
 cases l
theorem FY(h:jw B0 w0 nt G0 s G E a w){t e ty:TypeId}{x:ov}{v:Value}{args:Array Value}{g:Array TypeId}(j:args[0]? =aa v)(c:g[0]? =aa t)(k:P.underlying t=aa (.slice e))
  (hx:j4 G E s (x.ev s) v){d:Nat}{ids:List Nat}{i:my}(b:(lg.vQ x).qi d s=aa (ids,i)):
  ∃u y,(Builtin.cap_ g ty args).run P w= .ok u w/\ids=[]/\i= .val y/\j4 G E s y u:=by
 simp only[lg.qi]at b;split at b
 ·rename_i f;rw[f]at hx;cases hx;simp only[my.uk,av,db]at b;obtain⟨rfl,rfl⟩:=b;refine⟨.int aj 0,.d (.int aj 0),?_,rfl,rfl,.int⟩;unfold Builtin.cap_;rw[j,c];simp[underlying,k,goInt]
 cases b
theorem GI(h:jw B0 w0 nt G0 s G E a w){t e:TypeId}{len n:Nat}{x:ov}{v:Value}(l:P.underlying t=aa (.array len e))(k:lx P e=aa n)(hx:j4 G E s (x.ev s) v)
  {d:Nat}{ids:List Nat}{g:my}(c:(lg.vY len n x).qi d s=aa (ids,g)):
  ∃u y,(As t v ae ae ae).run P w= .ok u w/\ids=[]/\g= .val y/\j4 G E s y u:=by
 simp only[lg.qi]at c;split at c
 ·rename_i id ba f;rw[f]at hx;split at c
  ·rename_i cs i;split at c
   ·simp only[my.uk,av,db]at c;obtain⟨rfl,rfl⟩:=c;obtain⟨j,e2⟩:=xl i;have:=hx.2 j ⟨_,e2,rfl⟩;subst this;refine⟨.slice (aa ⟨E.b id,0,ae⟩) len len,.Lm id ba len n,?_,rfl,rfl,hx.1,λ_ _=>rfl⟩
    have hb:(se ag len len ae ae ae).run P w= .ok (0,len,len) w:=by
     unfold se;simp[df]
    unfold As;simp only[df,underlying,run_program,br,l,fl,Au,hb,u6 k,JC,Wt,Fx,Ad,ite_self]
   cases c
  cases c
 cases c
theorem FQ(h:jw B0 w0 nt G0 s G E a w){t e:TypeId}{n:Nat}{x j k:ov}{z r v:Value}(I:P.underlying t=aa (.slice e))(H:lx P e=aa n)
  (hx:j4 G E s (x.ev s) z)(i:j4 G E s (j.ev s) r)(l:j4 G E s (k.ev s) v){d:Nat}{ids:List Nat}{g:my}(b:(lg.Iz n x j k).qi d s=aa (ids,g)):
  ∃u y,(As t z ae (aa r) (aa v)).run P w= .ok u w/\ids=[]/\g= .val y/\j4 G E s y u:=by
 simp only[lg.qi]at b;split at b
 ·rename_i id ba m N p O q B e2 C;rw[B]at hx;rw[e2]at i;rw[C]at l;cases i;cases l;split at b
  ·rename_i F;obtain⟨rfl,D,L,f⟩:=F;simp only[my.uk,av,db]at b;obtain⟨rfl,rfl⟩:=b;obtain⟨K,o⟩:=Hq f;obtain⟨M,J⟩:=hx.2 K _ _ o;obtain⟨cap,c1,A,rfl⟩:=J rfl;refine⟨_,.Iz id ba m p.toNat,J9 I H D (by lia),rfl,rfl,by lia,hx.1,λe sz m' c=>?_⟩;rw[o]at c;simp only[av,db]at c;obtain⟨rfl,rfl⟩:=c;refine⟨bm _,λ_=>⟨⟨cap,c1,A⟩,?_⟩⟩;split
   ·rfl
   simp[Fx]
  cases b
 cases b
theorem QX{lo:Option ov}{d:Option Value}(e:(lo=ae/\d=ae)\/∃o v,lo=aa o/\d=aa v/\j4 G E s (o.ev s) v){f:Option Nat}(b:Wx s lo=aa f):
  (d=ae/\f=ae)\/∃v i,d=aa v/\f=aa i/\∀(y:Nat) (c:BoundsCode) (w:World),i<=y->(Xv v y c).run P w= .ok i w:=by
 rcases e with ⟨rfl,rfl⟩|⟨o,v,rfl,rfl,g⟩
 ·simp only[Wx,av]at b;exact .inl ⟨rfl,b.symm⟩
 simp only[Wx]at b;split at b
 ·rename_i k q j;rw[j]at g;cases g;split at b
  ·rename_i h;simp only[av]at b;exact .inr ⟨_,_,rfl,b.symm,λy c w hy=>Ie h (by lia) c w⟩
  cases b
 cases b
theorem yG{lo:Option ov}{d:Option Value}{n:Nat}(e:(lo=ae/\d=ae)\/∃o v,lo=aa o/\d=aa v/\j4 G E s (o.ev s) v){j:Nat}(b:Sk s n lo=aa j):
  (lo=ae/\d=ae/\j=n)\/∃v,lo≠ae/\d=aa v/\∀(y:Nat) (c:BoundsCode) (w:World),j<=y->(Xv v y c).run P w= .ok j w:=by
 rcases e with ⟨rfl,rfl⟩|⟨o,v,rfl,rfl,f⟩
 ·simp only[Sk,av]at b;exact .inl ⟨rfl,rfl,b.symm⟩
 simp only[Sk]at b;split at b
 ·rename_i k q h;rw[h]at f;cases f;split at b
  ·rename_i g;simp only[av]at b;subst b;exact .inr ⟨_,by simp,rfl,λy c w hy=>Ie g (by lia) c w⟩
  cases b
 cases b
theorem wN{t e:TypeId}{n:Nat}(N:P.underlying t=aa (.slice e))(X:lx P e=aa n){id ba m l C cap:Nat}(Y:s.ba id=ba)(T:s.Ei id=aa (n,m))(R:E.n id=C*n)(q:m<=cap)(Z:cap<=C)(h3:l<=m)(Q:0<m)
  {lo H mx:Option ov}{h g p:Option Value}(I:(lo=ae/\h=ae)\/∃o v,lo=aa o/\h=aa v/\j4 G E s (o.ev s) v)(F:(H=ae/\g=ae)\/∃o v,H=aa o/\g=aa v/\j4 G E s (o.ev s) v)
  (J:(mx=ae/\p=ae)\/∃o v,mx=aa o/\p=aa v/\j4 G E s (o.ev s) v){y:V}(z:mJ s id ba m l lo H mx=aa y):
  ∃u,(As t (.slice (aa ⟨E.b id,0,ae⟩) l cap) h g p).run P w= .ok u w/\j4 G E s y u:=by
 unfold mJ at z;split at z
 ·rename_i O j k q1 q2 q3;split at z
  ·rename_i S;obtain⟨c1,L,rfl,M⟩:=S;simp only[av]at z;subst z
   have hb:∃d,k<=d/\d<=cap/\(se ah l cap h g p).run P w= .ok (O.getD 0,j,d) w:=by
    rcases QX (P:=P) I q1 with ⟨rfl,rfl⟩|⟨v,i,rfl,rfl,K⟩<;>rcases yG (P:=P) J q3 with ⟨rfl,rfl,_⟩|⟨vm,B,rfl,D⟩<;>rcases yG (P:=P) F q2 with ⟨x,rfl,A⟩|⟨vh,x,rfl,f⟩
    ·exact⟨cap,q,bm _,by unfold se;simp[df,A]⟩
    ·exact⟨cap,q,bm _,by unfold se;simp[df,f cap _ w (by lia)]⟩
    ·exact absurd (M x) B
    ·exact⟨k,bm _,q,by unfold se;simp[df,D cap _ w q,f k _ w L]⟩
    ·exact⟨cap,q,bm _,by unfold se;simp only[jj]at c1;simp[df,K l _ w (by lia),A]⟩
    ·exact⟨cap,q,bm _,by unfold se;simp only[jj]at c1;simp[df,f cap _ w (by lia),K j _ w c1]⟩
    ·exact absurd (M x) B
    exact⟨k,bm _,q,by unfold se;simp only[jj]at c1;simp[df,D cap _ w q,f k _ w L,K j _ w c1]⟩
   obtain⟨d,U,W,hb⟩:=hb
   generalize O.getD 0=i at*
   refine⟨.slice (if d=i then aa ⟨E.b id,0,ae⟩else aa ⟨E.b id,i*n,ae⟩) (j-i) (d-i),?_,⟨by lia,Q⟩,ae1 Y.symm,λ_ sz m' r=>?_⟩
   ·unfold As;simp only[df,underlying,run_program,br,N,fl];unfold aez;simp only[df,underlying,run_program,br,N,fl,hb,u6 X,jc,Fx,gj]
   rw[T]at r;simp only[av,db]at r;obtain⟨rfl,rfl⟩:=r;refine⟨bm _,λ_=>⟨C,d-i,if d=i then 0 else i*n,R,by lia,by lia,by lia,?_,?_⟩⟩
   ·by_cases c:d=i
    ·exact .inl (by lia)
    exact .inr (by rw[aq c])
   by_cases c:d=i
   ·rw[bc c,bc c]
   rw[aq c,aq c]
  cases z
 cases z
theorem BV(h:jw B0 w0 nt G0 s G E a w){t e:TypeId}{n:Nat}{x:ov}{N:Value}(M:P.underlying t=aa (.slice e))(L:lx P e=aa n)(hx:j4 G E s (x.ev s) N)
  {lo F mx:Option ov}{i g j:Option Value}(p:(lo=ae/\i=ae)\/∃o v,lo=aa o/\i=aa v/\j4 G E s (o.ev s) v)(k:(F=ae/\g=ae)\/∃o v,F=aa o/\g=aa v/\j4 G E s (o.ev s) v)
  (q:(mx=ae/\j=ae)\/∃o v,mx=aa o/\j=aa v/\j4 G E s (o.ev s) v){d:Nat}{ids:List Nat}{K:my}(b:(lg.Ot n x lo F mx).qi d s=aa (ids,K)):
  ∃u y,(As t N i g j).run P w= .ok u w/\ids=[]/\K= .val y/\j4 G E s y u:=by
 simp only[lg.qi]at b;split at b
 ·rename_i id ba m f;rw[f]at hx;split at b
  ·rename_i D;simp only[ax,my.uk,db]at b;obtain⟨y,hy,rfl,rfl⟩:=b;obtain⟨B,c⟩:=D;obtain⟨r,z⟩:=Hq c;obtain⟨_,J⟩:=hx.2 r _ _ z;obtain⟨cap,c1,A,rfl⟩:=J rfl;obtain⟨u,H,I⟩:=wN (P:=P) (w:=w) M L r z c1 A (bm _) (bm _) B p k q hy;exact⟨u,y,H,rfl,rfl,I⟩
  cases b
 ·rename_i id ba m o l f;rw[f]at hx;split at b
  ·rename_i D;simp only[ax,my.uk,db]at b;obtain⟨y,hy,rfl,rfl⟩:=b;obtain⟨rfl,c⟩:=D;obtain⟨r,z⟩:=Hq c;obtain⟨⟨n1,n2⟩,_,R⟩:=hx;obtain⟨_,J⟩:=R r _ _ z;obtain⟨C,cap,off,c1,A,c3,T,Q,rfl⟩:=J rfl
   have S:cap≠0:=λB=>by rw[B]at A;exact afg.2 A (by rw[Ad];exact n2)
   have O:off=0:=by rw[Q.resolve_left S,JC]
   subst O;obtain⟨u,H,I⟩:=wN (P:=P) (w:=w) (cap:=cap) M L r z c1 (by lia) (by lia) (by lia) n2 p k q hy;exact⟨u,y,H,rfl,rfl,I⟩
  cases b
 cases b
theorem jC(h:jw B0 w0 nt G0 s G E a w){x:ov}{r:Value}(hx:j4 G E s (x.ev s) r){d:Nat}{dst:Option Nat}{ids:List Nat}{m:my}(c:(lg.trim x).qi d s=aa (ids,m)):
  tz P B0 nt w0 G0 a w dst (.ok (.value r) w) (m.app dst (s.vz ids)):=by
 simp only[lg.qi]at c;split at c
 ·rename_i id ba n o l i;rw[i]at hx;split at c
  ·rename_i sz dv e;split at c
   ·rename_i y;simp only[av,db]at c;obtain⟨rfl,rfl⟩:=c;obtain⟨rfl,rfl⟩:=y;obtain⟨F,p⟩:=zn e;obtain⟨⟨n1,n2⟩,_,A⟩:=hx;obtain⟨_,D⟩:=A F _ _ (yf p);obtain⟨C,cap,off,c1,k,c3,I,u,rfl⟩:=D rfl
    have H:cap≠0:=λv=>by rw[v]at k;exact afg.2 k (by rw[Ad];exact n2)
    have t:off=0:=by rw[u.resolve_left H,JC]
    subst t
    have f:cap*sz<=E.n id:=by rw[c1];exact ig _ (by lia)
    have J:(dv.take l).length=l:=by simp;lia
    have z:=h.a0b (b':= .arr sz (dv.take l)) (j:=l) p rfl (by simp[B.Ei];lia) f (λ_ q=>q.take);refine⟨_,_,w,G,_,_,.ref id (s.ba id+1) l,rfl,.inl rfl,z,?_,rfl⟩;have:=C4 (G':=G) (s':={s with di:=lu s.di id (aa (.arr sz (dv.take l))),ba:=lu s.ba id (s.ba id+1)}) (E':={E with n:=lu E.n id (cap*sz)}) (id:=id) (sz:=sz) (n:=l) (len:=l) (cap:=cap) (g:=E.b id) (de _ _ _) (by simp[B.Ei];lia) (by simp[de]) (by simp[de]) rfl (by lia);simpa[de]using this
   cases c
  cases c
 cases c
theorem BU{l:Value}{sz n:Nat}{k:List D}(f:l.cells.size=sz)(i:k.length=sz)(h:P6 G E s (k.map .d) l.cells):Holds G E s (mb l.cells n) (.arr sz (jq n k)):=by
 refine⟨by simp[size_zeroCells,f],λq r b=>?_,λq r j x u b m e=>?_⟩
 ·rw[S6]at b;split at b
  ·injection b with b;subst b;exact i
  cases b
 rw[S6]at b;split at b
 ·rename_i g
  injection b with b;subst b
  have c:j<sz:=by have:=(bd.1 m).1;lia
  have p:=dA g c;unfold mb at e;rw[f]at e;simp only[Yx,VR,p,da,jc,av]at e
  have o:(q*sz+j)%sz=j:=by rw[aeo,Nat.mul_add_mod];exact zz c
  rw[o]at e;refine h.2 j (.d x) u (by rw[dn,m];rfl) ?_;rw[<-e,getElem!_pos _ _ (by rw[f];exact c)];exact bz _
 cases b
theorem JM{f:Value}{sz n:Nat}{b:List D}(g:f.cells.size=sz)(q:b.length=sz)(i:P6 G E s (b.map .d) f.cells)(o:b.all D.one=ah):∀v∈(mb f.cells n).toList,v.oneCell'=true:=by
 intro v p;obtain⟨k,m,rfl⟩:=j0.1 p
 have c:k<n*sz:=by simpa[size_zeroCells,g]using m
 have l:0<sz:=by
  rcases nR sz with h|h
  ·rw[h]at c;simp at c
  exact h
 have j:k%sz<sz:=Ht _ l
 have e:(mb f.cells n).toList[k]=f.cells[k%sz]'(by rw[g];exact j):=by
  simp only[mb,sL,Array.getElem_map,Array.getElem_range,g];exact getElem!_pos _ _ _
 rw[e];have hx:b[k%sz]? =aa (b[k%sz]'(by lia)):=bh _;have:=i.2 (k%sz) (.d (b[k%sz]'(by lia))) _ (by rw[dn,hx];rfl) (bz (by rw[g];exact j));exact iz.yI this (dg.1 o _ (dj _))
theorem NP(h:jw B0 w0 nt G0 s G E a w){t e ty:TypeId}{i:TypeInfo}{z:Value}{f:List D}(ht:P.underlying t=aa (.slice e))(hi:P.info? e=aa i)(hz:i.zero=aa z)(j:z.cells.size=i.size)
  (Q:H0 P e=aa f)(A:f.length=i.size){args:Array Value}{F:Array TypeId}{x:ov}{vx:Value}(r:args[0]? =aa vx)(V:F[0]? =aa t)(hx:j4 G E s (x.ev s) vx)
  {d:Nat}{dst:Option Nat}{ids:List Nat}{U:my}(c:(lg.clr f x).qi d s=aa (ids,U)):
  tz P B0 nt w0 G0 a w dst (((a5q F ty args).run P w).andThen λv w=> .ok (.value v) w) (U.app dst (s.vz ids)):=by
 simp only[lg.qi]at c;split at c
 ·rename_i id ba n o l O;rw[O]at hx;split at c
  ·rename_i sz dv M;split at c
   ·rename_i hc;simp only[av,db]at c;obtain⟨rfl,rfl⟩:=c;obtain⟨rfl,a0,yr⟩:=hc
    obtain rfl:sz=i.size:=by lia
    obtain⟨v1,H⟩:=zn M;obtain⟨⟨n1,n2⟩,_,k1⟩:=hx;obtain⟨_,k2⟩:=k1 v1 _ _ (yf H);obtain⟨C,cap,off,c1,c2,c3,T,c5,rfl⟩:=k2 rfl;obtain⟨m,B,R,y⟩:=Gz (P:=P) Q h
    have I:m=z:=by
     rw[hi]at B;simpa[hz]using B.symm
    subst I;obtain⟨cells,et,X,hn,u,hw⟩:=h.zp H;have J:=u.1;rcases nR l with g|g
    ·subst g
     have e1:dv.take o++jq 0 f++dv.drop (o+0)=dv:=by simp
     have e2:lu s.di id (aa (.arr i.size dv))=s.di:=by
      funext k
      by_cases Y:k=id
      ·subst Y;rw[de,H]
      rw[ie _ _ _ _ Y]
     have N:(a5q F ty args).run P w= .ok (.tuple #[]) w:=by
      unfold a5q;rw[r,V];simp[run_underlying ht]
     rw[N,e1];refine⟨_,.tuple #[],w,G,E,s,.no,rfl,.inl rfl,h,trivial,?_⟩;simp only[my.app,PS.vz,e2]
    have Yg:off=o*i.size:=c5.resolve_left (λq=>absurd g (by rw[q]at T;exact afg.2 T));subst Yg
    have p:(mb m.cells l).toList.length=l*i.size:=by simp[size_zeroCells,j]
    have S:o*i.size+(mb m.cells l).toList.length<=cells.size:=by
     rw[p,<-kj];exact jg (ig _ n1) J
    have xv:=run_storeCells_at P (E.b id) (o*i.size) et (mb m.cells l).toList 0 cells w X (by simpa using S) (JM j A y yr);simp only[Ad]at xv
    have N:(a5q F ty args).run P w= .ok (.tuple #[]) (w.setRow (E.b id) (cells.toList.take (o*i.size)++(mb m.cells l).toList++cells.toList.drop (o*i.size+(mb m.cells l).toList.length)).toArray):=by
     unfold a5q;rw[r,V];obtain⟨l',rfl⟩:∃l',l=l'+1:=⟨l-1,by lia⟩;simp[run_underlying ht,R,xv]
    have L:=u.OW (k:=o) (ys:=jq l f) (news:=(mb m.cells l).toList) (by simpa using n1) (by rw[p];simp) (by simpa using BU (n:=l) j A y)
    have Z:(dv.take o++jq l f++dv.drop (o+(jq l f).length)).length=dv.length:=by simp;lia
    have K:Alike (.arr i.size dv) (.arr i.size (dv.take o++jq l f++dv.drop (o+(jq l f).length))):=Alike.arr (by lia);have W:=h.set H K (Bh.setRow X _) (by simp only[Xr,dz,ey,A0,x9];simp only[x9]at S;lia) L;rw[N];simp only[ad2]at W;exact⟨_,.tuple #[],_,G,E,_,.no,rfl,.inl rfl,W,trivial,rfl⟩
   cases c
  cases c
 cases c
end
end Go.PI
