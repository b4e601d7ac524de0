/- A part of the proof for HistoryParams: Rw4. Printed from longer texts. -/
import Derived.Test.YtjhmidapljifbaaGreatDoorG
set_option linter.all false
set_option maxHeartbeats 64000000
open Go.Lib renaming TabIs→auv,pow10Tab→a3i
open Go.Value renaming int→aL5
open List renaming getElem?_eq_some_iff→aw,getElem?_map→cw,length_cons→ca,length_map→ag,length_nil→ed
open Option renaming bind_some→Of,isSome_iff_exists→jx
namespace Go.PI
open Go Go.Proofs Go.RowKit
theorem a3s{G:fy}{w:World}(hG:GOk G w){sz:Nat}{l:List (List D)}{v:Value}(h:gj G (.ft sz l) v):
  ∃p c,v= .slice p l.length c∧∀(i:Nat) (e:List D) (j:Nat) (d:D),l[i]? =some e→e[j]? =some d→∃b o u,p=some ⟨b,o,none⟩∧b<w.heap.size∧w.cell? ⟨b,o+i*sz+j,none⟩=some u∧gj G d u:=by
 cases h with
 | @ft _ _ b o c hc hs h1 h2=>
  refine⟨_,c,rfl,fun i e j d hi hj=>?_⟩;have hil:=(aw.1 hi).1;have hjl:=(aw.1 hj).1;rw[hs i e hi]at hjl;obtain⟨u,hu⟩:=jx.1 (h1 i j hil hjl);exact⟨b,o,u,rfl,hG.lt hu,hG.cv _ _ _ hu,h2 i e j d u hi hj hu⟩
 |V6=>exact⟨none,0,rfl,fun i e j d hi=>by simp at hi⟩
 | @Xg _ a c=>exact⟨some a,c,rfl,fun i e j d hi=>by simp at hi⟩
theorem a9s{G:fy}{w:World}(hG:GOk G w){l:List Int}{v:Value}(h:gj G (.ft 1 (l.map ve)) v):
  ∃p c,v= .slice p l.length c∧∀(i:Nat) (x:Int),l[i]? =some x→∃b o,p=some ⟨b,o,none⟩∧b<w.heap.size∧w.cell? ⟨b,o+i,none⟩=some (.int .i64 x):=by
 obtain⟨p,c,rfl,k⟩:=a3s hG h;refine⟨p,c,by rw[ag],fun i x hi=>?_⟩;obtain⟨b,o,u,h1,h2,h3,h4⟩:=k i (ve x) 0 (.int .i64 x) (by rw[cw,hi];rfl) rfl;cases h4;exact⟨b,o,h1,h2,by simpa using h3⟩
theorem aid{G:fy}{w:World}(hG:GOk G w){ls:List (List Sp)}{v:Value}(h:gj G (lj ls) v):
  ∃p c,∃iv:Nat→Option Addr×Nat,v= .slice p ls.length c∧(∀(i:Nat) (l:List Sp),ls[i]? =some l→∃b o,p=some ⟨b,o,none⟩∧b<w.heap.size∧w.cell? ⟨b,o+i,none⟩=some (.slice (iv i).1 l.length (iv i).2))∧
   (∀(i:Nat) (l:List Sp) (j:Nat) (s:Sp),ls[i]? =some l→l[j]? =some s→∃b o,(iv i).1=some ⟨b,o,none⟩∧b<w.heap.size∧
  w.cell? ⟨b,o+j*2,none⟩=some (.int .i64 s.1)∧w.cell? ⟨b,o+j*2+1,none⟩=some (.int .i64 s.2)):=by
 obtain⟨p,c,rfl,k⟩:=a3s hG h
 have key:∀i:Nat,∃pc:Option Addr×Nat,∀l,ls[i]? =some l→(∃b o,p=some ⟨b,o,none⟩∧b<w.heap.size∧w.cell? ⟨b,o+i,none⟩=some (.slice pc.1 l.length pc.2))∧
   ∀(j:Nat) (s:Sp),l[j]? =some s→∃b o,pc.1=some ⟨b,o,none⟩∧b<w.heap.size∧w.cell? ⟨b,o+j*2,none⟩=some (.int .i64 s.1)∧w.cell? ⟨b,o+j*2+1,none⟩=some (.int .i64 s.2):=by
  intro i
  cases hi:ls[i]? with
  |none=>exact⟨(none,0),fun l h=>by cases h⟩
  |some l=>
   obtain⟨b,o,u,h1,h2,h3,h4⟩:=k i [vz l] 0 (vz l) (by rw[cw,hi];rfl) rfl;obtain⟨p',c',rfl,k'⟩:=a3s hG h4;refine⟨(p',c'),fun l' h=>?_⟩;cases h;refine⟨⟨b,o,h1,h2,by simpa using h3⟩,fun j s hj=>?_⟩;obtain⟨b1,o1,u1,e1,e2,e3,e4⟩:=k' j (Bs s) 0 (.int .i64 s.1) (by rw[cw,hj];rfl) rfl;obtain⟨b2,o2,u2,f1,f2,f3,f4⟩:=k' j (Bs s) 1 (.int .i64 s.2) (by rw[cw,hj];rfl) rfl;rw[e1]at f1;cases f1;cases e4;cases f4;exact⟨b1,o1,e1,e2,by simpa using e3,f3⟩
 obtain⟨iv,hiv⟩:=Classical.axiomOfChoice key;exact⟨p,c,iv,by rw[ag],fun i l hi=>(hiv i l hi).1,fun i l j s hi hj=>(hiv i l hi).2 j s hj⟩
def ar6:Value:= .agg #[.pointer (some ⟨3,0,none⟩),.agg (a3i.map fun z=>aL5 .u64 z).toArray]
def aFg:Rec:=fun k nums ls ins=>⟨(recB k nums ls ins).toArray⟩
set_option maxRecDepth 1000000 in
theorem recC:aun Tryz.prog ar6 60 aFg:=by
 intro c k nums ls ins hT hok;refine⟨by kernel_rfl,fun G w vs hc htk hG hl hr=>?_⟩;obtain⟨i,hi⟩:=hT;obtain⟨h3,T,fz,hb3⟩:=htk i 3 _ hi
 have htab:auv Tryz.prog w "internal/strconv.uint64pow10" .u64 a3i:=by
  unfold auv World.var?
  have hg:Tryz.prog.globalNamed "internal/strconv.uint64pow10"=some 3:=by kernel_rfl
  rw[hg];simp only[Of];rw[hb3]
 obtain⟨v0,v1,v2,v3,rfl⟩:∃a b c d,vs= #[a,b,c,d]:=by
  simp only[ca,ed]at hl
  match vs,hl with
  |⟨[a,b,c,d]⟩,_=>exact⟨a,b,c,d,rfl⟩
 have g0:=hr 0 _ v0 rfl rfl;have g1:=hr 1 _ v1 rfl rfl;have g2:=hr 2 _ v2 rfl rfl;have g3:=hr 3 _ v3 rfl rfl;cases g0;obtain⟨p1,c1,rfl,r1⟩:=a9s hG g1;obtain⟨p3,c3,rfl,r4⟩:=a9s hG g3
 cases g2 with
 | @agg _ us hu hd=>
 obtain⟨u,rfl⟩:∃a,us= #[a]:=by
  simp only[ca,ed]at hu
  match us,hu with
  |⟨[a]⟩,_=>exact⟨a,rfl⟩
 obtain⟨p2,c2,iv,rfl,r2,r3⟩:=aid hG (hd 0 _ u rfl rfl);obtain⟨k1,k2,k3,k4,k5,k6,k7⟩:=hok
 have H:RecIn w k nums ls ins p1 p2 p3 iv:=⟨⟨by omega,by omega⟩,⟨k2,k3⟩,⟨k4,fun l hl=>⟨(k5 l hl).1,fun s hs=>by
  have:=(k5 l hl).2 s hs;unfold SmL SmS at this
  exact⟨⟨by omega,by omega⟩,⟨by omega,by omega⟩⟩⟩⟩,⟨k6,k7⟩,r1,r2,r3,r4⟩
 refine(rec_walk H c1 c2 c3 h3 htab).mono ?_;rintro e w' ⟨rfl,hB⟩;refine⟨_,G,rfl,fy.kl _,⟨fun _ _ _=>rfl,fun _ _=>rfl⟩,hG.below hB,⟨hB,fun q=>?_⟩,.str⟩;have:=q i _ hi;cases this
end Go.PI
