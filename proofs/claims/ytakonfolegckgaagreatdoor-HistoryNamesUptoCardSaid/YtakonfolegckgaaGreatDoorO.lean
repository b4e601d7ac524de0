/- A part of the proof for HistoryNames: SEnd. Printed from longer texts. -/
import Derived.Test.YtakonfolegckgaaGreatDoorN
import Derived.Test.YtakonfolegckgaaGreatDoorCards
import Derived.Test.YtakonfolegckgaaGreatDoorTie
import Derived.ProofKit
import Derived.Deep.DeepHandedRow
import Derived.SevenTiedAt
set_option linter.all false
set_option maxHeartbeats 64000000
open Array renaming length_toList→qu
open Go.DataW renaming Whole→aLd
open Go.Lib renaming TabIs→avi,pow10Tab→a4g
open List renaming append_nil→sr,length_cons→cj,mem_cons→fb
namespace Go.Proofs.YtakonfolegckgaaGreatDoor
open Go Go.PI Go.ChangeShapes Go.WideShapes Go.ChangeAt Go.RowKit
theorem auw{H:Type}(d:DataW H):1≤Rows.uptoBulk d:=by
 cases d with
 |lit l=>cases l<;>simp[Rows.uptoBulk]
 |nil=>simp[Rows.uptoBulk]
 |ptr d=>simp[Rows.uptoBulk]
 |slice elems spare=>simp[Rows.uptoBulk]
 |agg parts=>simp[Rows.uptoBulk]
 |iface t d=>simp[Rows.uptoBulk]
 |map entries=>simp[Rows.uptoBulk]
 |held h=>simp[Rows.uptoBulk]
theorem aau{H:Type}{d:DataW H}{l:List (DataW H)}(h:d∈l):Rows.uptoBulk d≤Rows.uptoBulkAll l:=by
 induction l with
 |nil=>cases h
 |cons x r ih=>
  simp only[Rows.uptoBulkAll]
  cases fb.1 h with
  |inl e=>subst e;omega
  |inr e=>have:=ih e;omega
theorem auy{H:Type}(l:List (DataW H)):l.length≤Rows.uptoBulkAll l:=by
 induction l with
 |nil=>simp[Rows.uptoBulkAll]
 |cons x r ih=>have:=auw x;simp only[Rows.uptoBulkAll,cj];omega
theorem az8{H:Type}:Mu (Rows.uptoBulk (H:=H)):=by
 refine⟨fun elems spare=>?_,fun elems spare d hd=>?_,fun parts d hd=>?_⟩
 ·have:=auy elems;simp only[Rows.uptoBulk];omega
 ·have:=aau hd;simp only[Rows.uptoBulk];omega
 have:=aau hd;simp only[Rows.uptoBulk];omega
theorem own:ownKnob Tryz.prog.godebug=none:=by kernel_rfl
theorem axm{n:Nd}(h:ndB n 1048576):W3 n:=⟨by have:=h.1.1;omega,by have:=h.1.2.1;omega,fun q hq=>by have:=h.1.2.2 q hq;omega,by have:=h.2;omega⟩
def cx:Nat→V×Value:=fun _=>(.no,arz)
theorem pf(t:Tr)(n to:ByteArray)(ht:trB t 1048576)(h1:n.size≤1048576)(h2:to.size≤1048576):P7 Tryz.prog cx 3 [.agg (ud t),.str n,.str to] (.bool true):=
 a4w A6 Tryz.l6 rfl recC t n to ⟨by have:=ht.1;omega,by have:=ht.2.1;omega,fun n hn=>axm (ht.2.2 n hn)⟩ (by omega) (by omega) ⟨0,rfl⟩
set_option maxRecDepth 100000 in
theorem str_cells{W:World}{base:Nat}{v:Value}(k:Value.okWide Tryz.prog W .any base 9 v):v.cells.toList=[v]:=by
 unfold Value.okWide at k;rw[Tryz.underlying9]at k;unfold Cell.okWide at k;rw[Tryz.underlying9]at k;unfold Cell.ok at k;rw[Tryz.underlying9]at k
 cases v<;>first|rfl|exact absurd k (by simp)
theorem aed{H:Type}{enc:TypeId×Value→H}{W:World}{v:Value}{d:DataW H}{p:List MemPlace}{fuel:Nat}(h:DataW.trod enc Tryz.prog W 0 (fun _=>true) true fuel 9 [v]=some (d,p)):∃n:ByteArray,v= .string n∧n.size+1=Rows.uptoBulk d:=by
 obtain⟨n,h1,h2,_⟩:=DataW.trod_string Tryz.underlying9 h;cases h1;cases h2;refine⟨n,rfl,?_⟩;simp only[Rows.uptoBulk];rw[qu];rfl
theorem tab{W:World}(hL:laidMetH Tryz.prog Rows.historyNamesUptoRow.laid W):avi Tryz.prog W "internal/strconv.uint64pow10" .u64 a4g:=by
 have h1:laidMet Tryz.prog Rows.historyNamesUptoRow.laid W:=hL;have h2:laidMet Tryz.prog (("internal/strconv.uint64pow10",Lib.tabData .u64 a4g)::[("spokeshave/move.identity",Rows.laid_spokeshave_move_identity),("spokeshave/move.orders",Rows.laid_spokeshave_move_orders)]) W:=aac (aac h1);exact Lib.tabIs_of_head (g:=3) (t:=470) (e:=287) (n:=20) (by kernel_rfl) (by kernel_rfl) (by kernel_rfl) (by kernel_rfl) (by kernel_rfl) (by kernel_rfl) h2
set_option maxRecDepth 100000 in
theorem auk(H:Type)(enc:TypeId×Value→H)(W:World)(base:Nat)(args:Array Value)(ds gs:List (DataW H))(before:List MemPlace)
  (hval:∀(j:Nat) t v,Tryz.f3.params[j]? =some t→args[j]? =some v→Value.okWide Tryz.prog W .any base t v)
  (hW:aLd enc Tryz.prog Tryz.f3.params.toList Rows.historyNamesSpec.vars false W args.toList ds gs before)
  (hb:Rows.uptoBulkAll (ds++gs)≤1048576)(hL:laidMetH Tryz.prog Rows.historyNamesUptoRow.laid W):
  Calls Tryz.prog 3 args W fun e W'=>∃v,e= .returned v∧Rows.historyNamesSpec.post enc Tryz.prog Tryz.f3 false true false false W args v W':=by
 have hW0:=hW;obtain⟨p,q,hA,hV,_,_,_⟩:=hW0;rw[Tryz.params3]at hA hval;obtain⟨v0,v1,v2,d0,d1,d2,p0,p1,p2,rfl,rfl,rfl,⟨n0,h0⟩,⟨n1,h1⟩,⟨n2,h2⟩⟩:=trodAll_three hA;obtain⟨rfl,rfl⟩:=trodVars_none hV;simp only[sr,Rows.uptoBulkAll]at hb;obtain⟨t,ht,hbt⟩:=aGf az8 n0 _ _ h0;have k1:=hval 1 9 v1 (by simp) (by simp);have k2:=hval 2 9 v2 (by simp) (by simp);rw[str_cells k1]at h1;rw[str_cells k2]at h2;obtain⟨n,rfl,hn⟩:=aed h1;obtain⟨to,rfl,hto⟩:=aed h2;have k0:=hval 0 25 v0 (by simp) (by simp)
 have r0:i6 (GW W) (.agg (ud t)) v0:=by
  unfold Value.okWide at k0;rw[Tryz.underlying25]at k0;obtain⟨cs,rfl,_⟩:=k0;exact P9.agg ht
 refine ajb (c:=cx) (xs:=[.agg (ud t),.str n,.str to]) q1 (fun u hu=>?_) (by kernel_rfl:Tryz.f3.resultTypes= #[4]) Tryz.underlying4 rfl rfl rfl rfl hW (pf t n to (hbt _ (by simp only;omega)) (by omega) (by omega)) (fun i d v e=>by cases e) (fun i=>ahv (g:=3) (by kernel_rfl) (tab hL)) rfl fun i x v hx hv=>?_
 ·rw[Tryz.params3]at hu
  have hm:u=25∨u=9:=by simpa using hu
  rcases hm with rfl|rfl
  ·exact⟨by kernel_rfl,of_decide_eq_true (by kernel_rfl)⟩
  exact⟨by kernel_rfl,of_decide_eq_true (by kernel_rfl)⟩
 match i with
 |0=>simp at hx hv;subst hx hv;exact r0
 |1=>simp at hx hv;subst hx hv;exact .str
 |2=>simp at hx hv;subst hx hv;exact .str
 |i+3=>simp at hx
def R3(cs:Array Value):Obj→Obj
 | .cells _ t frozen=> .cells cs t frozen
 |o=>o
noncomputable def a09(os:Os):World:=
 {World.holding Tryz.prog os ⟨#[],#[],[]⟩with heap:=((((((World.holding Tryz.prog os ⟨#[],#[],[]⟩).heap.modify 0 (R3 #[.int .i64 1,.int .i64 0,.int .i64 0,.int .i64 0,.int .i64 1,.int .i64 0,.int .i64 0,.int .i64 0,.int .i64 1,.int .i64 0,.int .i64 0,.int .i64 0,.int .i64 1])).modify 2 (R3 #[.int .i64 0,.int .i64 1,.int .i64 2,.int .i64 0,.int .i64 2,.int .i64 1,.int .i64 1,.int .i64 0,.int .i64 2,.int .i64 1,.int .i64 2,.int .i64 0,.int .i64 2,.int .i64 0,.int .i64 1,.int .i64 2,.int .i64 1,.int .i64 0])).modify 3 (R3 #[.int .u64 1,.int .u64 10,.int .u64 100,.int .u64 1000,.int .u64 10000,.int .u64 100000,.int .u64 1000000,.int .u64 10000000,.int .u64 100000000,.int .u64 1000000000,.int .u64 10000000000,.int .u64 100000000000,.int .u64 1000000000000,.int .u64 10000000000000,.int .u64 100000000000000,.int .u64 1000000000000000,.int .u64 10000000000000000,.int .u64 100000000000000000,.int .u64 1000000000000000000,.int .u64 10000000000000000000])).modify 4 (R3 #[.int .u8 0,.int .u8 1,.int .u8 28,.int .u8 2,.int .u8 29,.int .u8 14,.int .u8 24,.int .u8 3,.int .u8 30,.int .u8 22,.int .u8 20,.int .u8 15,.int .u8 25,.int .u8 17,.int .u8 4,.int .u8 8,.int .u8 31,.int .u8 27,.int .u8 13,.int .u8 23,.int .u8 21,.int .u8 19,.int .u8 16,.int .u8 7,.int .u8 26,.int .u8 12,.int .u8 18,.int .u8 6,.int .u8 11,.int .u8 5,.int .u8 10,.int .u8 9])).modify 5 (R3 #[.int .u8 0,.int .u8 1,.int .u8 56,.int .u8 2,.int .u8 57,.int .u8 49,.int .u8 28,.int .u8 3,.int .u8 61,.int .u8 58,.int .u8 42,.int .u8 50,.int .u8 38,.int .u8 29,.int .u8 17,.int .u8 4,.int .u8 62,.int .u8 47,.int .u8 59,.int .u8 36,.int .u8 45,.int .u8 43,.int .u8 51,.int .u8 22,.int .u8 53,.int .u8 39,.int .u8 33,.int .u8 30,.int .u8 24,.int .u8 18,.int .u8 12,.int .u8 5,.int .u8 63,.int .u8 55,.int .u8 48,.int .u8 27,.int .u8 60,.int .u8 41,.int .u8 37,.int .u8 16,.int .u8 46,.int .u8 35,.int .u8 44,.int .u8 21,.int .u8 52,.int .u8 32,.int .u8 23,.int .u8 11,.int .u8 54,.int .u8 26,.int .u8 40,.int .u8 15,.int .u8 34,.int .u8 20,.int .u8 31,.int .u8 10,.int .u8 25,.int .u8 14,.int .u8 19,.int .u8 9,.int .u8 13,.int .u8 8,.int .u8 7,.int .u8 6]))}
def al7:Array Value:= #[.agg #[.slice none 0 0,.slice none 0 0],.string ⟨#[]⟩,.string ⟨#[]⟩]
theorem at4(os:Os):laidMet Tryz.prog Rows.historyNamesUptoRow.laid ((a09 os).forCall (fun _ _=>0) ⟨#[],al7,[]⟩).memory:=
 laidMet_of_run' 8 (by kernel_rfl) (by kernel_rfl)
theorem reads(os:Os){H:Type}(enc:TypeId×Value→H):∃places,DataW.whole enc Tryz.prog ((a09 os).forCall (fun _ _=>0) ⟨#[],al7,[]⟩).memory Tryz.f3.params.toList Rows.historyNamesSpec.vars false al7.toList 8=some ([.agg [.nil,.nil],.lit (.string []),.lit (.string [])],[],places):=
 ⟨[],by kernel_rfl⟩
set_option maxRecDepth 100000 in
theorem aja(os:Os)(started:os.Started)(H:Type)(enc:TypeId×Value→H)(F:Stop.Interp):
  ReturnsInHanded {} Tryz.checked os 3 .any ((Rows.OpenSpec.upto Rows.historyNamesSpec).preRow enc Tryz.prog Tryz.f3 Rows.historyNamesUptoRow.domain false Rows.historyNamesUptoRow.laid) (((Rows.OpenSpec.upto Rows.historyNamesSpec).at F).post enc Tryz.prog Tryz.f3 false true false false):=by
 obtain⟨places,hx⟩:=reads os enc;refine returnsInHanded_of_row (C:=Tryz.checked) (s:=Rows.OpenSpec.upto Rows.historyNamesSpec) own started (by kernel_rfl) Tryz.func3
  (witness_row_at (enc:=enc) (C:=Tryz.checked) false (a09 os) al7 rfl (by kernel_rfl) (by kernel_rfl) (by kernel_rfl)
   (OpenSpec.preRow_of_cond 8 hx (by kernel_rfl) (fun k hk=>by cases hk;kernel_rfl) (by kernel_rfl) (at4 os))) ?_
 intro W base args ds gs before hval hW _ hcond _ hL _ _;exact auk H enc W base args ds gs before hval hW (of_decide_eq_true (hcond _ rfl)) hL
theorem row_holds:Rows.HistoryNamesUptoSaid:=
 OpenClaim.holds_of_cond 3 Tryz.f3 rfl rfl rfl rfl rfl rfl rfl ⟨rfl,rfl,rfl,rfl,rfl⟩ rfl rfl rfl rfl rfl (by kernel_rfl) Tryz.func3 closed
  (of_decide_eq_true (by kernel_rfl)) (by unfold Func.isWrapper;first|(rw[if_pos (by decide+kernel)];kernel_rfl)|(rw[if_neg (by decide+kernel)];exact⟨rfl,rfl⟩))
  (fun os started H enc _ F=>by rw[OpenClaim.pre_eq_preRow];exact aja os started H enc F)
end Go.Proofs.YtakonfolegckgaaGreatDoor
