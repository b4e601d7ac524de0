/- A part of the proof for HistoryParams: SEnd. Printed from longer texts. -/
import Derived.Test.YtjhmidapljifbaaGreatDoorM
import Derived.Test.YtjhmidapljifbaaGreatDoorCards
import Derived.Test.YtjhmidapljifbaaGreatDoorTie
import Derived.ProofKit
import Derived.Deep.DeepHandedRow
import Derived.SevenTiedAt
set_option linter.all false
set_option maxHeartbeats 64000000
open Array renaming length_toList→qa
open Go.DataW renaming Whole→aKu
open Go.Lib renaming TabIs→auv,pow10Tab→a3i
open List renaming append_nil→y0,length_cons→ca,mem_cons→dq
namespace Go.Proofs.YtjhmidapljifbaaGreatDoor
open Go Go.PI Go.ChangeShapes Go.WideShapes Go.ChangeAt Go.RowKit
theorem au9{H:Type}(d:DataW H):1≤Rows.uptoBulk d:=by
 cases d with
 |lit l=>cases l<;>simp[Rows.uptoBulk]
 |nil=>simp[Rows.uptoBulk]
 |ptr d=>simp[Rows.uptoBulk]
 |slice elems spare=>simp[Rows.uptoBulk]
 |agg parts=>simp[Rows.uptoBulk]
 |iface t d=>simp[Rows.uptoBulk]
 |map entries=>simp[Rows.uptoBulk]
 |held h=>simp[Rows.uptoBulk]
theorem aa9{H:Type}{d:DataW H}{l:List (DataW H)}(h:d∈l):Rows.uptoBulk d≤Rows.uptoBulkAll l:=by
 induction l with
 |nil=>cases h
 |cons x r ih=>
  simp only[Rows.uptoBulkAll]
  cases dq.1 h with
  |inl e=>subst e;omega
  |inr e=>have:=ih e;omega
theorem aua{H:Type}(l:List (DataW H)):l.length≤Rows.uptoBulkAll l:=by
 induction l with
 |nil=>simp[Rows.uptoBulkAll]
 |cons x r ih=>have:=au9 x;simp only[Rows.uptoBulkAll,ca];omega
theorem aym{H:Type}:Mu (Rows.uptoBulk (H:=H)):=by
 refine⟨fun elems spare=>?_,fun elems spare d hd=>?_,fun parts d hd=>?_⟩
 ·have:=aua elems;simp only[Rows.uptoBulk];omega
 ·have:=aa9 hd;simp only[Rows.uptoBulk];omega
 have:=aa9 hd;simp only[Rows.uptoBulk];omega
theorem own:ownKnob Tryz.prog.godebug=none:=by kernel_rfl
theorem ax3{n:Nd}(h:ndB n 1048576):a6v n:=⟨by have:=h.1.1;omega,by have:=h.1.2.1;omega,fun q hq=>by have:=h.1.2.2 q hq;omega,by have:=h.2;omega⟩
def cx:Nat→V×Value:=fun _=>(.no,ar6)
theorem pf(t:Tr)(n:ByteArray)(v:Int)(ht:trB t 1048576)(h1:n.size≤1048576):Oc Tryz.prog cx 3 [.agg (r8 t),.str n,.int .i64 v] (.bool true):=
 a1s A7 Tryz.l6 rfl recC t n v ⟨by have:=ht.1;omega,by have:=ht.2.1;omega,fun n hn=>ax3 (ht.2.2 n hn)⟩ (by omega) ⟨0,rfl⟩
set_option maxRecDepth 100000 in
theorem str_cells{W:World}{base:Nat}{v:Value}(k:Value.okWide Tryz.prog W .any base 9 v):v.cells.toList=[v]:=by
 unfold Value.okWide at k;rw[Tryz.underlying9]at k;unfold Cell.okWide at k;rw[Tryz.underlying9]at k;unfold Cell.ok at k;rw[Tryz.underlying9]at k
 cases v<;>first|rfl|exact absurd k (by simp)
set_option maxRecDepth 100000 in
theorem int_cells{W:World}{base:Nat}{v:Value}(k:Value.okWide Tryz.prog W .any base 2 v):v.cells.toList=[v]:=by
 unfold Value.okWide at k;rw[Tryz.underlying2]at k;unfold Cell.okWide at k;rw[Tryz.underlying2]at k;unfold Cell.ok at k;rw[Tryz.underlying2]at k
 cases v<;>first|rfl|exact absurd k (by simp)
theorem apu{H:Type}{enc:TypeId×Value→H}{W:World}{v:Value}{d:DataW H}{p:List MemPlace}{fuel:Nat}(h:DataW.trod enc Tryz.prog W 0 (fun _=>true) true fuel 9 [v]=some (d,p)):∃n:ByteArray,v= .string n∧n.size+1=Rows.uptoBulk d:=by
 obtain⟨n,h1,h2,_⟩:=DataW.trod_string Tryz.underlying9 h;cases h1;cases h2;refine⟨n,rfl,?_⟩;simp only[Rows.uptoBulk];rw[qa];rfl
theorem tab{W:World}(hL:laidMetH Tryz.prog Rows.historyParamsUptoRow.laid W):auv Tryz.prog W "internal/strconv.uint64pow10" .u64 a3i:=by
 have h1:laidMet Tryz.prog Rows.historyParamsUptoRow.laid W:=hL;have h2:laidMet Tryz.prog (("internal/strconv.uint64pow10",Lib.tabData .u64 a3i)::[("spokeshave/move.identity",Rows.laid_spokeshave_move_identity),("spokeshave/move.orders",Rows.laid_spokeshave_move_orders)]) W:=a9p (a9p h1);exact Lib.tabIs_of_head (g:=3) (t:=378) (e:=296) (n:=20) (by kernel_rfl) (by kernel_rfl) (by kernel_rfl) (by kernel_rfl) (by kernel_rfl) (by kernel_rfl) h2
set_option maxRecDepth 100000 in
theorem atv(H:Type)(enc:TypeId×Value→H)(W:World)(base:Nat)(args:Array Value)(ds gs:List (DataW H))(before:List MemPlace)
  (hval:∀(j:Nat) t v,Tryz.f3.params[j]? =some t→args[j]? =some v→Value.okWide Tryz.prog W .any base t v)
  (hW:aKu enc Tryz.prog Tryz.f3.params.toList Rows.historyParamsSpec.vars false W args.toList ds gs before)
  (hb:Rows.uptoBulkAll (ds++gs)≤1048576)(hL:laidMetH Tryz.prog Rows.historyParamsUptoRow.laid W):
  Calls Tryz.prog 3 args W fun e W'=>∃v,e= .returned v∧Rows.historyParamsSpec.post enc Tryz.prog Tryz.f3 false true false false W args v W':=by
 have hW0:=hW;obtain⟨p,q,hA,hV,_,_,_⟩:=hW0;rw[Tryz.params3]at hA hval;obtain⟨v0,v1,v2,d0,d1,d2,p0,p1,p2,rfl,rfl,rfl,⟨n0,h0⟩,⟨n1,h1⟩,⟨n2,h2⟩⟩:=trodAll_three hA;obtain⟨rfl,rfl⟩:=trodVars_none hV;simp only[y0,Rows.uptoBulkAll]at hb;obtain⟨t,ht,hbt⟩:=aFq aym n0 _ _ h0;have k1:=hval 1 9 v1 (by simp) (by simp);have k2:=hval 2 2 v2 (by simp) (by simp);rw[str_cells k1]at h1;rw[int_cells k2]at h2;obtain⟨n,rfl,hn⟩:=apu h1;obtain⟨iv,hiv,_,_⟩:=DataW.trod_int Tryz.underlying2 h2;cases hiv;have k0:=hval 0 25 v0 (by simp) (by simp)
 have r0:gj (GW W) (.agg (r8 t)) v0:=by
  unfold Value.okWide at k0;rw[Tryz.underlying25]at k0;obtain⟨cs,rfl,_⟩:=k0;exact Oe.agg ht
 refine aii (c:=cx) (xs:=[.agg (r8 t),.str n,.int .i64 iv]) q1 (fun u hu=>?_) (by kernel_rfl:Tryz.f3.resultTypes= #[4]) Tryz.underlying4 rfl rfl rfl rfl hW (pf t n iv (hbt _ (by simp only;omega)) (by omega)) (fun i d v e=>by cases e) (fun i=>ah2 (g:=3) (by kernel_rfl) (tab hL)) rfl fun i x v hx hv=>?_
 ·rw[Tryz.params3]at hu
  have hm:u=25∨u=9∨u=2:=by simpa using hu
  rcases hm with rfl|rfl|rfl
  ·exact⟨by kernel_rfl,of_decide_eq_true (by kernel_rfl)⟩
  ·exact⟨by kernel_rfl,of_decide_eq_true (by kernel_rfl)⟩
  exact⟨by kernel_rfl,of_decide_eq_true (by kernel_rfl)⟩
 match i with
 |0=>simp at hx hv;subst hx hv;exact r0
 |1=>simp at hx hv;subst hx hv;exact .str
 |2=>simp at hx hv;subst hx hv;exact .int
 |i+3=>simp at hx
def Qa(cs:Array Value):Obj→Obj
 | .cells _ t frozen=> .cells cs t frozen
 |o=>o
noncomputable def Zn(os:Os):World:=
 {World.holding Tryz.prog os ⟨#[],#[],[]⟩with heap:=((((((World.holding Tryz.prog os ⟨#[],#[],[]⟩).heap.modify 0 (Qa #[.int .i64 1,.int .i64 0,.int .i64 0,.int .i64 0,.int .i64 1,.int .i64 0,.int .i64 0,.int .i64 0,.int .i64 1,.int .i64 0,.int .i64 0,.int .i64 0,.int .i64 1])).modify 2 (Qa #[.int .i64 0,.int .i64 1,.int .i64 2,.int .i64 0,.int .i64 2,.int .i64 1,.int .i64 1,.int .i64 0,.int .i64 2,.int .i64 1,.int .i64 2,.int .i64 0,.int .i64 2,.int .i64 0,.int .i64 1,.int .i64 2,.int .i64 1,.int .i64 0])).modify 3 (Qa #[.int .u64 1,.int .u64 10,.int .u64 100,.int .u64 1000,.int .u64 10000,.int .u64 100000,.int .u64 1000000,.int .u64 10000000,.int .u64 100000000,.int .u64 1000000000,.int .u64 10000000000,.int .u64 100000000000,.int .u64 1000000000000,.int .u64 10000000000000,.int .u64 100000000000000,.int .u64 1000000000000000,.int .u64 10000000000000000,.int .u64 100000000000000000,.int .u64 1000000000000000000,.int .u64 10000000000000000000])).modify 4 (Qa #[.int .u8 0,.int .u8 1,.int .u8 28,.int .u8 2,.int .u8 29,.int .u8 14,.int .u8 24,.int .u8 3,.int .u8 30,.int .u8 22,.int .u8 20,.int .u8 15,.int .u8 25,.int .u8 17,.int .u8 4,.int .u8 8,.int .u8 31,.int .u8 27,.int .u8 13,.int .u8 23,.int .u8 21,.int .u8 19,.int .u8 16,.int .u8 7,.int .u8 26,.int .u8 12,.int .u8 18,.int .u8 6,.int .u8 11,.int .u8 5,.int .u8 10,.int .u8 9])).modify 5 (Qa #[.int .u8 0,.int .u8 1,.int .u8 56,.int .u8 2,.int .u8 57,.int .u8 49,.int .u8 28,.int .u8 3,.int .u8 61,.int .u8 58,.int .u8 42,.int .u8 50,.int .u8 38,.int .u8 29,.int .u8 17,.int .u8 4,.int .u8 62,.int .u8 47,.int .u8 59,.int .u8 36,.int .u8 45,.int .u8 43,.int .u8 51,.int .u8 22,.int .u8 53,.int .u8 39,.int .u8 33,.int .u8 30,.int .u8 24,.int .u8 18,.int .u8 12,.int .u8 5,.int .u8 63,.int .u8 55,.int .u8 48,.int .u8 27,.int .u8 60,.int .u8 41,.int .u8 37,.int .u8 16,.int .u8 46,.int .u8 35,.int .u8 44,.int .u8 21,.int .u8 52,.int .u8 32,.int .u8 23,.int .u8 11,.int .u8 54,.int .u8 26,.int .u8 40,.int .u8 15,.int .u8 34,.int .u8 20,.int .u8 31,.int .u8 10,.int .u8 25,.int .u8 14,.int .u8 19,.int .u8 9,.int .u8 13,.int .u8 8,.int .u8 7,.int .u8 6]))}
def akf:Array Value:= #[.agg #[.slice none 0 0,.slice none 0 0],.string ⟨#[]⟩,.int .i64 0]
theorem asb(os:Os):laidMet Tryz.prog Rows.historyParamsUptoRow.laid ((Zn os).forCall (fun _ _=>0) ⟨#[],akf,[]⟩).memory:=
 laidMet_of_run' 8 (by kernel_rfl) (by kernel_rfl)
theorem reads(os:Os){H:Type}(enc:TypeId×Value→H):∃places,DataW.whole enc Tryz.prog ((Zn os).forCall (fun _ _=>0) ⟨#[],akf,[]⟩).memory Tryz.f3.params.toList Rows.historyParamsSpec.vars false akf.toList 8=some ([.agg [.nil,.nil],.lit (.string []),.lit (.int .i64 0)],[],places):=
 ⟨[],by kernel_rfl⟩
set_option maxRecDepth 100000 in
theorem aih(os:Os)(started:os.Started)(H:Type)(enc:TypeId×Value→H)(F:Stop.Interp):
  ReturnsInHanded {} Tryz.checked os 3 .any ((Rows.OpenSpec.upto Rows.historyParamsSpec).preRow enc Tryz.prog Tryz.f3 Rows.historyParamsUptoRow.domain false Rows.historyParamsUptoRow.laid) (((Rows.OpenSpec.upto Rows.historyParamsSpec).at F).post enc Tryz.prog Tryz.f3 false true false false):=by
 obtain⟨places,hx⟩:=reads os enc;refine returnsInHanded_of_row (C:=Tryz.checked) (s:=Rows.OpenSpec.upto Rows.historyParamsSpec) own started (by kernel_rfl) Tryz.func3
  (witness_row_at (enc:=enc) (C:=Tryz.checked) false (Zn os) akf rfl (by kernel_rfl) (by kernel_rfl) (by kernel_rfl)
   (OpenSpec.preRow_of_cond 8 hx (by kernel_rfl) (fun k hk=>by cases hk;kernel_rfl) (by kernel_rfl) (asb os))) ?_
 intro W base args ds gs before hval hW _ hcond _ hL _ _;exact atv H enc W base args ds gs before hval hW (of_decide_eq_true (hcond _ rfl)) hL
theorem row_holds:Rows.HistoryParamsUptoSaid:=
 OpenClaim.holds_of_cond 3 Tryz.f3 rfl rfl rfl rfl rfl rfl rfl ⟨rfl,rfl,rfl,rfl,rfl⟩ rfl rfl rfl rfl rfl (by kernel_rfl) Tryz.func3 closed
  (of_decide_eq_true (by kernel_rfl)) (by unfold Func.isWrapper;first|(rw[if_pos (by decide+kernel)];kernel_rfl)|(rw[if_neg (by decide+kernel)];exact⟨rfl,rfl⟩))
  (fun os started H enc _ F=>by rw[OpenClaim.pre_eq_preRow];exact aih os started H enc F)
end Go.Proofs.YtjhmidapljifbaaGreatDoor
