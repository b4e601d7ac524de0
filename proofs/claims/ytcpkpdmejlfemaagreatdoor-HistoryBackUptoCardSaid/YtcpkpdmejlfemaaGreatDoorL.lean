/- A part of the proof for HistoryBack: SEnd. Printed from longer texts. -/
import Derived.Test.YtcpkpdmejlfemaaGreatDoorK
import Derived.Test.YtcpkpdmejlfemaaGreatDoorCards
import Derived.Test.YtcpkpdmejlfemaaGreatDoorTie
import Derived.ProofKit
import Derived.Deep.DeepHandedRow
import Derived.SevenTiedAt
set_option linter.all false
set_option maxHeartbeats 64000000
open List renaming append_nil→th,length_cons→bq,mem_cons→dn
namespace Go.Proofs.YtcpkpdmejlfemaaGreatDoor
open Go Go.PI Go.ChangeShapes Go.WideShapes Go.ChangeAt Go.RowKit
theorem apl{H:Type}(d:DataW H):1≤Rows.uptoBulk d:=by
 cases d with
 |lit l=>cases l<;>simp[Rows.uptoBulk]
 |nil=>simp[Rows.uptoBulk]
 |ptr d=>simp[Rows.uptoBulk]
 |slice elems spare=>simp[Rows.uptoBulk]
 |agg parts=>simp[Rows.uptoBulk]
 |iface t d=>simp[Rows.uptoBulk]
 |map entries=>simp[Rows.uptoBulk]
 |held h=>simp[Rows.uptoBulk]
theorem a5z{H:Type}{d:DataW H}{l:List (DataW H)}(h:d∈l):Rows.uptoBulk d≤Rows.uptoBulkAll l:=by
 induction l with
 |nil=>cases h
 |cons x r ih=>
  simp only[Rows.uptoBulkAll]
  cases dn.1 h with
  |inl e=>subst e;omega
  |inr e=>have:=ih e;omega
theorem apm{H:Type}(l:List (DataW H)):l.length≤Rows.uptoBulkAll l:=by
 induction l with
 |nil=>simp[Rows.uptoBulkAll]
 |cons x r ih=>have:=apl x;simp only[Rows.uptoBulkAll,bq];omega
theorem ahh{H:Type}:Mu (Rows.uptoBulk (H:=H)):=by
 refine⟨fun elems spare=>?_,fun elems spare d hd=>?_,fun parts d hd=>?_⟩
 ·have:=apm elems;simp only[Rows.uptoBulk];omega
 ·have:=a5z hd;simp only[Rows.uptoBulk];omega
 ·have:=a5z hd;simp only[Rows.uptoBulk];omega
theorem own:ownKnob Tryz.prog.godebug=none:=by kernel_rfl
theorem agz{n:Nd}(h:ndB n 1048576):Sk n:=⟨by have:=h.1.1;omega,by have:=h.1.2.1;omega,fun q hq=>by have:=h.1.2.2 q hq;omega,by have:=h.2;omega⟩
theorem pf(t:Tr)(es:List Edt)(ht:trB t 1048576)(he:∀e∈es,ndB e.nd 1048576):fp Tryz.prog 3 [.agg (sf t),.dt 9 (es.map l9)] (.bool true):=
 a3d A5 (avs A3 Tryz.l6 rfl) t es ⟨by have:=ht.1;omega,by have:=ht.2.1;omega,fun n hn=>agz (ht.2.2 n hn)⟩ fun e h=>agz (he e h)
set_option maxRecDepth 100000 in
theorem apb(H:Type)(enc:TypeId×Value→H)(W:World)(base:Nat)(args:Array Value)(ds gs:List (DataW H))(before:List MemPlace)
  (hval:∀(j:Nat) t v,Tryz.f3.params[j]? =some t→args[j]? =some v→Value.okWide Tryz.prog W .any base t v)
  (hW:DataW.Whole enc Tryz.prog Tryz.f3.params.toList Rows.historyBackSpec.vars false W args.toList ds gs before)
  (hb:Rows.uptoBulkAll (ds++gs)≤1048576):
  Calls Tryz.prog 3 args W fun e W'=>∃v,e= .returned v∧Rows.historyBackSpec.post enc Tryz.prog Tryz.f3 false true false false W args v W':=by
 have hW0:=hW;obtain⟨p,q,hA,hV,_,_,_⟩:=hW0;rw[Tryz.params3]at hA hval;obtain⟨v0,v1,d0,d1,p0,p1,rfl,rfl,rfl,⟨n0,h0⟩,⟨n1,h1⟩⟩:=trodAll_two hA;obtain⟨rfl,rfl⟩:=trodVars_none hV;simp only[th,Rows.uptoBulkAll]at hb;obtain⟨t,ht,hbt⟩:=aBi ahh n0 _ _ h0;obtain⟨es,hes,hbe⟩:=aBh ahh n1 _ _ h1
 have k0:=hval 0 25 v0 (by simp) (by simp)
 have k1:=hval 1 26 v1 (by simp) (by simp)
 have r0:fh (GW W) (.agg (sf t)) v0:=by
  unfold Value.okWide at k0;rw[Tryz.underlying25]at k0;obtain⟨cs,rfl,_⟩:=k0;exact M6.agg ht
 have r1:fh (GW W) (.dt 9 (es.map l9)) v1:=by
  unfold Value.okWide at k1;rw[Tryz.underlying26]at k1;unfold Cell.okWide at k1;rw[Tryz.underlying26]at k1;unfold Cell.ok at k1;rw[Tryz.underlying26]at k1
  cases v1<;>first|exact hes.2 0 _ _ rfl rfl|exact absurd k1 (by simp)
 refine ajs (xs:=[.agg (sf t),.dt 9 (es.map l9)]) q1 (fun u hu=>?_) (by kernel_rfl:Tryz.f3.resultTypes= #[4]) Tryz.underlying4 rfl rfl rfl rfl hW (pf t es (hbt _ (by simp only;omega)) (hbe _ (by simp only;omega))) rfl fun i x v hx hv=>?_
 ·rw[Tryz.params3]at hu
  have hm:u=25∨u=26:=by simpa using hu
  rcases hm with rfl|rfl
  ·exact⟨by kernel_rfl,of_decide_eq_true (by kernel_rfl)⟩
  ·exact⟨by kernel_rfl,of_decide_eq_true (by kernel_rfl)⟩
 ·match i with
  |0=>simp at hx hv;subst hx hv;exact r0
  |1=>simp at hx hv;subst hx hv;exact r1
  |i+2=>simp at hx
def a4k(cs:Array Value):Obj→Obj
 | .cells _ t frozen=> .cells cs t frozen
 |o=>o
noncomputable def Wu(os:Os):World:=
 {World.holding Tryz.prog os ⟨#[],#[],[]⟩with heap:=((World.holding Tryz.prog os ⟨#[],#[],[]⟩).heap.modify 0 (a4k #[.int .i64 1,.int .i64 0,.int .i64 0,.int .i64 0,.int .i64 1,.int .i64 0,.int .i64 0,.int .i64 0,.int .i64 1,.int .i64 0,.int .i64 0,.int .i64 0,.int .i64 1])).modify 2 (a4k #[.int .i64 0,.int .i64 1,.int .i64 2,.int .i64 0,.int .i64 2,.int .i64 1,.int .i64 1,.int .i64 0,.int .i64 2,.int .i64 1,.int .i64 2,.int .i64 0,.int .i64 2,.int .i64 0,.int .i64 1,.int .i64 2,.int .i64 1,.int .i64 0])}
def ag8:Array Value:= #[.agg #[.slice none 0 0,.slice none 0 0],.slice none 0 0]
theorem anx(os:Os):laidMet Tryz.prog Rows.historyBackUptoRow.laid ((Wu os).forCall (fun _ _=>0) ⟨#[],ag8,[]⟩).memory:=
 laidMet_of_run' 8 (by kernel_rfl) (by kernel_rfl)
theorem reads(os:Os){H:Type}(enc:TypeId×Value→H):∃places,DataW.whole enc Tryz.prog ((Wu os).forCall (fun _ _=>0) ⟨#[],ag8,[]⟩).memory Tryz.f3.params.toList Rows.historyBackSpec.vars false ag8.toList 8=some ([.agg [.nil,.nil],.nil],[],places):=
 ⟨[],by kernel_rfl⟩
set_option maxRecDepth 100000 in
theorem aeg(os:Os)(started:os.Started)(H:Type)(enc:TypeId×Value→H)(F:Stop.Interp):
  ReturnsInHanded {} Tryz.checked os 3 .any ((Rows.OpenSpec.upto Rows.historyBackSpec).preRow enc Tryz.prog Tryz.f3 Rows.historyBackUptoRow.domain false Rows.historyBackUptoRow.laid) (((Rows.OpenSpec.upto Rows.historyBackSpec).at F).post enc Tryz.prog Tryz.f3 false true false false):=by
 obtain⟨places,hx⟩:=reads os enc
 refine returnsInHanded_of_row (C:=Tryz.checked) (s:=Rows.OpenSpec.upto Rows.historyBackSpec) own started (by kernel_rfl) Tryz.func3
  (witness_row_at (enc:=enc) (C:=Tryz.checked) false (Wu os) ag8 rfl (by kernel_rfl) (by kernel_rfl) (by kernel_rfl)
   (OpenSpec.preRow_of_cond 8 hx (by kernel_rfl) (fun k hk=>by cases hk;kernel_rfl) (by kernel_rfl) (anx os))) ?_
 intro W base args ds gs before hval hW _ hcond _ hL _ _;exact apb H enc W base args ds gs before hval hW (of_decide_eq_true (hcond _ rfl))
theorem row_holds:Rows.HistoryBackUptoSaid:=
 OpenClaim.holds_of_cond 3 Tryz.f3 rfl rfl rfl rfl rfl rfl rfl ⟨rfl,rfl,rfl,rfl,rfl⟩ rfl rfl rfl rfl rfl (by kernel_rfl) Tryz.func3 closed
  (of_decide_eq_true (by kernel_rfl)) (by unfold Func.isWrapper;first|(rw[if_pos (by decide+kernel)];kernel_rfl)|(rw[if_neg (by decide+kernel)];exact⟨rfl,rfl⟩))
  (fun os started H enc _ F=>by rw[OpenClaim.pre_eq_preRow];exact aeg os started H enc F)
end Go.Proofs.YtcpkpdmejlfemaaGreatDoor
