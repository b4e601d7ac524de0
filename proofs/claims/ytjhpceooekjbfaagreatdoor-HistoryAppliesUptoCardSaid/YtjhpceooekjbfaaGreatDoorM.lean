/- A part of the proof for HistoryApplies: SEnd. Printed from longer texts. -/
import Derived.Test.YtjhpceooekjbfaaGreatDoorL
import Derived.Test.YtjhpceooekjbfaaGreatDoorCards
import Derived.Test.YtjhpceooekjbfaaGreatDoorTie
import Derived.ProofKit
import Derived.Deep.DeepHandedRow
import Derived.SevenTiedAt
set_option linter.all false
set_option maxHeartbeats 64000000
open Go.Value renaming okWide->aex
open List renaming append_nil->pt,length_cons->cq,mem_cons->fa
namespace Go.Proofs.YtjhpceooekjbfaaGreatDoor
open Go Go.PI Go.ChangeShapes Go.WideShapes Go.ChangeAt Go.RowKit
theorem UR{H:Type}(d:DataW H):1<=Rows.uptoBulk d:=by
 cases d with
 |lit l=>cases l<;>simp[Rows.uptoBulk]
 |nil=>simp[Rows.uptoBulk]
 |ptr d=>simp[Rows.uptoBulk]
 |slice b c=>simp[Rows.uptoBulk]
 |agg parts=>simp[Rows.uptoBulk]
 |iface t d=>simp[Rows.uptoBulk]
 |map a=>simp[Rows.uptoBulk]
 |held h=>simp[Rows.uptoBulk]
theorem rV{H:Type}{d:DataW H}{l:List (DataW H)}(h:d∈l):Rows.uptoBulk d<=Rows.uptoBulkAll l:=by
 induction l with
 |nil=>cases h
 |cons x r a=>
  simp only[Rows.uptoBulkAll]
  cases fa.1 h with
  |inl e=>subst e;omega
  |inr e=>have:=a e;omega
theorem US{H:Type}(l:List (DataW H)):l.length<=Rows.uptoBulkAll l:=by
 induction l with
 |nil=>simp[Rows.uptoBulkAll]
 |cons x r a=>have:=UR x;simp only[Rows.uptoBulkAll,cq];omega
theorem IS{H:Type}:Mu (Rows.uptoBulk (H:=H)):=by
 refine⟨λa b=>?_,λa b d c=>?_,λparts d c=>?_⟩
 ·have:=US a;simp only[Rows.uptoBulk];omega
 ·have:=rV c;simp only[Rows.uptoBulk];omega
 have:=rV c;simp only[Rows.uptoBulk];omega
theorem own:ownKnob Tryz.prog.godebug=none:=by kernel_rfl
theorem HR{n:Nd}(h:ndB n 1048576):Ur n:=⟨by have:=h.1.1;omega,by have:=h.1.2.1;omega,λq a=>by have:=h.1.2.2 q a;omega,by have:=h.2;omega⟩
theorem pf(t:Tr)(e:G7)(a:trB t 1048576)(b:ndB e.nd 1048576):iv Tryz.prog 3 [.agg (vt t),.agg (nk e)] (.bool true):=
 bR A8 Tryz.l6 rfl t e ⟨by have:=a.1;omega,by have:=a.2.1;omega,λn c=>HR (a.2.2 n c)⟩ (HR b)
set_option maxRecDepth 100000 in
theorem UF(H:Type)(enc:TypeId×Value->H)(W:World)(base:Nat)(args:Array Value)(ds gs:List (DataW H))(b:List MemPlace)
  (a:∀(j:Nat) t v,Tryz.f3.params[j]? =some t->args[j]? =some v->aex Tryz.prog W .any base t v)
  (n:DataW.Whole enc Tryz.prog Tryz.f3.params.toList Rows.historyAppliesSpec.vars false W args.toList ds gs b)
  (hb:Rows.uptoBulkAll (ds++gs)<=1048576):
  Calls Tryz.prog 3 args W λe s=>∃v,e= .returned v/\Rows.historyAppliesSpec.post enc Tryz.prog Tryz.f3 false true false false W args v s:=by
 have d:=n;obtain⟨p,q,m,z,_,_,_⟩:=d;rw[Tryz.params3]at m a;obtain⟨v0,r,E,d1,p0,F,rfl,rfl,rfl,⟨n0,w⟩,⟨n1,y⟩⟩:=trodAll_two m;obtain⟨rfl,rfl⟩:=trodVars_none z;simp only[pt,Rows.uptoBulkAll]at hb;obtain⟨t,B,g⟩:=a9n IS n0 _ _ w;obtain⟨e,h,f⟩:=a9g IS n1 _ _ y;have k:=a 0 25 v0 (by simp) (by simp);have l:=a 1 37 r (by simp) (by simp)
 have C:iz (GW W) (.agg (vt t)) v0:=by
  unfold aex at k;rw[Tryz.underlying25]at k;obtain⟨cs,rfl,_⟩:=k;exact Oh.agg B
 have D:iz (GW W) (.agg (nk e)) r:=by
  unfold aex at l;rw[Tryz.underlying37]at l;obtain⟨cs,rfl,_⟩:=l;exact Oh.agg h
 refine MH (xs:=[.agg (vt t),.agg (nk e)]) q1 (λu o=>?_) (by kernel_rfl:Tryz.f3.resultTypes= #[4]) Tryz.underlying4 rfl rfl rfl rfl n (pf t e (g _ (by simp only;omega)) (f _ (by simp only;omega))) rfl λi x v hx c=>?_
 ·rw[Tryz.params3]at o
  have A:u=25\/u=37:=by simpa using o
  rcases A with rfl|rfl
  ·exact⟨by kernel_rfl,of_decide_eq_true (by kernel_rfl)⟩
  exact⟨by kernel_rfl,of_decide_eq_true (by kernel_rfl)⟩
 match i with
 |0=>simp at hx c;subst hx c;exact C
 |1=>simp at hx c;subst hx c;exact D
 |i+2=>simp at hx
def pR(cs:Array Value):Obj->Obj
 | .cells _ t a=> .cells cs t a
 |o=>o
noncomputable def cS(os:Os):World:=
 {World.holding Tryz.prog os ⟨#[],#[],[]⟩with heap:=((World.holding Tryz.prog os ⟨#[],#[],[]⟩).heap.modify 0 (pR #[.int .i64 1,.int .i64 0,.int .i64 0,.int .i64 0,.int .i64 1,.int .i64 0,.int .i64 0,.int .i64 0,.int .i64 1,.int .i64 0,.int .i64 0,.int .i64 0,.int .i64 1])).modify 2 (pR #[.int .i64 0,.int .i64 1,.int .i64 2,.int .i64 0,.int .i64 2,.int .i64 1,.int .i64 1,.int .i64 0,.int .i64 2,.int .i64 1,.int .i64 2,.int .i64 0,.int .i64 2,.int .i64 0,.int .i64 1,.int .i64 2,.int .i64 1,.int .i64 0])}
def GP:Array Value:= #[.agg #[.slice none 0 0,.slice none 0 0],.agg #[.int .i64 0,.string ⟨#[]⟩,.string ⟨#[]⟩,.int .i64 0,.string ⟨#[]⟩,.int .i64 0,.slice none 0 0,.slice none 0 0,.slice none 0 0]]
theorem SB(os:Os):laidMet Tryz.prog Rows.historyAppliesUptoRow.laid ((cS os).forCall (λ_ _=>0) ⟨#[],GP,[]⟩).memory:=
 laidMet_of_run' 8 (by kernel_rfl) (by kernel_rfl)
theorem reads(os:Os){H:Type}(enc:TypeId×Value->H):∃a,DataW.whole enc Tryz.prog ((cS os).forCall (λ_ _=>0) ⟨#[],GP,[]⟩).memory Tryz.f3.params.toList Rows.historyAppliesSpec.vars false GP.toList 8=some ([.agg [.nil,.nil],.agg [.lit (.int .i64 0),.lit (.string []),.lit (.string []),.lit (.int .i64 0),.agg [.lit (.string []),.agg [.lit (.int .i64 0),.nil,.agg [.nil]],.nil]]],[],a):=
 ⟨[],by kernel_rfl⟩
set_option maxRecDepth 100000 in
theorem DV(os:Os)(a:os.Started)(H:Type)(enc:TypeId×Value->H)(F:Stop.Interp):
  ReturnsInHanded {} Tryz.checked os 3 .any ((Rows.OpenSpec.upto Rows.historyAppliesSpec).preRow enc Tryz.prog Tryz.f3 Rows.historyAppliesUptoRow.domain false Rows.historyAppliesUptoRow.laid) (((Rows.OpenSpec.upto Rows.historyAppliesSpec).at F).post enc Tryz.prog Tryz.f3 false true false false):=by
 obtain⟨e,hx⟩:=reads os enc;refine returnsInHanded_of_row (C:=Tryz.checked) (s:=Rows.OpenSpec.upto Rows.historyAppliesSpec) own a (by kernel_rfl) Tryz.func3
  (witness_row_at (enc:=enc) (C:=Tryz.checked) false (cS os) GP rfl (by kernel_rfl) (by kernel_rfl) (by kernel_rfl)
   (OpenSpec.preRow_of_cond 8 hx (by kernel_rfl) (λk g=>by cases g;kernel_rfl) (by kernel_rfl) (SB os))) ?_
 intro W base args ds gs b d f _ c _ h _ _;exact UF H enc W base args ds gs b d f (of_decide_eq_true (c _ rfl))
theorem row_holds:Rows.HistoryAppliesUptoSaid:=
 OpenClaim.holds_of_cond 3 Tryz.f3 rfl rfl rfl rfl rfl rfl rfl ⟨rfl,rfl,rfl,rfl,rfl⟩ rfl rfl rfl rfl rfl (by kernel_rfl) Tryz.func3 closed
  (of_decide_eq_true (by kernel_rfl)) (by unfold Func.isWrapper;first|(rw[if_pos (by decide+kernel)];kernel_rfl)|(rw[if_neg (by decide+kernel)];exact⟨rfl,rfl⟩))
  (λos a H enc _ F=>by rw[OpenClaim.pre_eq_preRow];exact DV os a H enc F)
end Go.Proofs.YtjhpceooekjbfaaGreatDoor
