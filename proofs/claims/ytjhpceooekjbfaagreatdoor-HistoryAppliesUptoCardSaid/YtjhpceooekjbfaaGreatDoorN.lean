/- HistoryApplies, where what it reads is of bulk at most 1048576: for every tree and every edit the law returns true, and the arguments read afterwards as they did. The card ties move.identity and move.orders to the program's text; num.One is left open, and the run never reads it. -/
import Derived.Test.YtjhpceooekjbfaaGreatDoorM
set_option linter.all false
set_option maxHeartbeats 64000000
open Array renaming mem_of_getElem?->ad4
open Bool renaming and_false->sf,or_false->R0
open Go.Func renaming goes->afj
open List renaming all_eq_true->dg,any_eq_true->Bm
open Option.some renaming inj->a8l
namespace Go.Proofs.YtjhpceooekjbfaaGreatDoor
theorem any_none{α:Type}{p:α->Bool}{o:Option α}(h:o.any p=true):∃a,o=some a/\p a=true:=by
 cases o with
 |none=>cases h
 |some a=>exact⟨a,rfl,h⟩
theorem MQ{P:Program}(h:P.funcs.toList.any afj=false)(f:FuncId):P.goes f=false:=by
 have d:P.funcs.any afj=false:=by rw[<-Array.any_toList];exact h
 unfold Program.goes;rw[d,sf,R0];cases e:(P.closure f).any λg=>(P.funcs[g]?).any afj
 ·rfl
 obtain⟨g,_,i⟩:=Bm.1 e;obtain⟨c,a,b⟩:=any_none i;have:P.funcs.toList.any afj=true:=Bm.2 ⟨c,Array.mem_toList_iff.2 (ad4 a),b⟩;rw[h]at this;cases this
theorem EO:false=Rows.historyAppliesUptoRow.goesBy Tryz.prog:=by
 unfold OpenClaim.goesBy Program.goesAt Program.goesFrom
 have e:∀o:Option FuncId,o.any Tryz.prog.goes=false:=by
  intro o
  cases o with
  |none=>rfl
  |some f=>rw[Option.any_some];exact MQ VB f
 rw[e];rfl
theorem card_holds:Rows.HistoryAppliesUptoCardSaid:=
 Claim7.holds_tied_plain_at .later [] [.data,.data] true (true,"4be63331a8a627c0fc845e3e21059a65f6f6b8734c9109727c5853383b72910c") false row_holds (λ_ h=>by cases h) (by kernel_rfl) (λ_ h=>by cases h) historyAppliesUpto_row_tie rfl ⟨rfl,rfl⟩ (by kernel_rfl) rfl
  (λf d e b=>by
   obtain rfl:f=3:=a8l ((show Tryz.prog.funcNamed "spokeshave/spokeshavelaw25.HistoryApplies"=some 3 by kernel_rfl).symm.trans e)|>.symm;obtain rfl:d=Tryz.f3:=(a8l (Tryz.func3.symm.trans b)).symm
   exact⟨a01,λj t c=>by
    rw[Tryz.params3]at c
    have g:t∈[25,37]:=by simpa using ad4 c
    have a:([25,37].all λu=> !Tryz.prog.wantsStandIn u)=true:=by kernel_rfl
    exact(show Tryz.prog.wantsStandIn t=false by simpa using dg.1 a t g)⟩)
  EO
end Go.Proofs.YtjhpceooekjbfaaGreatDoor
