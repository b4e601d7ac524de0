/- HistoryNames, where what it reads is of bulk at most 1048576: for every tree and every two names the law returns true, and the arguments read afterwards as they did. The card ties the tables of math/bits and internal/strconv, move.identity and move.orders to the program's text; num.One is left open, and the run never reads it. -/
import Derived.Test.YtakonfolegckgaaGreatDoorO
set_option linter.all false
set_option maxHeartbeats 64000000
open Array renaming mem_of_getElem?→aJd
open Bool renaming and_false→qq,or_false→W6
open Go.Func renaming goes→aLp
open List renaming all_eq_true→dj,any_eq_true→Av
open Option.some renaming inj→avj
namespace Go.Proofs.YtakonfolegckgaaGreatDoor
theorem any_none{α:Type}{p:α→Bool}{o:Option α}(h:o.any p=true):∃a,o=some a∧p a=true:=by
 cases o with
 |none=>cases h
 |some a=>exact⟨a,rfl,h⟩
theorem ap9{P:Program}(h:P.funcs.toList.any aLp=false)(f:FuncId):P.goes f=false:=by
 have h':P.funcs.any aLp=false:=by rw[←Array.any_toList];exact h
 unfold Program.goes;rw[h',qq,W6];cases hc:(P.closure f).any fun g=>(P.funcs[g]?).any aLp
 ·rfl
 obtain⟨g,_,hg⟩:=Av.1 hc;obtain⟨fn,hfn,hgo⟩:=any_none hg;have:P.funcs.toList.any aLp=true:=Av.2 ⟨fn,Array.mem_toList_iff.2 (aJd hfn),hgo⟩;rw[h]at this;cases this
theorem ajw:false=Rows.historyNamesUptoRow.goesBy Tryz.prog:=by
 unfold OpenClaim.goesBy Program.goesAt Program.goesFrom
 have e:∀o:Option FuncId,o.any Tryz.prog.goes=false:=by
  intro o
  cases o with
  |none=>rfl
  |some f=>rw[Option.any_some];exact ap9 av5 f
 rw[e];rfl
theorem card_holds:Rows.HistoryNamesUptoCardSaid:=
 Claim7.holds_tied_plain_at .later [] [.data,.data,.data,.data,.data] true (true,"195d47b87043c9c378a250253a1a53a4da97b523966e0c9f721cd5ce78c79b43") false row_holds (fun _ h=>by cases h) (by kernel_rfl) (fun _ h=>by cases h) historyNamesUpto_row_tie rfl ⟨rfl,rfl⟩ (by kernel_rfl) rfl
  (fun f fn hf hfn=>by
   obtain rfl:f=3:=avj ((show Tryz.prog.funcNamed "spokeshave/spokeshavelaw25.HistoryNames"=some 3 by kernel_rfl).symm.trans hf)|>.symm;obtain rfl:fn=Tryz.f3:=(avj (Tryz.func3.symm.trans hfn)).symm
   exact⟨ayn,fun j t ht=>by
    rw[Tryz.params3]at ht
    have hm:t∈[25,9]:=by simpa using aJd ht
    have hall:([25,9].all fun u=> !Tryz.prog.wantsStandIn u)=true:=by kernel_rfl
    exact(show Tryz.prog.wantsStandIn t=false by simpa using dj.1 hall t hm)⟩)
  ajw
end Go.Proofs.YtakonfolegckgaaGreatDoor
