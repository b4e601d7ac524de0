/- HistoryBack, where what it reads is of bulk at most 1048576: for every tree and every list of edits the law returns true, and both arguments read afterwards as they did. The card ties move.identity and move.orders to the program's text; num.One is left open, and the run never reads it. -/
import Derived.Test.YtcpkpdmejlfemaaGreatDoorL
set_option linter.all false
set_option maxHeartbeats 64000000
open Bool renaming and_false→o9,or_false→Sq
open List renaming all_eq_true→ck,any_eq_true→Dh
open Option.some renaming inj→aAo
namespace Go.Proofs.YtcpkpdmejlfemaaGreatDoor
theorem any_none{α:Type}{p:α→Bool}{o:Option α}(h:o.any p=true):∃a,o=some a∧p a=true:=by
 cases o with
 |none=>cases h
 |some a=>exact⟨a,rfl,h⟩
theorem ak1{P:Program}(h:P.funcs.toList.any Func.goes=false)(f:FuncId):P.goes f=false:=by
 have h':P.funcs.any Func.goes=false:=by rw[←Array.any_toList];exact h
 unfold Program.goes;rw[h',o9,Sq]
 cases hc:(P.closure f).any fun g=>(P.funcs[g]?).any Func.goes
 ·rfl
 ·obtain⟨g,_,hg⟩:=Dh.1 hc
  obtain⟨fn,hfn,hgo⟩:=any_none hg;have:P.funcs.toList.any Func.goes=true:=Dh.2 ⟨fn,Array.mem_toList_iff.2 (Array.mem_of_getElem? hfn),hgo⟩;rw[h]at this;cases this
theorem aex:false=Rows.historyBackUptoRow.goesBy Tryz.prog:=by
 unfold OpenClaim.goesBy Program.goesAt Program.goesFrom
 have e:∀o:Option FuncId,o.any Tryz.prog.goes=false:=by
  intro o
  cases o with
  |none=>rfl
  |some f=>rw[Option.any_some];exact ak1 aps f
 rw[e];rfl
theorem card_holds:Rows.HistoryBackUptoCardSaid:=
 Claim7.holds_tied_plain_at .later [] [.data,.data] true (true,"6184caadc6ebdcfe404d341e369e4386222e78bf6cf33168c0ea1c133963927a") false row_holds (fun _ h=>by cases h) (by kernel_rfl) (fun _ h=>by cases h) historyBackUpto_row_tie rfl ⟨rfl,rfl⟩ (by kernel_rfl) rfl
  (fun f fn hf hfn=>by
   obtain rfl:f=3:=aAo ((show Tryz.prog.funcNamed "spokeshave/spokeshavelaw25.HistoryBack"=some 3 by kernel_rfl).symm.trans hf)|>.symm
   obtain rfl:fn=Tryz.f3:=(aAo (Tryz.func3.symm.trans hfn)).symm
   exact⟨ath,fun j t ht=>by
    rw[Tryz.params3]at ht
    have hm:t∈[25,26]:=by simpa using Array.mem_of_getElem? ht
    have hall:([25,26].all fun u=> !Tryz.prog.wantsStandIn u)=true:=by kernel_rfl
    exact(show Tryz.prog.wantsStandIn t=false by simpa using ck.1 hall t hm)⟩)
  aex
end Go.Proofs.YtcpkpdmejlfemaaGreatDoor
