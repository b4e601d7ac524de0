/- HistoryParams, where what it reads is of bulk at most 1048576: for every tree, every name and every value the law returns true, and the arguments read afterwards as they did. The card ties the tables of math/bits and internal/strconv, move.identity and move.orders to the program's text; num.One is left open, and the run never reads it. -/
import Derived.Test.YtjhmidapljifbaaGreatDoorN
set_option linter.all false
set_option maxHeartbeats 64000000
open Array renaming mem_of_getElem?→aIs
open Bool renaming and_false→qo,or_false→Vj
open Go.Func renaming goes→aL6
open List renaming all_eq_true→cz,any_eq_true→A9
open Option.some renaming inj→av0
namespace Go.Proofs.YtjhmidapljifbaaGreatDoor
theorem any_none{α:Type}{p:α→Bool}{o:Option α}(h:o.any p=true):∃a,o=some a∧p a=true:=by
 cases o with
 |none=>cases h
 |some a=>exact⟨a,rfl,h⟩
theorem aof{P:Program}(h:P.funcs.toList.any aL6=false)(f:FuncId):P.goes f=false:=by
 have h':P.funcs.any aL6=false:=by rw[←Array.any_toList];exact h
 unfold Program.goes;rw[h',qo,Vj];cases hc:(P.closure f).any fun g=>(P.funcs[g]?).any aL6
 ·rfl
 obtain⟨g,_,hg⟩:=A9.1 hc;obtain⟨fn,hfn,hgo⟩:=any_none hg;have:P.funcs.toList.any aL6=true:=A9.2 ⟨fn,Array.mem_toList_iff.2 (aIs hfn),hgo⟩;rw[h]at this;cases this
theorem aj1:false=Rows.historyParamsUptoRow.goesBy Tryz.prog:=by
 unfold OpenClaim.goesBy Program.goesAt Program.goesFrom
 have e:∀o:Option FuncId,o.any Tryz.prog.goes=false:=by
  intro o
  cases o with
  |none=>rfl
  |some f=>rw[Option.any_some];exact aof auj f
 rw[e];rfl
theorem card_holds:Rows.HistoryParamsUptoCardSaid:=
 Claim7.holds_tied_plain_at .later [] [.data,.data,.data,.data,.data] true (true,"c6e67fc973cbeab0a3893693a1043e77dfa61c50a9f8eab47f46c90d6943bf01") false row_holds (fun _ h=>by cases h) (by kernel_rfl) (fun _ h=>by cases h) historyParamsUpto_row_tie rfl ⟨rfl,rfl⟩ (by kernel_rfl) rfl
  (fun f fn hf hfn=>by
   obtain rfl:f=3:=av0 ((show Tryz.prog.funcNamed "spokeshave/spokeshavelaw25.HistoryParams"=some 3 by kernel_rfl).symm.trans hf)|>.symm;obtain rfl:fn=Tryz.f3:=(av0 (Tryz.func3.symm.trans hfn)).symm
   exact⟨ay1,fun j t ht=>by
    rw[Tryz.params3]at ht
    have hm:t∈[25,9,2]:=by simpa using aIs ht
    have hall:([25,9,2].all fun u=> !Tryz.prog.wantsStandIn u)=true:=by kernel_rfl
    exact(show Tryz.prog.wantsStandIn t=false by simpa using cz.1 hall t hm)⟩)
  aj1
end Go.Proofs.YtjhmidapljifbaaGreatDoor
