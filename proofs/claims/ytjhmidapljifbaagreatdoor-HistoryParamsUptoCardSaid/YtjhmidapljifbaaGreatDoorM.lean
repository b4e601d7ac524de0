/- A part of the proof for HistoryParams: SFr. Printed from longer texts. -/
import Derived.Test.YtjhmidapljifbaaGreatDoorL
import GoSem.ClaimSevenParts
import GoSem.ClaimGoes
set_option linter.all false
set_option maxHeartbeats 64000000
open Bool renaming true_or→Ho
open Go.Func renaming goes→aL6
namespace Go.Proofs.YtjhmidapljifbaaGreatDoor
set_option maxRecDepth 1000000
theorem q12:(Tryz.f3.resultTypes.all (fun t=>Tryz.prog.readableRec t&&decide (t<Tryz.prog.types.size)))=true:=by kernel_rfl
theorem q13:(Rows.historyParamsUptoRow.plainKeys==Tryz.prog.plainKeys)=true:=by kernel_rfl
theorem q14:(Tryz.prog.stopsHeard)=true:=by kernel_rfl
theorem q15:(Tryz.prog.mayEnter)=true:=by kernel_rfl
theorem q16:(Rows.historyParamsUptoRow.lifted==Tryz.prog.liftsFinal)=true:=by kernel_rfl
theorem q17:(Tryz.prog.make==some Rows.historyParamsUptoRow.make)=true:=by kernel_rfl
theorem q18:(Rows.historyParamsUptoRow.pinned==Rows.historyParamsUptoRow.pinnedBy)=true:=by kernel_rfl
theorem q19:(Rows.historyParamsUptoRow.veiledFits Tryz.prog Tryz.f3.params.toList (Tryz.f3.params.toList++(Rows.OpenSpec.upto Rows.historyParamsSpec).bare.plain.varTypes Tryz.prog++Tryz.f3.resultTypes.toList))=true:=by kernel_rfl
theorem ay1:false=Tryz.prog.looks []:=by kernel_rfl
theorem auj:Tryz.prog.funcs.toList.any aL6=false:=by kernel_rfl
theorem closed:joinedFacts Tryz.prog 3 Tryz.f3 (Rows.OpenSpec.upto Rows.historyParamsSpec).bare Rows.historyParamsUptoRow=true:=by
 have h1:(Rows.historyParamsUptoRow.inPlace==Tryz.prog.inPlace 3)=true:=by rw[aor];rfl
 have h2:(Rows.historyParamsUptoRow.unfollowed==Tryz.prog.unfollowed 3)=true:=by rw[azf];rfl
 have h3:(Rows.historyParamsUptoRow.recurses==Tryz.prog.recurses 3)=true:=by unfold Program.recurses;rw[azf,Ho];rfl
 have h4:(Rows.historyParamsUptoRow.named==Tryz.prog.varsNamed 3)=true:=by rw[ay7];rfl
 unfold joinedFacts;rw[h1,h2,h3,h4,q0,q1,q2,q3,q4,q5,q6,q7,q8,q9,q10,q11,q12,q13,q14,q15,q16,q17,q18,q19];show _=true
 kernel_rfl
end Go.Proofs.YtjhmidapljifbaaGreatDoor
