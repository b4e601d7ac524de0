/- A part of the proof for HistoryApplies: SFr. Printed from longer texts. -/
import Derived.Test.YtjhpceooekjbfaaGreatDoorK
import GoSem.ClaimSevenParts
import GoSem.ClaimGoes
set_option linter.all false
set_option maxHeartbeats 64000000
open Bool renaming true_or->D1
open Go.Func renaming goes->afj
namespace Go.Proofs.YtjhpceooekjbfaaGreatDoor
set_option maxRecDepth 1000000
theorem q12:(Tryz.f3.resultTypes.all (λt=>Tryz.prog.readableRec t&&decide (t<Tryz.prog.types.size)))=true:=by kernel_rfl
theorem q13:(Rows.historyAppliesUptoRow.plainKeys==Tryz.prog.plainKeys)=true:=by kernel_rfl
theorem q14:(Tryz.prog.stopsHeard)=true:=by kernel_rfl
theorem q15:(Tryz.prog.mayEnter)=true:=by kernel_rfl
theorem q16:(Rows.historyAppliesUptoRow.lifted==Tryz.prog.liftsFinal)=true:=by kernel_rfl
theorem q17:(Tryz.prog.make==some Rows.historyAppliesUptoRow.make)=true:=by kernel_rfl
theorem q18:(Rows.historyAppliesUptoRow.pinned==Rows.historyAppliesUptoRow.pinnedBy)=true:=by kernel_rfl
theorem q19:(Rows.historyAppliesUptoRow.veiledFits Tryz.prog Tryz.f3.params.toList (Tryz.f3.params.toList++(Rows.OpenSpec.upto Rows.historyAppliesSpec).bare.plain.varTypes Tryz.prog++Tryz.f3.resultTypes.toList))=true:=by kernel_rfl
theorem a01:false=Tryz.prog.looks []:=by kernel_rfl
theorem VB:Tryz.prog.funcs.toList.any afj=false:=by kernel_rfl
theorem closed:joinedFacts Tryz.prog 3 Tryz.f3 (Rows.OpenSpec.upto Rows.historyAppliesSpec).bare Rows.historyAppliesUptoRow=true:=by
 have a:(Rows.historyAppliesUptoRow.inPlace==Tryz.prog.inPlace 3)=true:=by rw[ND];rfl
 have b:(Rows.historyAppliesUptoRow.unfollowed==Tryz.prog.unfollowed 3)=true:=by rw[a1f];rfl
 have c:(Rows.historyAppliesUptoRow.recurses==Tryz.prog.recurses 3)=true:=by unfold Program.recurses;rw[a1f,D1];rfl
 have d:(Rows.historyAppliesUptoRow.named==Tryz.prog.varsNamed 3)=true:=by rw[a05];rfl
 unfold joinedFacts;rw[a,b,c,d,q0,q1,q2,q3,q4,q5,q6,q7,q8,q9,q10,q11,q12,q13,q14,q15,q16,q17,q18,q19];show _=true
 kernel_rfl
end Go.Proofs.YtjhpceooekjbfaaGreatDoor
