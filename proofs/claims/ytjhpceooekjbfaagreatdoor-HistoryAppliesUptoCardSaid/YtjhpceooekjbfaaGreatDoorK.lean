/- A part of the proof for HistoryApplies: SFs. Printed from longer texts. -/
import Derived.Test.YtjhpceooekjbfaaGreatDoorJ
set_option linter.all false
set_option maxHeartbeats 64000000
namespace Go.Proofs.YtjhpceooekjbfaaGreatDoor
set_option maxRecDepth 1000000
theorem q6:(Tryz.prog.stopKnobs==[])=true:=by kernel_rfl
theorem q7:(Rows.historyAppliesUptoRow.maps==(Tryz.f3.params.toList++(Rows.OpenSpec.upto Rows.historyAppliesSpec).bare.plain.varTypes Tryz.prog).any (Tryz.prog.mapsRec ·))=true:=by kernel_rfl
theorem q8:(Rows.historyAppliesUptoRow.ifaces==(Tryz.f3.params.toList++(Rows.OpenSpec.upto Rows.historyAppliesSpec).bare.plain.varTypes Tryz.prog).any (Tryz.prog.ifacesRec ·))=true:=by kernel_rfl
theorem q9:(Rows.historyAppliesUptoRow.mapsOut==Tryz.prog.mapsAmong Tryz.f3.resultTypes.toList)=true:=by kernel_rfl
theorem q10:(Rows.historyAppliesUptoRow.loops==(Tryz.f3.params.toList++(Rows.OpenSpec.upto Rows.historyAppliesSpec).bare.plain.varTypes Tryz.prog).any (Tryz.prog.loopsFrom ·))=true:=by kernel_rfl
theorem q11:(Rows.historyAppliesUptoRow.wideKeys==(Tryz.f3.params.toList++(Rows.OpenSpec.upto Rows.historyAppliesSpec).bare.plain.varTypes Tryz.prog++Tryz.f3.resultTypes.toList).any (Tryz.prog.wideKeysFrom ·))=true:=by kernel_rfl
end Go.Proofs.YtjhpceooekjbfaaGreatDoor
