/- A part of the proof for HistoryParams: SFs. Printed from longer texts. -/
import Derived.Test.YtjhmidapljifbaaGreatDoorK
set_option linter.all false
set_option maxHeartbeats 64000000
namespace Go.Proofs.YtjhmidapljifbaaGreatDoor
set_option maxRecDepth 1000000
theorem q6:(Tryz.prog.stopKnobs==[])=true:=by kernel_rfl
theorem q7:(Rows.historyParamsUptoRow.maps==(Tryz.f3.params.toList++(Rows.OpenSpec.upto Rows.historyParamsSpec).bare.plain.varTypes Tryz.prog).any (Tryz.prog.mapsRec ·))=true:=by kernel_rfl
theorem q8:(Rows.historyParamsUptoRow.ifaces==(Tryz.f3.params.toList++(Rows.OpenSpec.upto Rows.historyParamsSpec).bare.plain.varTypes Tryz.prog).any (Tryz.prog.ifacesRec ·))=true:=by kernel_rfl
theorem q9:(Rows.historyParamsUptoRow.mapsOut==Tryz.prog.mapsAmong Tryz.f3.resultTypes.toList)=true:=by kernel_rfl
theorem q10:(Rows.historyParamsUptoRow.loops==(Tryz.f3.params.toList++(Rows.OpenSpec.upto Rows.historyParamsSpec).bare.plain.varTypes Tryz.prog).any (Tryz.prog.loopsFrom ·))=true:=by kernel_rfl
theorem q11:(Rows.historyParamsUptoRow.wideKeys==(Tryz.f3.params.toList++(Rows.OpenSpec.upto Rows.historyParamsSpec).bare.plain.varTypes Tryz.prog++Tryz.f3.resultTypes.toList).any (Tryz.prog.wideKeysFrom ·))=true:=by kernel_rfl
end Go.Proofs.YtjhmidapljifbaaGreatDoor
