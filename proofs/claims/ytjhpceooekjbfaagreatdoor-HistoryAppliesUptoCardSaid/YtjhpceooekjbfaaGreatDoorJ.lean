/- A part of the proof for HistoryApplies: SFq. Printed from longer texts. -/
import Derived.Test.YtjhpceooekjbfaaGreatDoorI
set_option linter.all false
set_option maxHeartbeats 64000000
open List renaming range->fc
namespace Go.Proofs.YtjhpceooekjbfaaGreatDoor
set_option maxRecDepth 1000000
theorem q0:(Rows.historyAppliesUptoRow.wf (OpenSpec.ofChange (Rows.OpenSpec.upto Rows.historyAppliesSpec).bare))=true:=by kernel_rfl
theorem q1a:(fc Tryz.prog.types.size).all (rowFine Tryz.prog)=true:=by kernel_rfl
theorem q1b:Tryz.prog.globals.all (λg=>decide (g.type<Tryz.prog.types.size))=true:=by kernel_rfl
theorem q1c:Tryz.prog.funcs.all (λf=>f.params.all λt=>decide (t<Tryz.prog.types.size))=true:=by kernel_rfl
theorem q1:(laidOutB Tryz.prog)=true:=by
 unfold laidOutB;rw[q1a,q1b,q1c];rfl
theorem q2:(mapsRowed Tryz.prog)=true:=by kernel_rfl
theorem q3:(Tryz.f3.params.all (Tryz.prog.readableRec ·))=true:=by kernel_rfl
theorem q4:(namedTie Tryz.prog Rows.historyAppliesUptoRow.named (Rows.OpenSpec.upto Rows.historyAppliesSpec).bare.vars)=true:=by kernel_rfl
theorem q5:(Tryz.prog.stops==[])=true:=by kernel_rfl
end Go.Proofs.YtjhpceooekjbfaaGreatDoor
