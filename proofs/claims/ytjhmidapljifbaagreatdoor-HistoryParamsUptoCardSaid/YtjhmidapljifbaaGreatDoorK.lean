/- A part of the proof for HistoryParams: SFq. Printed from longer texts. -/
import Derived.Test.YtjhmidapljifbaaGreatDoorJ
set_option linter.all false
set_option maxHeartbeats 64000000
open List renaming range→dn
namespace Go.Proofs.YtjhmidapljifbaaGreatDoor
set_option maxRecDepth 1000000
theorem q0:(Rows.historyParamsUptoRow.wf (OpenSpec.ofChange (Rows.OpenSpec.upto Rows.historyParamsSpec).bare))=true:=by kernel_rfl
theorem q1a:(dn Tryz.prog.types.size).all (rowFine Tryz.prog)=true:=by kernel_rfl
theorem q1b:Tryz.prog.globals.all (fun g=>decide (g.type<Tryz.prog.types.size))=true:=by kernel_rfl
theorem q1c:Tryz.prog.funcs.all (fun f=>f.params.all fun t=>decide (t<Tryz.prog.types.size))=true:=by kernel_rfl
theorem q1:(laidOutB Tryz.prog)=true:=by
 unfold laidOutB;rw[q1a,q1b,q1c];rfl
theorem q2:(mapsRowed Tryz.prog)=true:=by kernel_rfl
theorem q3:(Tryz.f3.params.all (Tryz.prog.readableRec ·))=true:=by kernel_rfl
theorem q4:(namedTie Tryz.prog Rows.historyParamsUptoRow.named (Rows.OpenSpec.upto Rows.historyParamsSpec).bare.vars)=true:=by kernel_rfl
theorem q5:(Tryz.prog.stops==[])=true:=by kernel_rfl
end Go.Proofs.YtjhmidapljifbaaGreatDoor
