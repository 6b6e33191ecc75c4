/- A part of the examples, reckoned by the kernel; no condition. -/
import Derived.Test.YtkcjbgepmkhdaaaGreatDoorBa
import Derived.Test.YtkcjbgepmkhdaaaGreatDoorGe
import Derived.KernelRfl
set_option linter.defProp false
set_option linter.unusedSimpArgs false
set_option linter.unusedVariables false
set_option linter.unnecessarySimpa false
open Go Gh Go.Proofs
namespace Go.Proofs.YtkcjbgepmkhdaaaGreatDoor
set_option maxRecDepth 100000
theorem runK2 : shrunk 1 (gcallC Tryz.prog gl1 1 np 400 20) 13 [.slice (some (1, 0)) 320 320 none] [h00.getD 0 .dead, .cells (List.replicate 320 (.int .i64 0)) .rw] = some (.tuple [.slice (some (2, 0)) 320 320 none, .int .i64 0], [h00.getD 0 .dead, .cells (List.replicate 320 (.int .i64 0)) .rw, .cells (List.replicate 320 (.int .i64 0)) .rw]) := by kernel_rfl
end Go.Proofs.YtkcjbgepmkhdaaaGreatDoor
