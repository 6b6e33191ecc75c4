/- A part of the examples, reckoned by the kernel; no condition. -/
import Derived.Test.YtkcjbgepmkhdaaaGreatDoorBa
import Derived.Test.YtkcjbgepmkhdaaaGreatDoorGe
import Derived.KernelRfl
set_option linter.defProp false
set_option linter.unusedSimpArgs false
set_option linter.unusedVariables false
set_option linter.unnecessarySimpa false
open Go Gh Go.Proofs
namespace Go.Proofs.YtkcjbgepmkhdaaaGreatDoor
set_option maxRecDepth 100000
theorem runK4 : shrunk 1 (gcallC Tryz.prog gl1 1 np 400 20) 83 [.slice (some (1, 0)) 2 2 none] [h00.getD 0 .dead, .cells [.slice (some (2, 0)) 320 320 none, .slice (some (3, 0)) 13 13 none] .rw, .cells (List.replicate 320 (.int .i64 0)) .rw, .cells (List.replicate 13 (.int .i64 0)) .rw] = some (.slice (some (4, 0)) 333 333 (some 1), [h00.getD 0 .dead, .cells [.slice (some (2, 0)) 320 320 none, .slice (some (3, 0)) 13 13 none] .rw, .cells (List.replicate 320 (.int .i64 0)) .rw, .cells (List.replicate 13 (.int .i64 0)) .rw, .cells (List.replicate 333 (.int .i64 0)) .rw]) := by kernel_rfl
end Go.Proofs.YtkcjbgepmkhdaaaGreatDoor
