/- The examples' second form of nothing, reckoned by the kernel, with the parts that are known; no condition. -/
import Derived.Test.YtkcjbgepmkhdaaaGreatDoorAa
import Derived.Test.YtkcjbgepmkhdaaaGreatDoorAb
import Derived.Test.YtkcjbgepmkhdaaaGreatDoorAe
import Derived.Test.YtkcjbgepmkhdaaaGreatDoorAf
set_option linter.defProp false
set_option linter.unusedSimpArgs false
set_option linter.unusedVariables false
set_option linter.unnecessarySimpa false
open Go Gh Go.Proofs
namespace Go.Proofs.YtkcjbgepmkhdaaaGreatDoor
set_option maxRecDepth 100000
noncomputable def known : List Known := ([10, 13].map fun f => { f := f, args := [.slice (some (1, 0)) 320 320 none], h := [h00.getD 0 .dead, .cells (List.replicate 320 (.int .i64 0)) .rw], r := .tuple [.slice (some (2, 0)) 320 320 none, .int .i64 0], h' := [h00.getD 0 .dead, .cells (List.replicate 320 (.int .i64 0)) .rw, .cells (List.replicate 320 (.int .i64 0)) .rw] }) ++ [{ f := 83, args := [.slice (some (1, 0)) 2 2 none], h := [h00.getD 0 .dead, .cells [.slice (some (2, 0)) 320 320 none, .slice (some (3, 0)) 13 13 none] .rw, .cells (List.replicate 320 (.int .i64 0)) .rw, .cells (List.replicate 13 (.int .i64 0)) .rw], r := .slice (some (4, 0)) 333 333 (some 1), h' := [h00.getD 0 .dead, .cells [.slice (some (2, 0)) 320 320 none, .slice (some (3, 0)) 13 13 none] .rw, .cells (List.replicate 320 (.int .i64 0)) .rw, .cells (List.replicate 13 (.int .i64 0)) .rw, .cells (List.replicate 333 (.int .i64 0)) .rw] }] ++ ([10, 13].map fun f => { f := f, args := [.slice (some (1, 0)) 13 13 none], h := [h00.getD 0 .dead, .cells (List.replicate 13 (.int .i64 0)) .rw], r := .tuple [.slice (some (2, 0)) 13 13 none, .int .i64 0], h' := [h00.getD 0 .dead, .cells (List.replicate 13 (.int .i64 0)) .rw, .cells (List.replicate 13 (.int .i64 0)) .rw] })
theorem known_ok : ∀ e ∈ known, CallsG Tryz.prog gl1 e.f e.args e.h fun a b => (a, b) = (e.r, e.h') := by
  intro e he
  have ok := shrunk_ok (k0 := 1) (P := Tryz.prog) (gl := gl1) gl1_low fun f args h r hx => gcallC_sound (k0 := 1) gl1_low hD npOk (loops := 400) (n := 20) hx
  simp only [known, List.map_cons, List.map_nil, List.cons_append, List.nil_append, List.mem_cons, List.not_mem_nil, or_false] at he
  rcases he with rfl | rfl | rfl | rfl | rfl
  · exact ok _ _ _ _ runK1
  · exact ok _ _ _ _ runK2
  · exact ok _ _ _ _ runK4
  · exact ok _ _ _ _ runK5
  · exact ok _ _ _ _ runK6
theorem runK3 : shrunk 1 (gcallC Tryz.prog gl1 1 (viaKnown 1 known) 400 20) 51 [.slice none 0 0 none] [h00.getD 0 .dead] = some (.slice (some (1, 0)) 167 167 none, [h00.getD 0 .dead, .cells (List.replicate 167 (.int .u8 0)) .rw]) := by kernel_rfl
end Go.Proofs.YtkcjbgepmkhdaaaGreatDoor
