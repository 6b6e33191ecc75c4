/- The examples, reckoned by the kernel, with the parts that are known; no condition. -/
import Derived.Test.YtkcjbgepmkhdaaaGreatDoorAc
set_option linter.defProp false
set_option linter.unusedSimpArgs false
set_option linter.unusedVariables false
set_option linter.unnecessarySimpa false
open Go Gh Go.Proofs
namespace Go.Proofs.YtkcjbgepmkhdaaaGreatDoor
set_option maxRecDepth 100000
noncomputable def known2 : List Known := [{ f := 51, args := [.slice none 0 0 none], h := [h00.getD 0 .dead], r := .slice (some (1, 0)) 167 167 none, h' := [h00.getD 0 .dead, .cells (List.replicate 167 (.int .u8 0)) .rw] }]
theorem known2_ok : ∀ e ∈ known2, CallsG Tryz.prog gl1 e.f e.args e.h fun a b => (a, b) = (e.r, e.h') := by
  intro e he
  have ok := shrunk_ok (k0 := 1) (P := Tryz.prog) (gl := gl1) gl1_low fun f args h r hx => gcallC_sound (k0 := 1) gl1_low hD (viaKnown_ok gl1_low known_ok) (loops := 400) (n := 20) hx
  simp only [known2, List.mem_cons, List.not_mem_nil, or_false] at he
  subst he
  exact ok _ _ _ _ runK3
theorem awakeRun : tells (gcallC Tryz.prog gl1 1 (viaKnown 1 known2) 400 30 9 [] h00) = true := by kernel_rfl
theorem awake9 (h : GHeap) (hpre : ∀ (i : Nat) (o : GObj), h00[i]? = some o → h[i]? = some o) : CallsG Tryz.prog gl1 9 [] h fun r h' => r = .bool true ∧ h' = h :=
  CallsG.closedG hD (viaKnown_ok gl1_low known2_ok) gl1_low h00_ro h00_id hpre rfl awakeRun
end Go.Proofs.YtkcjbgepmkhdaaaGreatDoor
