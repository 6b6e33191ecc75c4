/- The package's variable in the ghost: the table of the two hashes; no condition. -/
import Derived.Test.YtkcjbgepmkhdaaaGreatDoorGe
import Derived.Test.YtkcjbgepmkhdaaaGreatDoorProg
import Derived.KernelRfl
set_option linter.defProp false
set_option linter.unusedSimpArgs false
set_option linter.unusedVariables false
set_option linter.unnecessarySimpa false
open Go Gh Go.Proofs
namespace Go.Proofs.YtkcjbgepmkhdaaaGreatDoor
set_option maxRecDepth 100000
noncomputable def gl1 : Nat → Option Nat := fun g => if g = 0 then some 0 else none
noncomputable def h00 : GHeap := [.cells [.str [115, 117, 109], .func (.func 33) [] [], .str [112, 111, 108, 121], .func (.func 30) [] []] .ro]
theorem mix : Tryz.prog.follows .mixedOrders = true := by kernel_rfl
theorem hD : DrawSound Tryz.prog gl1 := drawSound mix gl1
def np : FuncId → List GVal → GHeap → Ans := fun _ _ _ => none
theorem npOk : PrimOK Tryz.prog gl1 np := fun _ _ _ _ h => by cases h
theorem gl1_low : ∀ g id, gl1 g = some id → id < h00.length := by
  intro g id h
  unfold gl1 at h
  split at h
  · cases h; decide
  · cases h
theorem h00_ro : ∀ o ∈ h00, o.wr = false := by
  intro o ho
  simp only [h00, List.mem_singleton] at ho
  subst ho; rfl
theorem h00_id : ∀ (ρ : Nat → Nat), ∀ o ∈ h00, renObj ρ o = o := by
  intro ρ o ho
  simp only [h00, List.mem_singleton] at ho
  subst ho; rfl
theorem evals {f : FuncId} {args : List GVal} {h h' : GHeap} {r : GVal} (hx : gcallP Tryz.prog gl1 np 9 9 f args h = some (r, h')) : CallsG Tryz.prog gl1 f args h fun a b => a = r ∧ b = h' :=
  (gcallP_sound hD npOk hx).mono fun a b e => by cases e; exact ⟨rfl, rfl⟩
end Go.Proofs.YtkcjbgepmkhdaaaGreatDoor
