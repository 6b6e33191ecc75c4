/- The groups of eight bytes, visited; numbers out of hexadecimal digits; no condition. -/
import Derived.Test.YtkcjbgepmkhdaaaGreatDoorQd
import Derived.Test.YtkcjbgepmkhdaaaGreatDoorVB
set_option linter.defProp false
set_option linter.unusedSimpArgs false
set_option linter.unusedVariables false
set_option linter.unnecessarySimpa false
open Go Gh Go.Proofs
namespace Go.Proofs.YtkcjbgepmkhdaaaGreatDoor
set_option maxRecDepth 100000
theorem closedInt {f : FuncId} {args : List GVal} {h : GHeap} {k : IntKind} {n : Int} {h' : GHeap} (hpre : ∀ (i : Nat) (o : GObj), h00[i]? = some o → h[i]? = some o) (ha : ∀ ρ, rens ρ args = args) (hx : gcallP Tryz.prog gl1 np 40 9 f args h00 = some (.int k n, h')) :
    CallsG Tryz.prog gl1 f args h fun r h' => r = .int k n ∧ h' = h := by
  refine CallsG.scalarG (Q := fun r => r = .int k n) gl1_low h00_ro h00_id hpre ha ?_
  refine (gcallP_sound hD npOk hx).mono fun a b e => ?_
  cases e
  exact ⟨rfl, Bare.int, fun _ => rfl⟩
theorem number69 {h : GHeap} (hpre : ∀ (i : Nat) (o : GObj), h00[i]? = some o → h[i]? = some o) : CallsG Tryz.prog gl1 69 [.str [50, 52, 51, 102, 54, 97, 56, 56, 56, 53, 97, 51, 48, 56, 100, 51]] h fun r h' => r = .int .u64 2611923443488327891 ∧ h' = h :=
  closedInt hpre (fun _ => rfl) (h' := [h00.getD 0 .dead, .siter [50, 52, 51, 102, 54, 97, 56, 56, 56, 53, 97, 51, 48, 56, 100, 51] 16]) (by kernel_rfl)
theorem number69b {h : GHeap} (hpre : ∀ (i : Nat) (o : GObj), h00[i]? = some o → h[i]? = some o) : CallsG Tryz.prog gl1 69 [.str [57, 101, 51, 55, 55, 57, 98, 57, 55, 102, 52, 97, 55, 99, 49, 53]] h fun r h' => r = .int .u64 11400714819323198485 ∧ h' = h :=
  closedInt hpre (fun _ => rfl) (h' := [h00.getD 0 .dead, .siter [57, 101, 51, 55, 55, 57, 98, 57, 55, 102, 52, 97, 55, 99, 49, 53] 16]) (by kernel_rfl)
theorem number69c {h : GHeap} (hpre : ∀ (i : Nat) (o : GObj), h00[i]? = some o → h[i]? = some o) : CallsG Tryz.prog gl1 69 [.str [98, 102, 53, 56, 52, 55, 54, 100, 49, 99, 101, 52, 101, 53, 98, 57]] h fun r h' => r = .int .u64 13787848793156543929 ∧ h' = h :=
  closedInt hpre (fun _ => rfl) (h' := [h00.getD 0 .dead, .siter [98, 102, 53, 56, 52, 55, 54, 100, 49, 99, 101, 52, 101, 53, 98, 57] 16]) (by kernel_rfl)
theorem chunk70 {a : Option (Nat × Nat)} {m c : Nat} {o : Option Nat} {h : GHeap} :
    CallsG Tryz.prog gl1 70 [.slice a m c o, .int .i64 8] h fun r h' => r = .func (.func 95) [] [.ptr (some (h.length, 0)), .ptr (some (h.length + 1, 0))] ∧ h' = h ++ [.cells [.slice a m c o] .rw] ++ [.cells [.int .i64 8] .rw] := by
  refine pt_call (c := bodyOf Tryz.f70) hD (fn := Tryz.f70) rfl rfl ?_; refine cast (Eq.symm (b70 ..)) ?_
  repeat' first
                        | with_reducible refine And.intro (@rfl Go.IntKind _) ?_
                        | with_reducible refine oget_gInt (gload_at (by first | assumption | exact at_new | exact at_append (by assumption) | exact at_set (by assumption) | exact at_append (at_append (by assumption)) | exact at_set (at_set (by assumption)) | exact at_set (at_append (by assumption)) | exact at_set (at_set (at_append (by assumption))) | exact at_set (at_set (at_set (by assumption))) | exact at_set_ne (by assumption) (by assumption)) (by with_unfolding_all rfl)) ?_
                        | with_reducible refine oget_gSlice (gload_at (by first | assumption | exact at_new | exact at_append (by assumption) | exact at_set (by assumption) | exact at_append (at_append (by assumption)) | exact at_set (at_set (by assumption)) | exact at_set (at_append (by assumption)) | exact at_set (at_set (at_append (by assumption))) | exact at_set (at_set (at_set (by assumption))) | exact at_set_ne (by assumption) (by assumption)) (by with_unfolding_all rfl)) ?_
                        | with_reducible refine oget_gMap (gload_at (by first | assumption | exact at_new | exact at_append (by assumption) | exact at_set (by assumption) | exact at_append (at_append (by assumption)) | exact at_set (at_set (by assumption)) | exact at_set (at_append (by assumption)) | exact at_set (at_set (at_append (by assumption))) | exact at_set (at_set (at_set (by assumption))) | exact at_set_ne (by assumption) (by assumption)) (by with_unfolding_all rfl)) ?_
                        | with_reducible refine oget_gBool (gload_at (by first | assumption | exact at_new | exact at_append (by assumption) | exact at_set (by assumption) | exact at_append (at_append (by assumption)) | exact at_set (at_set (by assumption)) | exact at_set (at_append (by assumption)) | exact at_set (at_set (at_append (by assumption))) | exact at_set (at_set (at_set (by assumption))) | exact at_set_ne (by assumption) (by assumption)) (by with_unfolding_all rfl)) ?_
                        | with_reducible refine oget_gPtr (gload_at (by first | assumption | exact at_new | exact at_append (by assumption) | exact at_set (by assumption) | exact at_append (at_append (by assumption)) | exact at_set (at_set (by assumption)) | exact at_set (at_append (by assumption)) | exact at_set (at_set (at_append (by assumption))) | exact at_set (at_set (at_set (by assumption))) | exact at_set_ne (by assumption) (by assumption)) (by with_unfolding_all rfl)) ?_
                        | with_reducible refine gCons_of ?_
                        | with_reducible refine gInt_of ?_
                        | with_reducible refine gBool_of ?_
                        | with_reducible refine gNil_of ?_
                        | with_reducible refine gTup_of ?_
                        | with_reducible refine vsplit_iff.2 ?_
                        | with_reducible refine gAgg_of ?_
                        | with_reducible refine oget_of (gstore_at1 (by first | assumption | exact at_new | exact at_append (by assumption) | exact at_set (by assumption) | exact at_append (at_append (by assumption)) | exact at_set (at_set (by assumption)) | exact at_set (at_append (by assumption)) | exact at_set (at_set (at_append (by assumption))) | exact at_set (at_set (at_set (by assumption))) | exact at_set_ne (by assumption) (by assumption)) (by decide) (by simp) (by with_unfolding_all rfl)) ?_
                        | with_reducible refine bsplit_of (fun hb => ?_) (fun hb => ?_) <;> try simp only [beq_iff_eq, beq_eq_false_iff_ne, ne_eq, bne_iff_ne, bne_eq_false_iff_eq, decide_eq_true_eq, decide_eq_false_iff_not, Int.not_lt, Int.not_le, ge_iff_le, gt_iff_lt] at hb
                        | with_reducible refine cast (Eq.symm (w70_0_0  ..)) ?_
                        | with_reducible refine cast (Eq.symm (w70_1_0 (h6_0 := by with_unfolding_all rfl) ..)) ?_
                        | with_reducible refine cast (Eq.symm (w70_1_1 (h6_0 := by with_unfolding_all rfl) ..)) ?_
                        | with_reducible refine cast (Eq.symm (w70_2_0  ..)) ?_
                        | with_reducible refine cast (Eq.symm (w70_3_0  ..)) ?_
                        | with_reducible refine cast (Eq.symm (a70_0 ..)) ?_
                        | with_reducible refine cast (Eq.symm (a70_1 ..)) ?_
                        | with_reducible refine cast (Eq.symm (a70_2 ..)) ?_
                        | with_reducible refine cast (Eq.symm (a70_3 ..)) ?_
                        | with_reducible refine res_nil (by with_unfolding_all rfl) ?_
                        | with_reducible refine res_one (by with_unfolding_all rfl) (by with_unfolding_all rfl) ?_
                        | with_reducible refine res_two (by with_unfolding_all rfl) (by with_unfolding_all rfl) (by with_unfolding_all rfl) ?_
                        | rw [lget_s]
                        | rw [lget_z]
  · exact absurd hb (by decide)
  · exact ⟨by simp, rfl⟩
theorem groups95 {l p1 p2 : Nat} {h : GHeap} {a : Option (Nat × Nat)} {m c : Nat} {o : Option Nat} (J : Nat → GHeap → Prop) (ho : o = none ∨ o = some 1) (hmc : m ≤ c) (hm : m ≤ 1000000)
    (hJ : ∀ k g, J k g → g[p1]? = some (.cells [.slice a m c o] .rw) ∧ g[p2]? = some (.cells [.int .i64 8] .rw) ∧ isLoop g l = true)
    (hs : ∀ k g, 8 * k < m → J k g → RoundG Tryz.prog gl1 l [.slice (a.map fun p => (p.1, p.2 + 8 * k)) (min 8 (m - 8 * k)) (min 8 (m - 8 * k)) none] g fun r g' => r = .bool true ∧ J (k + 1) g')
    (h0 : J 0 h) : CallsG Tryz.prog gl1 95 [.func (.yield l) [] [], .ptr (some (p1, 0)), .ptr (some (p2, 0))] h fun r g => r = .tuple [] ∧ J ((m + 7) / 8) g := by
  refine pt_call (c := bodyOf Tryz.f95) hD (fn := Tryz.f95) rfl rfl ?_; refine cast (Eq.symm (b95 ..)) ?_
  repeat' first
                        | with_reducible refine And.intro (@rfl Go.IntKind _) ?_
                        | with_reducible refine oget_gInt (gload_at (by first | assumption | exact at_new | exact at_append (by assumption) | exact at_set (by assumption) | exact at_append (at_append (by assumption)) | exact at_set (at_set (by assumption)) | exact at_set (at_append (by assumption)) | exact at_set (at_set (at_append (by assumption))) | exact at_set (at_set (at_set (by assumption))) | exact at_set_ne (by assumption) (by assumption)) (by with_unfolding_all rfl)) ?_
                        | with_reducible refine oget_gSlice (gload_at (by first | assumption | exact at_new | exact at_append (by assumption) | exact at_set (by assumption) | exact at_append (at_append (by assumption)) | exact at_set (at_set (by assumption)) | exact at_set (at_append (by assumption)) | exact at_set (at_set (at_append (by assumption))) | exact at_set (at_set (at_set (by assumption))) | exact at_set_ne (by assumption) (by assumption)) (by with_unfolding_all rfl)) ?_
                        | with_reducible refine oget_gMap (gload_at (by first | assumption | exact at_new | exact at_append (by assumption) | exact at_set (by assumption) | exact at_append (at_append (by assumption)) | exact at_set (at_set (by assumption)) | exact at_set (at_append (by assumption)) | exact at_set (at_set (at_append (by assumption))) | exact at_set (at_set (at_set (by assumption))) | exact at_set_ne (by assumption) (by assumption)) (by with_unfolding_all rfl)) ?_
                        | with_reducible refine oget_gBool (gload_at (by first | assumption | exact at_new | exact at_append (by assumption) | exact at_set (by assumption) | exact at_append (at_append (by assumption)) | exact at_set (at_set (by assumption)) | exact at_set (at_append (by assumption)) | exact at_set (at_set (at_append (by assumption))) | exact at_set (at_set (at_set (by assumption))) | exact at_set_ne (by assumption) (by assumption)) (by with_unfolding_all rfl)) ?_
                        | with_reducible refine oget_gPtr (gload_at (by first | assumption | exact at_new | exact at_append (by assumption) | exact at_set (by assumption) | exact at_append (at_append (by assumption)) | exact at_set (at_set (by assumption)) | exact at_set (at_append (by assumption)) | exact at_set (at_set (at_append (by assumption))) | exact at_set (at_set (at_set (by assumption))) | exact at_set_ne (by assumption) (by assumption)) (by with_unfolding_all rfl)) ?_
                        | with_reducible refine gCons_of ?_
                        | with_reducible refine gInt_of ?_
                        | with_reducible refine gBool_of ?_
                        | with_reducible refine gNil_of ?_
                        | with_reducible refine gTup_of ?_
                        | with_reducible refine vsplit_iff.2 ?_
                        | with_reducible refine gAgg_of ?_
                        | with_reducible refine oget_of (gstore_at1 (by first | assumption | exact at_new | exact at_append (by assumption) | exact at_set (by assumption) | exact at_append (at_append (by assumption)) | exact at_set (at_set (by assumption)) | exact at_set (at_append (by assumption)) | exact at_set (at_set (at_append (by assumption))) | exact at_set (at_set (at_set (by assumption))) | exact at_set_ne (by assumption) (by assumption)) (by decide) (by simp) (by with_unfolding_all rfl)) ?_
                        | with_reducible refine bsplit_of (fun hb => ?_) (fun hb => ?_) <;> try simp only [beq_iff_eq, beq_eq_false_iff_ne, ne_eq, bne_iff_ne, bne_eq_false_iff_eq, decide_eq_true_eq, decide_eq_false_iff_not, Int.not_lt, Int.not_le, ge_iff_le, gt_iff_lt] at hb
                        | with_reducible refine cast (Eq.symm (w95_0_0  ..)) ?_
                        | with_reducible refine cast (Eq.symm (w95_1_0 (h9_0 := by with_unfolding_all rfl) ..)) ?_
                        | with_reducible refine cast (Eq.symm (w95_1_1 (h9_0 := by with_unfolding_all rfl) ..)) ?_
                        | with_reducible refine cast (Eq.symm (w95_2_0  ..)) ?_
                        | with_reducible refine cast (Eq.symm (w95_3_0 (h30_0 := by with_unfolding_all rfl) ..)) ?_
                        | with_reducible refine cast (Eq.symm (w95_3_1 (h30_0 := by with_unfolding_all rfl) ..)) ?_
                        | with_reducible refine cast (Eq.symm (w95_4_0  ..)) ?_
                        | with_reducible refine cast (Eq.symm (a95_0 ..)) ?_
                        | with_reducible refine cast (Eq.symm (a95_1 ..)) ?_
                        | with_reducible refine cast (Eq.symm (a95_2 ..)) ?_
                        | with_reducible refine cast (Eq.symm (a95_3 ..)) ?_
                        | with_reducible refine cast (Eq.symm (a95_4 ..)) ?_
                        | with_reducible refine res_nil (by with_unfolding_all rfl) ?_
                        | with_reducible refine res_one (by with_unfolding_all rfl) (by with_unfolding_all rfl) ?_
                        | with_reducible refine res_two (by with_unfolding_all rfl) (by with_unfolding_all rfl) (by with_unfolding_all rfl) ?_
                        | rw [lget_s]
                        | rw [lget_z]
  refine l95_0 (fun n t g => ∃ k : Nat, J95_1 l p1 p2 ((8 * k : Nat) : Int) t ∧ k + n = (m + 7) / 8 ∧ J k g) ?_ (n := (m + 7) / 8) ⟨0, (JI95_1 ..), by omega, h0⟩
  rintro n t g ⟨k, hT, hk, hj⟩
  obtain ⟨z, rfl⟩ := hT
  obtain ⟨h1, h2, h3⟩ := hJ k g hj
  repeat' first
                        | with_reducible refine And.intro (@rfl Go.IntKind _) ?_
                        | with_reducible refine oget_gInt (gload_at (by first | assumption | exact at_new | exact at_append (by assumption) | exact at_set (by assumption) | exact at_append (at_append (by assumption)) | exact at_set (at_set (by assumption)) | exact at_set (at_append (by assumption)) | exact at_set (at_set (at_append (by assumption))) | exact at_set (at_set (at_set (by assumption))) | exact at_set_ne (by assumption) (by assumption)) (by with_unfolding_all rfl)) ?_
                        | with_reducible refine oget_gSlice (gload_at (by first | assumption | exact at_new | exact at_append (by assumption) | exact at_set (by assumption) | exact at_append (at_append (by assumption)) | exact at_set (at_set (by assumption)) | exact at_set (at_append (by assumption)) | exact at_set (at_set (at_append (by assumption))) | exact at_set (at_set (at_set (by assumption))) | exact at_set_ne (by assumption) (by assumption)) (by with_unfolding_all rfl)) ?_
                        | with_reducible refine oget_gMap (gload_at (by first | assumption | exact at_new | exact at_append (by assumption) | exact at_set (by assumption) | exact at_append (at_append (by assumption)) | exact at_set (at_set (by assumption)) | exact at_set (at_append (by assumption)) | exact at_set (at_set (at_append (by assumption))) | exact at_set (at_set (at_set (by assumption))) | exact at_set_ne (by assumption) (by assumption)) (by with_unfolding_all rfl)) ?_
                        | with_reducible refine oget_gBool (gload_at (by first | assumption | exact at_new | exact at_append (by assumption) | exact at_set (by assumption) | exact at_append (at_append (by assumption)) | exact at_set (at_set (by assumption)) | exact at_set (at_append (by assumption)) | exact at_set (at_set (at_append (by assumption))) | exact at_set (at_set (at_set (by assumption))) | exact at_set_ne (by assumption) (by assumption)) (by with_unfolding_all rfl)) ?_
                        | with_reducible refine oget_gPtr (gload_at (by first | assumption | exact at_new | exact at_append (by assumption) | exact at_set (by assumption) | exact at_append (at_append (by assumption)) | exact at_set (at_set (by assumption)) | exact at_set (at_append (by assumption)) | exact at_set (at_set (at_append (by assumption))) | exact at_set (at_set (at_set (by assumption))) | exact at_set_ne (by assumption) (by assumption)) (by with_unfolding_all rfl)) ?_
                        | with_reducible refine gCons_of ?_
                        | with_reducible refine gInt_of ?_
                        | with_reducible refine gBool_of ?_
                        | with_reducible refine gNil_of ?_
                        | with_reducible refine gTup_of ?_
                        | with_reducible refine vsplit_iff.2 ?_
                        | with_reducible refine gAgg_of ?_
                        | with_reducible refine oget_of (gstore_at1 (by first | assumption | exact at_new | exact at_append (by assumption) | exact at_set (by assumption) | exact at_append (at_append (by assumption)) | exact at_set (at_set (by assumption)) | exact at_set (at_append (by assumption)) | exact at_set (at_set (at_append (by assumption))) | exact at_set (at_set (at_set (by assumption))) | exact at_set_ne (by assumption) (by assumption)) (by decide) (by simp) (by with_unfolding_all rfl)) ?_
                        | with_reducible refine bsplit_of (fun hb => ?_) (fun hb => ?_) <;> try simp only [beq_iff_eq, beq_eq_false_iff_ne, ne_eq, bne_iff_ne, bne_eq_false_iff_eq, decide_eq_true_eq, decide_eq_false_iff_not, Int.not_lt, Int.not_le, ge_iff_le, gt_iff_lt] at hb
                        | with_reducible refine cast (Eq.symm (w95_0_0  ..)) ?_
                        | with_reducible refine cast (Eq.symm (w95_1_0 (h9_0 := by with_unfolding_all rfl) ..)) ?_
                        | with_reducible refine cast (Eq.symm (w95_1_1 (h9_0 := by with_unfolding_all rfl) ..)) ?_
                        | with_reducible refine cast (Eq.symm (w95_2_0  ..)) ?_
                        | with_reducible refine cast (Eq.symm (w95_3_0 (h30_0 := by with_unfolding_all rfl) ..)) ?_
                        | with_reducible refine cast (Eq.symm (w95_3_1 (h30_0 := by with_unfolding_all rfl) ..)) ?_
                        | with_reducible refine cast (Eq.symm (w95_4_0  ..)) ?_
                        | with_reducible refine cast (Eq.symm (a95_0 ..)) ?_
                        | with_reducible refine cast (Eq.symm (a95_1 ..)) ?_
                        | with_reducible refine cast (Eq.symm (a95_2 ..)) ?_
                        | with_reducible refine cast (Eq.symm (a95_3 ..)) ?_
                        | with_reducible refine cast (Eq.symm (a95_4 ..)) ?_
                        | with_reducible refine res_nil (by with_unfolding_all rfl) ?_
                        | with_reducible refine res_one (by with_unfolding_all rfl) (by with_unfolding_all rfl) ?_
                        | with_reducible refine res_two (by with_unfolding_all rfl) (by with_unfolding_all rfl) (by with_unfolding_all rfl) ?_
                        | rw [lget_s]
                        | rw [lget_z]
  · refine ⟨⟨by omega, by omega, by omega, by omega, ho⟩, ?_⟩
    repeat' first
                        | with_reducible refine And.intro (@rfl Go.IntKind _) ?_
                        | with_reducible refine oget_gInt (gload_at (by first | assumption | exact at_new | exact at_append (by assumption) | exact at_set (by assumption) | exact at_append (at_append (by assumption)) | exact at_set (at_set (by assumption)) | exact at_set (at_append (by assumption)) | exact at_set (at_set (at_append (by assumption))) | exact at_set (at_set (at_set (by assumption))) | exact at_set_ne (by assumption) (by assumption)) (by with_unfolding_all rfl)) ?_
                        | with_reducible refine oget_gSlice (gload_at (by first | assumption | exact at_new | exact at_append (by assumption) | exact at_set (by assumption) | exact at_append (at_append (by assumption)) | exact at_set (at_set (by assumption)) | exact at_set (at_append (by assumption)) | exact at_set (at_set (at_append (by assumption))) | exact at_set (at_set (at_set (by assumption))) | exact at_set_ne (by assumption) (by assumption)) (by with_unfolding_all rfl)) ?_
                        | with_reducible refine oget_gMap (gload_at (by first | assumption | exact at_new | exact at_append (by assumption) | exact at_set (by assumption) | exact at_append (at_append (by assumption)) | exact at_set (at_set (by assumption)) | exact at_set (at_append (by assumption)) | exact at_set (at_set (at_append (by assumption))) | exact at_set (at_set (at_set (by assumption))) | exact at_set_ne (by assumption) (by assumption)) (by with_unfolding_all rfl)) ?_
                        | with_reducible refine oget_gBool (gload_at (by first | assumption | exact at_new | exact at_append (by assumption) | exact at_set (by assumption) | exact at_append (at_append (by assumption)) | exact at_set (at_set (by assumption)) | exact at_set (at_append (by assumption)) | exact at_set (at_set (at_append (by assumption))) | exact at_set (at_set (at_set (by assumption))) | exact at_set_ne (by assumption) (by assumption)) (by with_unfolding_all rfl)) ?_
                        | with_reducible refine oget_gPtr (gload_at (by first | assumption | exact at_new | exact at_append (by assumption) | exact at_set (by assumption) | exact at_append (at_append (by assumption)) | exact at_set (at_set (by assumption)) | exact at_set (at_append (by assumption)) | exact at_set (at_set (at_append (by assumption))) | exact at_set (at_set (at_set (by assumption))) | exact at_set_ne (by assumption) (by assumption)) (by with_unfolding_all rfl)) ?_
                        | with_reducible refine gCons_of ?_
                        | with_reducible refine gInt_of ?_
                        | with_reducible refine gBool_of ?_
                        | with_reducible refine gNil_of ?_
                        | with_reducible refine gTup_of ?_
                        | with_reducible refine vsplit_iff.2 ?_
                        | with_reducible refine gAgg_of ?_
                        | with_reducible refine oget_of (gstore_at1 (by first | assumption | exact at_new | exact at_append (by assumption) | exact at_set (by assumption) | exact at_append (at_append (by assumption)) | exact at_set (at_set (by assumption)) | exact at_set (at_append (by assumption)) | exact at_set (at_set (at_append (by assumption))) | exact at_set (at_set (at_set (by assumption))) | exact at_set_ne (by assumption) (by assumption)) (by decide) (by simp) (by with_unfolding_all rfl)) ?_
                        | with_reducible refine bsplit_of (fun hb => ?_) (fun hb => ?_) <;> try simp only [beq_iff_eq, beq_eq_false_iff_ne, ne_eq, bne_iff_ne, bne_eq_false_iff_eq, decide_eq_true_eq, decide_eq_false_iff_not, Int.not_lt, Int.not_le, ge_iff_le, gt_iff_lt] at hb
                        | with_reducible refine cast (Eq.symm (w95_0_0  ..)) ?_
                        | with_reducible refine cast (Eq.symm (w95_1_0 (h9_0 := by with_unfolding_all rfl) ..)) ?_
                        | with_reducible refine cast (Eq.symm (w95_1_1 (h9_0 := by with_unfolding_all rfl) ..)) ?_
                        | with_reducible refine cast (Eq.symm (w95_2_0  ..)) ?_
                        | with_reducible refine cast (Eq.symm (w95_3_0 (h30_0 := by with_unfolding_all rfl) ..)) ?_
                        | with_reducible refine cast (Eq.symm (w95_3_1 (h30_0 := by with_unfolding_all rfl) ..)) ?_
                        | with_reducible refine cast (Eq.symm (w95_4_0  ..)) ?_
                        | with_reducible refine cast (Eq.symm (a95_0 ..)) ?_
                        | with_reducible refine cast (Eq.symm (a95_1 ..)) ?_
                        | with_reducible refine cast (Eq.symm (a95_2 ..)) ?_
                        | with_reducible refine cast (Eq.symm (a95_3 ..)) ?_
                        | with_reducible refine cast (Eq.symm (a95_4 ..)) ?_
                        | with_reducible refine res_nil (by with_unfolding_all rfl) ?_
                        | with_reducible refine res_one (by with_unfolding_all rfl) (by with_unfolding_all rfl) ?_
                        | with_reducible refine res_two (by with_unfolding_all rfl) (by with_unfolding_all rfl) (by with_unfolding_all rfl) ?_
                        | rw [lget_s]
                        | rw [lget_z]
    have hmin : (if (↑((↑m : Int).toNat - (((8 * k : Nat) : Int)).toNat) : Int) < 8 then (↑((↑m : Int).toNat - (((8 * k : Nat) : Int)).toNat) : Int) else 8) = ((min 8 (m - 8 * k) : Nat) : Int) := by
      split <;> omega
    rw [hmin]
    have hw : IntKind.i64.wrap (((8 * k : Nat) : Int) + ((min 8 (m - 8 * k) : Nat) : Int)) = ((8 * k + min 8 (m - 8 * k) : Nat) : Int) := by rw [w64 (by omega)]; omega
    repeat' first
                        | rw [hw]
                        | with_reducible refine And.intro (@rfl Go.IntKind _) ?_
                        | with_reducible refine oget_gInt (gload_at (by first | assumption | exact at_new | exact at_append (by assumption) | exact at_set (by assumption) | exact at_append (at_append (by assumption)) | exact at_set (at_set (by assumption)) | exact at_set (at_append (by assumption)) | exact at_set (at_set (at_append (by assumption))) | exact at_set (at_set (at_set (by assumption))) | exact at_set_ne (by assumption) (by assumption)) (by with_unfolding_all rfl)) ?_
                        | with_reducible refine oget_gSlice (gload_at (by first | assumption | exact at_new | exact at_append (by assumption) | exact at_set (by assumption) | exact at_append (at_append (by assumption)) | exact at_set (at_set (by assumption)) | exact at_set (at_append (by assumption)) | exact at_set (at_set (at_append (by assumption))) | exact at_set (at_set (at_set (by assumption))) | exact at_set_ne (by assumption) (by assumption)) (by with_unfolding_all rfl)) ?_
                        | with_reducible refine oget_gMap (gload_at (by first | assumption | exact at_new | exact at_append (by assumption) | exact at_set (by assumption) | exact at_append (at_append (by assumption)) | exact at_set (at_set (by assumption)) | exact at_set (at_append (by assumption)) | exact at_set (at_set (at_append (by assumption))) | exact at_set (at_set (at_set (by assumption))) | exact at_set_ne (by assumption) (by assumption)) (by with_unfolding_all rfl)) ?_
                        | with_reducible refine oget_gBool (gload_at (by first | assumption | exact at_new | exact at_append (by assumption) | exact at_set (by assumption) | exact at_append (at_append (by assumption)) | exact at_set (at_set (by assumption)) | exact at_set (at_append (by assumption)) | exact at_set (at_set (at_append (by assumption))) | exact at_set (at_set (at_set (by assumption))) | exact at_set_ne (by assumption) (by assumption)) (by with_unfolding_all rfl)) ?_
                        | with_reducible refine oget_gPtr (gload_at (by first | assumption | exact at_new | exact at_append (by assumption) | exact at_set (by assumption) | exact at_append (at_append (by assumption)) | exact at_set (at_set (by assumption)) | exact at_set (at_append (by assumption)) | exact at_set (at_set (at_append (by assumption))) | exact at_set (at_set (at_set (by assumption))) | exact at_set_ne (by assumption) (by assumption)) (by with_unfolding_all rfl)) ?_
                        | with_reducible refine gCons_of ?_
                        | with_reducible refine gInt_of ?_
                        | with_reducible refine gBool_of ?_
                        | with_reducible refine gNil_of ?_
                        | with_reducible refine gTup_of ?_
                        | with_reducible refine vsplit_iff.2 ?_
                        | with_reducible refine gAgg_of ?_
                        | with_reducible refine oget_of (gstore_at1 (by first | assumption | exact at_new | exact at_append (by assumption) | exact at_set (by assumption) | exact at_append (at_append (by assumption)) | exact at_set (at_set (by assumption)) | exact at_set (at_append (by assumption)) | exact at_set (at_set (at_append (by assumption))) | exact at_set (at_set (at_set (by assumption))) | exact at_set_ne (by assumption) (by assumption)) (by decide) (by simp) (by with_unfolding_all rfl)) ?_
                        | with_reducible refine bsplit_of (fun hb => ?_) (fun hb => ?_) <;> try simp only [beq_iff_eq, beq_eq_false_iff_ne, ne_eq, bne_iff_ne, bne_eq_false_iff_eq, decide_eq_true_eq, decide_eq_false_iff_not, Int.not_lt, Int.not_le, ge_iff_le, gt_iff_lt] at hb
                        | with_reducible refine cast (Eq.symm (w95_0_0  ..)) ?_
                        | with_reducible refine cast (Eq.symm (w95_1_0 (h9_0 := by with_unfolding_all rfl) ..)) ?_
                        | with_reducible refine cast (Eq.symm (w95_1_1 (h9_0 := by with_unfolding_all rfl) ..)) ?_
                        | with_reducible refine cast (Eq.symm (w95_2_0  ..)) ?_
                        | with_reducible refine cast (Eq.symm (w95_3_0 (h30_0 := by with_unfolding_all rfl) ..)) ?_
                        | with_reducible refine cast (Eq.symm (w95_3_1 (h30_0 := by with_unfolding_all rfl) ..)) ?_
                        | with_reducible refine cast (Eq.symm (w95_4_0  ..)) ?_
                        | with_reducible refine cast (Eq.symm (a95_0 ..)) ?_
                        | with_reducible refine cast (Eq.symm (a95_1 ..)) ?_
                        | with_reducible refine cast (Eq.symm (a95_2 ..)) ?_
                        | with_reducible refine cast (Eq.symm (a95_3 ..)) ?_
                        | with_reducible refine cast (Eq.symm (a95_4 ..)) ?_
                        | with_reducible refine res_nil (by with_unfolding_all rfl) ?_
                        | with_reducible refine res_one (by with_unfolding_all rfl) (by with_unfolding_all rfl) ?_
                        | with_reducible refine res_two (by with_unfolding_all rfl) (by with_unfolding_all rfl) (by with_unfolding_all rfl) ?_
                        | rw [lget_s]
                        | rw [lget_z]
    refine ⟨⟨by omega, by omega, by omega, by omega, ho⟩, h3, ?_⟩
    have e1 : (((8 * k + min 8 (m - 8 * k) : Nat) : Int)).toNat - (((8 * k : Nat) : Int)).toNat = min 8 (m - 8 * k) := by omega
    have e2 : (((8 * k : Nat) : Int)).toNat * 1 = 8 * k := by omega
    rw [e1, e2]
    refine (hs k g (by omega) hj).mono ?_
    rintro r g' ⟨rfl, hj'⟩
    obtain ⟨h1', h2', h3'⟩ := hJ (k + 1) g' hj'
    repeat' first
                        | exact absurd hb (by decide)
                        | with_reducible refine And.intro (@rfl Go.IntKind _) ?_
                        | with_reducible refine oget_gInt (gload_at (by first | assumption | exact at_new | exact at_append (by assumption) | exact at_set (by assumption) | exact at_append (at_append (by assumption)) | exact at_set (at_set (by assumption)) | exact at_set (at_append (by assumption)) | exact at_set (at_set (at_append (by assumption))) | exact at_set (at_set (at_set (by assumption))) | exact at_set_ne (by assumption) (by assumption)) (by with_unfolding_all rfl)) ?_
                        | with_reducible refine oget_gSlice (gload_at (by first | assumption | exact at_new | exact at_append (by assumption) | exact at_set (by assumption) | exact at_append (at_append (by assumption)) | exact at_set (at_set (by assumption)) | exact at_set (at_append (by assumption)) | exact at_set (at_set (at_append (by assumption))) | exact at_set (at_set (at_set (by assumption))) | exact at_set_ne (by assumption) (by assumption)) (by with_unfolding_all rfl)) ?_
                        | with_reducible refine oget_gMap (gload_at (by first | assumption | exact at_new | exact at_append (by assumption) | exact at_set (by assumption) | exact at_append (at_append (by assumption)) | exact at_set (at_set (by assumption)) | exact at_set (at_append (by assumption)) | exact at_set (at_set (at_append (by assumption))) | exact at_set (at_set (at_set (by assumption))) | exact at_set_ne (by assumption) (by assumption)) (by with_unfolding_all rfl)) ?_
                        | with_reducible refine oget_gBool (gload_at (by first | assumption | exact at_new | exact at_append (by assumption) | exact at_set (by assumption) | exact at_append (at_append (by assumption)) | exact at_set (at_set (by assumption)) | exact at_set (at_append (by assumption)) | exact at_set (at_set (at_append (by assumption))) | exact at_set (at_set (at_set (by assumption))) | exact at_set_ne (by assumption) (by assumption)) (by with_unfolding_all rfl)) ?_
                        | with_reducible refine oget_gPtr (gload_at (by first | assumption | exact at_new | exact at_append (by assumption) | exact at_set (by assumption) | exact at_append (at_append (by assumption)) | exact at_set (at_set (by assumption)) | exact at_set (at_append (by assumption)) | exact at_set (at_set (at_append (by assumption))) | exact at_set (at_set (at_set (by assumption))) | exact at_set_ne (by assumption) (by assumption)) (by with_unfolding_all rfl)) ?_
                        | with_reducible refine gCons_of ?_
                        | with_reducible refine gInt_of ?_
                        | with_reducible refine gBool_of ?_
                        | with_reducible refine gNil_of ?_
                        | with_reducible refine gTup_of ?_
                        | with_reducible refine vsplit_iff.2 ?_
                        | with_reducible refine gAgg_of ?_
                        | with_reducible refine oget_of (gstore_at1 (by first | assumption | exact at_new | exact at_append (by assumption) | exact at_set (by assumption) | exact at_append (at_append (by assumption)) | exact at_set (at_set (by assumption)) | exact at_set (at_append (by assumption)) | exact at_set (at_set (at_append (by assumption))) | exact at_set (at_set (at_set (by assumption))) | exact at_set_ne (by assumption) (by assumption)) (by decide) (by simp) (by with_unfolding_all rfl)) ?_
                        | with_reducible refine bsplit_of (fun hb => ?_) (fun hb => ?_) <;> try simp only [beq_iff_eq, beq_eq_false_iff_ne, ne_eq, bne_iff_ne, bne_eq_false_iff_eq, decide_eq_true_eq, decide_eq_false_iff_not, Int.not_lt, Int.not_le, ge_iff_le, gt_iff_lt] at hb
                        | with_reducible refine cast (Eq.symm (w95_0_0  ..)) ?_
                        | with_reducible refine cast (Eq.symm (w95_1_0 (h9_0 := by with_unfolding_all rfl) ..)) ?_
                        | with_reducible refine cast (Eq.symm (w95_1_1 (h9_0 := by with_unfolding_all rfl) ..)) ?_
                        | with_reducible refine cast (Eq.symm (w95_2_0  ..)) ?_
                        | with_reducible refine cast (Eq.symm (w95_3_0 (h30_0 := by with_unfolding_all rfl) ..)) ?_
                        | with_reducible refine cast (Eq.symm (w95_3_1 (h30_0 := by with_unfolding_all rfl) ..)) ?_
                        | with_reducible refine cast (Eq.symm (w95_4_0  ..)) ?_
                        | with_reducible refine cast (Eq.symm (a95_0 ..)) ?_
                        | with_reducible refine cast (Eq.symm (a95_1 ..)) ?_
                        | with_reducible refine cast (Eq.symm (a95_2 ..)) ?_
                        | with_reducible refine cast (Eq.symm (a95_3 ..)) ?_
                        | with_reducible refine cast (Eq.symm (a95_4 ..)) ?_
                        | with_reducible refine res_nil (by with_unfolding_all rfl) ?_
                        | with_reducible refine res_one (by with_unfolding_all rfl) (by with_unfolding_all rfl) ?_
                        | with_reducible refine res_two (by with_unfolding_all rfl) (by with_unfolding_all rfl) (by with_unfolding_all rfl) ?_
                        | rw [lget_s]
                        | rw [lget_z]
    refine ⟨n - 1, by omega, k + 1, ?_, by omega, hj'⟩
    rw [show IntKind.i64.wrap (((8 * k : Nat) : Int) + 8) = ((8 * (k + 1) : Nat) : Int) from by rw [w64 (by omega)]; omega]
    exact (JI95_1 ..)
  · have e : k = (m + 7) / 8 := by omega
    subst e
    exact ⟨rfl, hj⟩
end Go.Proofs.YtkcjbgepmkhdaaaGreatDoor
