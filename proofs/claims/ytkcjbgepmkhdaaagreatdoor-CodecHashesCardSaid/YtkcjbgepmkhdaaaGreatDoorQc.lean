/- Poly, the specification's: what it hands back; no condition. -/
import Derived.Test.YtkcjbgepmkhdaaaGreatDoorQb
set_option linter.defProp false
set_option linter.unusedSimpArgs false
set_option linter.unusedVariables false
set_option linter.unnecessarySimpa false
open Go Gh Go.Proofs
namespace Go.Proofs.YtkcjbgepmkhdaaaGreatDoor
set_option maxRecDepth 100000
set_option maxHeartbeats 1000000 in
theorem poly35 {a : Option (Nat × Nat)} {m c : Nat} {o : Option Nat} {h : GHeap} {bs : List Int} (B : BL h a m c bs) :
    CallsG Tryz.prog gl1 35 [.slice a m c o] h fun r h' => r = .int .u32 (polyR bs) ∧ h' = h := by
  have hlen := B.len; have hc := B.le; have hb := B.few
  refine pt_call (c := bodyOf Tryz.f35) hD (fn := Tryz.f35) rfl rfl ?_; refine cast (Eq.symm (b35 ..)) ?_
  repeat' first
                        | with_reducible refine And.intro (@rfl Go.IntKind _) ?_
                        | with_reducible refine oget_gInt (gload_at (by first | assumption | exact at_new | exact at_append (by assumption) | exact at_set (by assumption) | exact at_append (at_append (by assumption)) | exact at_set (at_set (by assumption)) | exact at_set (at_append (by assumption)) | exact at_set (at_set (at_append (by assumption))) | exact at_set (at_set (at_set (by assumption))) | exact at_set_ne (by assumption) (by assumption)) (by with_unfolding_all rfl)) ?_
                        | with_reducible refine oget_gSlice (gload_at (by first | assumption | exact at_new | exact at_append (by assumption) | exact at_set (by assumption) | exact at_append (at_append (by assumption)) | exact at_set (at_set (by assumption)) | exact at_set (at_append (by assumption)) | exact at_set (at_set (at_append (by assumption))) | exact at_set (at_set (at_set (by assumption))) | exact at_set_ne (by assumption) (by assumption)) (by with_unfolding_all rfl)) ?_
                        | with_reducible refine oget_gMap (gload_at (by first | assumption | exact at_new | exact at_append (by assumption) | exact at_set (by assumption) | exact at_append (at_append (by assumption)) | exact at_set (at_set (by assumption)) | exact at_set (at_append (by assumption)) | exact at_set (at_set (at_append (by assumption))) | exact at_set (at_set (at_set (by assumption))) | exact at_set_ne (by assumption) (by assumption)) (by with_unfolding_all rfl)) ?_
                        | with_reducible refine oget_gBool (gload_at (by first | assumption | exact at_new | exact at_append (by assumption) | exact at_set (by assumption) | exact at_append (at_append (by assumption)) | exact at_set (at_set (by assumption)) | exact at_set (at_append (by assumption)) | exact at_set (at_set (at_append (by assumption))) | exact at_set (at_set (at_set (by assumption))) | exact at_set_ne (by assumption) (by assumption)) (by with_unfolding_all rfl)) ?_
                        | with_reducible refine oget_gPtr (gload_at (by first | assumption | exact at_new | exact at_append (by assumption) | exact at_set (by assumption) | exact at_append (at_append (by assumption)) | exact at_set (at_set (by assumption)) | exact at_set (at_append (by assumption)) | exact at_set (at_set (at_append (by assumption))) | exact at_set (at_set (at_set (by assumption))) | exact at_set_ne (by assumption) (by assumption)) (by with_unfolding_all rfl)) ?_
                        | with_reducible refine gCons_of ?_
                        | with_reducible refine gInt_of ?_
                        | with_reducible refine gBool_of ?_
                        | with_reducible refine gNil_of ?_
                        | with_reducible refine gTup_of ?_
                        | with_reducible refine vsplit_iff.2 ?_
                        | with_reducible refine gAgg_of ?_
                        | with_reducible refine oget_of (gstore_at1 (by first | assumption | exact at_new | exact at_append (by assumption) | exact at_set (by assumption) | exact at_append (at_append (by assumption)) | exact at_set (at_set (by assumption)) | exact at_set (at_append (by assumption)) | exact at_set (at_set (at_append (by assumption))) | exact at_set (at_set (at_set (by assumption))) | exact at_set_ne (by assumption) (by assumption)) (by decide) (by simp) (by with_unfolding_all rfl)) ?_
                        | with_reducible refine bsplit_of (fun hb => ?_) (fun hb => ?_) <;> try simp only [beq_iff_eq, beq_eq_false_iff_ne, ne_eq, bne_iff_ne, bne_eq_false_iff_eq, decide_eq_true_eq, decide_eq_false_iff_not, Int.not_lt, Int.not_le, ge_iff_le, gt_iff_lt] at hb
                        | with_reducible refine cast (Eq.symm (w35_0_0  ..)) ?_
                        | with_reducible refine cast (Eq.symm (w35_1_0  ..)) ?_
                        | with_reducible refine cast (Eq.symm (w35_2_0  ..)) ?_
                        | with_reducible refine cast (Eq.symm (w35_3_0 (h9_0 := by with_unfolding_all rfl) ..)) ?_
                        | with_reducible refine cast (Eq.symm (w35_3_1 (h9_0 := by with_unfolding_all rfl) ..)) ?_
                        | with_reducible refine cast (Eq.symm (w35_4_0  ..)) ?_
                        | with_reducible refine cast (Eq.symm (w35_5_0  ..)) ?_
                        | with_reducible refine cast (Eq.symm (w35_6_0 (h20_0 := by with_unfolding_all rfl) ..)) ?_
                        | with_reducible refine cast (Eq.symm (w35_6_1 (h20_0 := by with_unfolding_all rfl) ..)) ?_
                        | with_reducible refine cast (Eq.symm (w35_7_0 (h25_0 := by with_unfolding_all rfl) ..)) ?_
                        | with_reducible refine cast (Eq.symm (w35_7_1 (h25_0 := by with_unfolding_all rfl) ..)) ?_
                        | with_reducible refine cast (Eq.symm (w35_8_0  ..)) ?_
                        | with_reducible refine cast (Eq.symm (w35_9_0  ..)) ?_
                        | with_reducible refine cast (Eq.symm (w35_10_0  ..)) ?_
                        | with_reducible refine cast (Eq.symm (w35_11_0  ..)) ?_
                        | with_reducible refine cast (Eq.symm (w35_12_0  ..)) ?_
                        | with_reducible refine cast (Eq.symm (a35_0 ..)) ?_
                        | with_reducible refine cast (Eq.symm (a35_1 ..)) ?_
                        | with_reducible refine cast (Eq.symm (a35_2 ..)) ?_
                        | with_reducible refine cast (Eq.symm (a35_3 ..)) ?_
                        | with_reducible refine cast (Eq.symm (a35_4 ..)) ?_
                        | with_reducible refine cast (Eq.symm (a35_5 ..)) ?_
                        | with_reducible refine cast (Eq.symm (a35_6 ..)) ?_
                        | with_reducible refine cast (Eq.symm (a35_7 ..)) ?_
                        | with_reducible refine cast (Eq.symm (a35_8 ..)) ?_
                        | with_reducible refine cast (Eq.symm (a35_9 ..)) ?_
                        | with_reducible refine cast (Eq.symm (a35_10 ..)) ?_
                        | with_reducible refine cast (Eq.symm (a35_11 ..)) ?_
                        | with_reducible refine cast (Eq.symm (a35_12 ..)) ?_
                        | with_reducible refine res_nil (by with_unfolding_all rfl) ?_
                        | with_reducible refine res_one (by with_unfolding_all rfl) (by with_unfolding_all rfl) ?_
                        | with_reducible refine res_two (by with_unfolding_all rfl) (by with_unfolding_all rfl) (by with_unfolding_all rfl) ?_
                        | rw [lget_s]
                        | rw [lget_z]
  refine l35_0 (fun n t h' => ∃ (k : Nat) (r : Int), J35_3 a m c o r k t ∧ h' = h ∧ k + n = m ∧ U32 r ∧ polyF (bs.drop k) r = polyF bs 4294967295) ?_ (n := m) ⟨0, 4294967295, (JI35_3 ..), rfl, by omega, ⟨by decide, by decide⟩, rfl⟩
  rintro n t h' ⟨k, r, hT, rfl, hk, hr, hf⟩
  obtain ⟨z, rfl⟩ := hT
  repeat' first
                        | with_reducible refine And.intro (@rfl Go.IntKind _) ?_
                        | with_reducible refine oget_gInt (gload_at (by first | assumption | exact at_new | exact at_append (by assumption) | exact at_set (by assumption) | exact at_append (at_append (by assumption)) | exact at_set (at_set (by assumption)) | exact at_set (at_append (by assumption)) | exact at_set (at_set (at_append (by assumption))) | exact at_set (at_set (at_set (by assumption))) | exact at_set_ne (by assumption) (by assumption)) (by with_unfolding_all rfl)) ?_
                        | with_reducible refine oget_gSlice (gload_at (by first | assumption | exact at_new | exact at_append (by assumption) | exact at_set (by assumption) | exact at_append (at_append (by assumption)) | exact at_set (at_set (by assumption)) | exact at_set (at_append (by assumption)) | exact at_set (at_set (at_append (by assumption))) | exact at_set (at_set (at_set (by assumption))) | exact at_set_ne (by assumption) (by assumption)) (by with_unfolding_all rfl)) ?_
                        | with_reducible refine oget_gMap (gload_at (by first | assumption | exact at_new | exact at_append (by assumption) | exact at_set (by assumption) | exact at_append (at_append (by assumption)) | exact at_set (at_set (by assumption)) | exact at_set (at_append (by assumption)) | exact at_set (at_set (at_append (by assumption))) | exact at_set (at_set (at_set (by assumption))) | exact at_set_ne (by assumption) (by assumption)) (by with_unfolding_all rfl)) ?_
                        | with_reducible refine oget_gBool (gload_at (by first | assumption | exact at_new | exact at_append (by assumption) | exact at_set (by assumption) | exact at_append (at_append (by assumption)) | exact at_set (at_set (by assumption)) | exact at_set (at_append (by assumption)) | exact at_set (at_set (at_append (by assumption))) | exact at_set (at_set (at_set (by assumption))) | exact at_set_ne (by assumption) (by assumption)) (by with_unfolding_all rfl)) ?_
                        | with_reducible refine oget_gPtr (gload_at (by first | assumption | exact at_new | exact at_append (by assumption) | exact at_set (by assumption) | exact at_append (at_append (by assumption)) | exact at_set (at_set (by assumption)) | exact at_set (at_append (by assumption)) | exact at_set (at_set (at_append (by assumption))) | exact at_set (at_set (at_set (by assumption))) | exact at_set_ne (by assumption) (by assumption)) (by with_unfolding_all rfl)) ?_
                        | with_reducible refine gCons_of ?_
                        | with_reducible refine gInt_of ?_
                        | with_reducible refine gBool_of ?_
                        | with_reducible refine gNil_of ?_
                        | with_reducible refine gTup_of ?_
                        | with_reducible refine vsplit_iff.2 ?_
                        | with_reducible refine gAgg_of ?_
                        | with_reducible refine oget_of (gstore_at1 (by first | assumption | exact at_new | exact at_append (by assumption) | exact at_set (by assumption) | exact at_append (at_append (by assumption)) | exact at_set (at_set (by assumption)) | exact at_set (at_append (by assumption)) | exact at_set (at_set (at_append (by assumption))) | exact at_set (at_set (at_set (by assumption))) | exact at_set_ne (by assumption) (by assumption)) (by decide) (by simp) (by with_unfolding_all rfl)) ?_
                        | with_reducible refine bsplit_of (fun hb => ?_) (fun hb => ?_) <;> try simp only [beq_iff_eq, beq_eq_false_iff_ne, ne_eq, bne_iff_ne, bne_eq_false_iff_eq, decide_eq_true_eq, decide_eq_false_iff_not, Int.not_lt, Int.not_le, ge_iff_le, gt_iff_lt] at hb
                        | with_reducible refine cast (Eq.symm (w35_0_0  ..)) ?_
                        | with_reducible refine cast (Eq.symm (w35_1_0  ..)) ?_
                        | with_reducible refine cast (Eq.symm (w35_2_0  ..)) ?_
                        | with_reducible refine cast (Eq.symm (w35_3_0 (h9_0 := by with_unfolding_all rfl) ..)) ?_
                        | with_reducible refine cast (Eq.symm (w35_3_1 (h9_0 := by with_unfolding_all rfl) ..)) ?_
                        | with_reducible refine cast (Eq.symm (w35_4_0  ..)) ?_
                        | with_reducible refine cast (Eq.symm (w35_5_0  ..)) ?_
                        | with_reducible refine cast (Eq.symm (w35_6_0 (h20_0 := by with_unfolding_all rfl) ..)) ?_
                        | with_reducible refine cast (Eq.symm (w35_6_1 (h20_0 := by with_unfolding_all rfl) ..)) ?_
                        | with_reducible refine cast (Eq.symm (w35_7_0 (h25_0 := by with_unfolding_all rfl) ..)) ?_
                        | with_reducible refine cast (Eq.symm (w35_7_1 (h25_0 := by with_unfolding_all rfl) ..)) ?_
                        | with_reducible refine cast (Eq.symm (w35_8_0  ..)) ?_
                        | with_reducible refine cast (Eq.symm (w35_9_0  ..)) ?_
                        | with_reducible refine cast (Eq.symm (w35_10_0  ..)) ?_
                        | with_reducible refine cast (Eq.symm (w35_11_0  ..)) ?_
                        | with_reducible refine cast (Eq.symm (w35_12_0  ..)) ?_
                        | with_reducible refine cast (Eq.symm (a35_0 ..)) ?_
                        | with_reducible refine cast (Eq.symm (a35_1 ..)) ?_
                        | with_reducible refine cast (Eq.symm (a35_2 ..)) ?_
                        | with_reducible refine cast (Eq.symm (a35_3 ..)) ?_
                        | with_reducible refine cast (Eq.symm (a35_4 ..)) ?_
                        | with_reducible refine cast (Eq.symm (a35_5 ..)) ?_
                        | with_reducible refine cast (Eq.symm (a35_6 ..)) ?_
                        | with_reducible refine cast (Eq.symm (a35_7 ..)) ?_
                        | with_reducible refine cast (Eq.symm (a35_8 ..)) ?_
                        | with_reducible refine cast (Eq.symm (a35_9 ..)) ?_
                        | with_reducible refine cast (Eq.symm (a35_10 ..)) ?_
                        | with_reducible refine cast (Eq.symm (a35_11 ..)) ?_
                        | with_reducible refine cast (Eq.symm (a35_12 ..)) ?_
                        | with_reducible refine res_nil (by with_unfolding_all rfl) ?_
                        | with_reducible refine res_one (by with_unfolding_all rfl) (by with_unfolding_all rfl) ?_
                        | with_reducible refine res_two (by with_unfolding_all rfl) (by with_unfolding_all rfl) (by with_unfolding_all rfl) ?_
                        | rw [lget_s]
                        | rw [lget_z]
  · have hkm : k < bs.length := by omega
    obtain ⟨x, hx, hd⟩ := drop_at hkm
    refine ⟨⟨by omega, by omega, hc⟩, ?_⟩
    refine B.cells.ptr (j := k) (v := .int .u8 x) (by omega) (by simp [hx]) fun id off ha hl => ?_
    refine oget_gInt hl ?_
    repeat' first
                        | with_reducible refine And.intro (@rfl Go.IntKind _) ?_
                        | with_reducible refine oget_gInt (gload_at (by first | assumption | exact at_new | exact at_append (by assumption) | exact at_set (by assumption) | exact at_append (at_append (by assumption)) | exact at_set (at_set (by assumption)) | exact at_set (at_append (by assumption)) | exact at_set (at_set (at_append (by assumption))) | exact at_set (at_set (at_set (by assumption))) | exact at_set_ne (by assumption) (by assumption)) (by with_unfolding_all rfl)) ?_
                        | with_reducible refine oget_gSlice (gload_at (by first | assumption | exact at_new | exact at_append (by assumption) | exact at_set (by assumption) | exact at_append (at_append (by assumption)) | exact at_set (at_set (by assumption)) | exact at_set (at_append (by assumption)) | exact at_set (at_set (at_append (by assumption))) | exact at_set (at_set (at_set (by assumption))) | exact at_set_ne (by assumption) (by assumption)) (by with_unfolding_all rfl)) ?_
                        | with_reducible refine oget_gMap (gload_at (by first | assumption | exact at_new | exact at_append (by assumption) | exact at_set (by assumption) | exact at_append (at_append (by assumption)) | exact at_set (at_set (by assumption)) | exact at_set (at_append (by assumption)) | exact at_set (at_set (at_append (by assumption))) | exact at_set (at_set (at_set (by assumption))) | exact at_set_ne (by assumption) (by assumption)) (by with_unfolding_all rfl)) ?_
                        | with_reducible refine oget_gBool (gload_at (by first | assumption | exact at_new | exact at_append (by assumption) | exact at_set (by assumption) | exact at_append (at_append (by assumption)) | exact at_set (at_set (by assumption)) | exact at_set (at_append (by assumption)) | exact at_set (at_set (at_append (by assumption))) | exact at_set (at_set (at_set (by assumption))) | exact at_set_ne (by assumption) (by assumption)) (by with_unfolding_all rfl)) ?_
                        | with_reducible refine oget_gPtr (gload_at (by first | assumption | exact at_new | exact at_append (by assumption) | exact at_set (by assumption) | exact at_append (at_append (by assumption)) | exact at_set (at_set (by assumption)) | exact at_set (at_append (by assumption)) | exact at_set (at_set (at_append (by assumption))) | exact at_set (at_set (at_set (by assumption))) | exact at_set_ne (by assumption) (by assumption)) (by with_unfolding_all rfl)) ?_
                        | with_reducible refine gCons_of ?_
                        | with_reducible refine gInt_of ?_
                        | with_reducible refine gBool_of ?_
                        | with_reducible refine gNil_of ?_
                        | with_reducible refine gTup_of ?_
                        | with_reducible refine vsplit_iff.2 ?_
                        | with_reducible refine gAgg_of ?_
                        | with_reducible refine oget_of (gstore_at1 (by first | assumption | exact at_new | exact at_append (by assumption) | exact at_set (by assumption) | exact at_append (at_append (by assumption)) | exact at_set (at_set (by assumption)) | exact at_set (at_append (by assumption)) | exact at_set (at_set (at_append (by assumption))) | exact at_set (at_set (at_set (by assumption))) | exact at_set_ne (by assumption) (by assumption)) (by decide) (by simp) (by with_unfolding_all rfl)) ?_
                        | with_reducible refine bsplit_of (fun hb => ?_) (fun hb => ?_) <;> try simp only [beq_iff_eq, beq_eq_false_iff_ne, ne_eq, bne_iff_ne, bne_eq_false_iff_eq, decide_eq_true_eq, decide_eq_false_iff_not, Int.not_lt, Int.not_le, ge_iff_le, gt_iff_lt] at hb
                        | with_reducible refine cast (Eq.symm (w35_0_0  ..)) ?_
                        | with_reducible refine cast (Eq.symm (w35_1_0  ..)) ?_
                        | with_reducible refine cast (Eq.symm (w35_2_0  ..)) ?_
                        | with_reducible refine cast (Eq.symm (w35_3_0 (h9_0 := by with_unfolding_all rfl) ..)) ?_
                        | with_reducible refine cast (Eq.symm (w35_3_1 (h9_0 := by with_unfolding_all rfl) ..)) ?_
                        | with_reducible refine cast (Eq.symm (w35_4_0  ..)) ?_
                        | with_reducible refine cast (Eq.symm (w35_5_0  ..)) ?_
                        | with_reducible refine cast (Eq.symm (w35_6_0 (h20_0 := by with_unfolding_all rfl) ..)) ?_
                        | with_reducible refine cast (Eq.symm (w35_6_1 (h20_0 := by with_unfolding_all rfl) ..)) ?_
                        | with_reducible refine cast (Eq.symm (w35_7_0 (h25_0 := by with_unfolding_all rfl) ..)) ?_
                        | with_reducible refine cast (Eq.symm (w35_7_1 (h25_0 := by with_unfolding_all rfl) ..)) ?_
                        | with_reducible refine cast (Eq.symm (w35_8_0  ..)) ?_
                        | with_reducible refine cast (Eq.symm (w35_9_0  ..)) ?_
                        | with_reducible refine cast (Eq.symm (w35_10_0  ..)) ?_
                        | with_reducible refine cast (Eq.symm (w35_11_0  ..)) ?_
                        | with_reducible refine cast (Eq.symm (w35_12_0  ..)) ?_
                        | with_reducible refine cast (Eq.symm (a35_0 ..)) ?_
                        | with_reducible refine cast (Eq.symm (a35_1 ..)) ?_
                        | with_reducible refine cast (Eq.symm (a35_2 ..)) ?_
                        | with_reducible refine cast (Eq.symm (a35_3 ..)) ?_
                        | with_reducible refine cast (Eq.symm (a35_4 ..)) ?_
                        | with_reducible refine cast (Eq.symm (a35_5 ..)) ?_
                        | with_reducible refine cast (Eq.symm (a35_6 ..)) ?_
                        | with_reducible refine cast (Eq.symm (a35_7 ..)) ?_
                        | with_reducible refine cast (Eq.symm (a35_8 ..)) ?_
                        | with_reducible refine cast (Eq.symm (a35_9 ..)) ?_
                        | with_reducible refine cast (Eq.symm (a35_10 ..)) ?_
                        | with_reducible refine cast (Eq.symm (a35_11 ..)) ?_
                        | with_reducible refine cast (Eq.symm (a35_12 ..)) ?_
                        | with_reducible refine res_nil (by with_unfolding_all rfl) ?_
                        | with_reducible refine res_one (by with_unfolding_all rfl) (by with_unfolding_all rfl) ?_
                        | with_reducible refine res_two (by with_unfolding_all rfl) (by with_unfolding_all rfl) (by with_unfolding_all rfl) ?_
                        | rw [lget_s]
                        | rw [lget_z]
    refine l35_1 (fun n2 t h2 => ∃ (j : Nat) (q : Int), J35_6 a m c o q k j t ∧ h2 = h' ∧ j + n2 = 8 ∧ U32 q ∧ polyB n2 q = polyB 8 (xorS r x)) ?_ (n := 8) ⟨0, xorS r x, (JI35_6 ..), rfl, by omega, u32_range _, rfl⟩
    rintro n2 t h2 ⟨j, q, hT2, rfl, hj, hq, hp⟩
    obtain ⟨z, rfl⟩ := hT2
    have hmod : q.tmod 2 = q % 2 := Int.tmod_eq_emod_of_nonneg hq.1
    have hdiv : IntKind.u32.wrap (q.tdiv 2) = q / 2 := by
      rw [Int.tdiv_eq_ediv_of_nonneg hq.1, u32_id ⟨by have := hq.1; omega, by have := hq.2; omega⟩]
    repeat' first
                        | with_reducible refine And.intro (by decide : (2 : Int) ≠ 0) ?_
                        | rw [hmod]
                        | rw [hdiv]
                        | with_reducible refine And.intro (@rfl Go.IntKind _) ?_
                        | with_reducible refine oget_gInt (gload_at (by first | assumption | exact at_new | exact at_append (by assumption) | exact at_set (by assumption) | exact at_append (at_append (by assumption)) | exact at_set (at_set (by assumption)) | exact at_set (at_append (by assumption)) | exact at_set (at_set (at_append (by assumption))) | exact at_set (at_set (at_set (by assumption))) | exact at_set_ne (by assumption) (by assumption)) (by with_unfolding_all rfl)) ?_
                        | with_reducible refine oget_gSlice (gload_at (by first | assumption | exact at_new | exact at_append (by assumption) | exact at_set (by assumption) | exact at_append (at_append (by assumption)) | exact at_set (at_set (by assumption)) | exact at_set (at_append (by assumption)) | exact at_set (at_set (at_append (by assumption))) | exact at_set (at_set (at_set (by assumption))) | exact at_set_ne (by assumption) (by assumption)) (by with_unfolding_all rfl)) ?_
                        | with_reducible refine oget_gMap (gload_at (by first | assumption | exact at_new | exact at_append (by assumption) | exact at_set (by assumption) | exact at_append (at_append (by assumption)) | exact at_set (at_set (by assumption)) | exact at_set (at_append (by assumption)) | exact at_set (at_set (at_append (by assumption))) | exact at_set (at_set (at_set (by assumption))) | exact at_set_ne (by assumption) (by assumption)) (by with_unfolding_all rfl)) ?_
                        | with_reducible refine oget_gBool (gload_at (by first | assumption | exact at_new | exact at_append (by assumption) | exact at_set (by assumption) | exact at_append (at_append (by assumption)) | exact at_set (at_set (by assumption)) | exact at_set (at_append (by assumption)) | exact at_set (at_set (at_append (by assumption))) | exact at_set (at_set (at_set (by assumption))) | exact at_set_ne (by assumption) (by assumption)) (by with_unfolding_all rfl)) ?_
                        | with_reducible refine oget_gPtr (gload_at (by first | assumption | exact at_new | exact at_append (by assumption) | exact at_set (by assumption) | exact at_append (at_append (by assumption)) | exact at_set (at_set (by assumption)) | exact at_set (at_append (by assumption)) | exact at_set (at_set (at_append (by assumption))) | exact at_set (at_set (at_set (by assumption))) | exact at_set_ne (by assumption) (by assumption)) (by with_unfolding_all rfl)) ?_
                        | with_reducible refine gCons_of ?_
                        | with_reducible refine gInt_of ?_
                        | with_reducible refine gBool_of ?_
                        | with_reducible refine gNil_of ?_
                        | with_reducible refine gTup_of ?_
                        | with_reducible refine vsplit_iff.2 ?_
                        | with_reducible refine gAgg_of ?_
                        | with_reducible refine oget_of (gstore_at1 (by first | assumption | exact at_new | exact at_append (by assumption) | exact at_set (by assumption) | exact at_append (at_append (by assumption)) | exact at_set (at_set (by assumption)) | exact at_set (at_append (by assumption)) | exact at_set (at_set (at_append (by assumption))) | exact at_set (at_set (at_set (by assumption))) | exact at_set_ne (by assumption) (by assumption)) (by decide) (by simp) (by with_unfolding_all rfl)) ?_
                        | with_reducible refine bsplit_of (fun hb => ?_) (fun hb => ?_) <;> try simp only [beq_iff_eq, beq_eq_false_iff_ne, ne_eq, bne_iff_ne, bne_eq_false_iff_eq, decide_eq_true_eq, decide_eq_false_iff_not, Int.not_lt, Int.not_le, ge_iff_le, gt_iff_lt] at hb
                        | with_reducible refine cast (Eq.symm (w35_0_0  ..)) ?_
                        | with_reducible refine cast (Eq.symm (w35_1_0  ..)) ?_
                        | with_reducible refine cast (Eq.symm (w35_2_0  ..)) ?_
                        | with_reducible refine cast (Eq.symm (w35_3_0 (h9_0 := by with_unfolding_all rfl) ..)) ?_
                        | with_reducible refine cast (Eq.symm (w35_3_1 (h9_0 := by with_unfolding_all rfl) ..)) ?_
                        | with_reducible refine cast (Eq.symm (w35_4_0  ..)) ?_
                        | with_reducible refine cast (Eq.symm (w35_5_0  ..)) ?_
                        | with_reducible refine cast (Eq.symm (w35_6_0 (h20_0 := by with_unfolding_all rfl) ..)) ?_
                        | with_reducible refine cast (Eq.symm (w35_6_1 (h20_0 := by with_unfolding_all rfl) ..)) ?_
                        | with_reducible refine cast (Eq.symm (w35_7_0 (h25_0 := by with_unfolding_all rfl) ..)) ?_
                        | with_reducible refine cast (Eq.symm (w35_7_1 (h25_0 := by with_unfolding_all rfl) ..)) ?_
                        | with_reducible refine cast (Eq.symm (w35_8_0  ..)) ?_
                        | with_reducible refine cast (Eq.symm (w35_9_0  ..)) ?_
                        | with_reducible refine cast (Eq.symm (w35_10_0  ..)) ?_
                        | with_reducible refine cast (Eq.symm (w35_11_0  ..)) ?_
                        | with_reducible refine cast (Eq.symm (w35_12_0  ..)) ?_
                        | with_reducible refine cast (Eq.symm (a35_0 ..)) ?_
                        | with_reducible refine cast (Eq.symm (a35_1 ..)) ?_
                        | with_reducible refine cast (Eq.symm (a35_2 ..)) ?_
                        | with_reducible refine cast (Eq.symm (a35_3 ..)) ?_
                        | with_reducible refine cast (Eq.symm (a35_4 ..)) ?_
                        | with_reducible refine cast (Eq.symm (a35_5 ..)) ?_
                        | with_reducible refine cast (Eq.symm (a35_6 ..)) ?_
                        | with_reducible refine cast (Eq.symm (a35_7 ..)) ?_
                        | with_reducible refine cast (Eq.symm (a35_8 ..)) ?_
                        | with_reducible refine cast (Eq.symm (a35_9 ..)) ?_
                        | with_reducible refine cast (Eq.symm (a35_10 ..)) ?_
                        | with_reducible refine cast (Eq.symm (a35_11 ..)) ?_
                        | with_reducible refine cast (Eq.symm (a35_12 ..)) ?_
                        | with_reducible refine res_nil (by with_unfolding_all rfl) ?_
                        | with_reducible refine res_one (by with_unfolding_all rfl) (by with_unfolding_all rfl) ?_
                        | with_reducible refine res_two (by with_unfolding_all rfl) (by with_unfolding_all rfl) (by with_unfolding_all rfl) ?_
                        | rw [lget_s]
                        | rw [lget_z]
    · refine ⟨n2 - 1, by omega, j + 1, bitS q, ?_, rfl, by omega, bitS_range hq, ?_⟩
      · rw [w64 (by omega)]
        have e : bitS q = xorC (q / 2) := if_pos hb
        rw [e]
        exact (JI35_6 ..)
      · rw [← hp]
        have : n2 = (n2 - 1) + 1 := by omega
        rw [this]; rfl
    · refine ⟨n2 - 1, by omega, j + 1, bitS q, ?_, rfl, by omega, bitS_range hq, ?_⟩
      · rw [w64 (by omega)]
        have e : bitS q = q / 2 := if_neg hb
        rw [e]
        exact (JI35_6 ..)
      · rw [← hp]
        have : n2 = (n2 - 1) + 1 := by omega
        rw [this]; rfl
    · have e0 : n2 = 0 := by omega
      subst e0
      refine ⟨n - 1, by omega, k + 1, q, ?_, rfl, by omega, hq, ?_⟩
      · rw [w64 (by omega)]
        exact (JI35_3 ..)
      · rw [hd] at hf
        rw [← hf]
        show _ = polyF (bs.drop (k + 1)) (polyB 8 (xorS r x))
        rw [← hp]; rfl
  · have : k = bs.length := by omega
    subst this
    rw [List.drop_length] at hf
    refine ⟨?_, rfl⟩
    have e : polyF bs 4294967295 = r := hf.symm
    unfold polyR
    rw [e]
end Go.Proofs.YtkcjbgepmkhdaaaGreatDoor
