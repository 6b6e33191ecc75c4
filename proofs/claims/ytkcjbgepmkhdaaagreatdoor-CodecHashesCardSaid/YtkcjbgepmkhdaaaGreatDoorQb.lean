/- Poly, the program's and the specification's: what they hand back; no condition. -/
import Derived.Test.YtkcjbgepmkhdaaaGreatDoorQa
set_option linter.defProp false
set_option linter.unusedSimpArgs false
set_option linter.unusedVariables false
set_option linter.unnecessarySimpa false
open Go Gh Go.Proofs
namespace Go.Proofs.YtkcjbgepmkhdaaaGreatDoor
set_option maxRecDepth 100000
abbrev U32 (r : Int) : Prop := 0 ≤ r ∧ r < 4294967296
theorem u32_mod (x : Int) : IntKind.u32.wrap x = x % 4294967296 := by
  simp [IntKind.wrap, IntKind.signed, IntKind.bits]
theorem u32_range (x : Int) : U32 (IntKind.u32.wrap x) := by rw [u32_mod]; exact ⟨by omega, by omega⟩
theorem u32_id {r : Int} (h : U32 r) : IntKind.u32.wrap r = r := by rw [u32_mod]; have := h.1; have := h.2; omega
theorem and1 {r : Int} (h : U32 r) : IntKind.u32.wrap (↑(BitVec.ofInt (32 : Nat) r &&& BitVec.ofInt (32 : Nat) (1 : Int)).toNat : Int) = r % 2 := by
  obtain ⟨n, rfl⟩ : ∃ n : Nat, r = n := ⟨r.toNat, by have := h.1; omega⟩
  have h2 : n < 4294967296 := by have := h.2; omega
  have e : (BitVec.ofInt (32 : Nat) (n : Int) &&& BitVec.ofInt (32 : Nat) (1 : Int)).toNat = n % 2 := by
    rw [BitVec.toNat_and]
    have e1 : (BitVec.ofInt (32 : Nat) (n : Int)).toNat = n := by
      rw [BitVec.toNat_ofInt]
      have : (2 : Nat) ^ 32 = 4294967296 := by decide
      rw [this]; omega
    have e2 : (BitVec.ofInt (32 : Nat) (1 : Int)).toNat = 1 := by decide
    rw [e1, e2, Nat.and_one_is_mod]
  rw [e, u32_mod]
  omega
noncomputable def xorS (r x : Int) : Int := IntKind.u32.wrap (↑(BitVec.ofInt (32 : Nat) r ^^^ BitVec.ofInt (32 : Nat) (IntKind.u32.wrap x)).toNat : Int)
noncomputable def xorC (r : Int) : Int := IntKind.u32.wrap (↑(BitVec.ofInt (32 : Nat) r ^^^ BitVec.ofInt (32 : Nat) (2587840967 : Int)).toNat : Int)
noncomputable def bitS (r : Int) : Int := if r % 2 = 1 then xorC (r / 2) else r / 2
theorem bitS_range {r : Int} (h : U32 r) : U32 (bitS r) := by
  unfold bitS
  split
  · exact u32_range _
  · have := h.1; have := h.2; exact ⟨by omega, by omega⟩
noncomputable def polyB : Nat → Int → Int
  | 0, r => r
  | k + 1, r => polyB k (bitS r)
theorem polyB_range : ∀ (k : Nat) {r : Int}, U32 r → U32 (polyB k r)
  | 0, _, h => h
  | k + 1, _, h => polyB_range k (bitS_range h)
noncomputable def polyF : List Int → Int → Int
  | [], r => r
  | x :: xs, r => polyF xs (polyB 8 (xorS r x))
noncomputable def polyR (bs : List Int) : Int := IntKind.u32.wrap (↑(BitVec.ofInt (32 : Nat) (4294967295 : Int) ^^^ BitVec.ofInt (32 : Nat) (polyF bs 4294967295)).toNat : Int)
set_option maxHeartbeats 1000000 in
theorem poly30 {a : Option (Nat × Nat)} {m c : Nat} {o : Option Nat} {h : GHeap} {bs : List Int} (B : BL h a m c bs) :
    CallsG Tryz.prog gl1 30 [.slice a m c o] h fun r h' => r = .int .u32 (polyR bs) ∧ h' = h := by
  have hlen := B.len; have hc := B.le; have hb := B.few
  refine pt_call (c := bodyOf Tryz.f30) hD (fn := Tryz.f30) rfl rfl ?_; refine cast (Eq.symm (b30 ..)) ?_
  repeat' first
                        | with_reducible refine And.intro (@rfl Go.IntKind _) ?_
                        | with_reducible refine oget_gInt (gload_at (by first | assumption | exact at_new | exact at_append (by assumption) | exact at_set (by assumption) | exact at_append (at_append (by assumption)) | exact at_set (at_set (by assumption)) | exact at_set (at_append (by assumption)) | exact at_set (at_set (at_append (by assumption))) | exact at_set (at_set (at_set (by assumption))) | exact at_set_ne (by assumption) (by assumption)) (by with_unfolding_all rfl)) ?_
                        | with_reducible refine oget_gSlice (gload_at (by first | assumption | exact at_new | exact at_append (by assumption) | exact at_set (by assumption) | exact at_append (at_append (by assumption)) | exact at_set (at_set (by assumption)) | exact at_set (at_append (by assumption)) | exact at_set (at_set (at_append (by assumption))) | exact at_set (at_set (at_set (by assumption))) | exact at_set_ne (by assumption) (by assumption)) (by with_unfolding_all rfl)) ?_
                        | with_reducible refine oget_gMap (gload_at (by first | assumption | exact at_new | exact at_append (by assumption) | exact at_set (by assumption) | exact at_append (at_append (by assumption)) | exact at_set (at_set (by assumption)) | exact at_set (at_append (by assumption)) | exact at_set (at_set (at_append (by assumption))) | exact at_set (at_set (at_set (by assumption))) | exact at_set_ne (by assumption) (by assumption)) (by with_unfolding_all rfl)) ?_
                        | with_reducible refine oget_gBool (gload_at (by first | assumption | exact at_new | exact at_append (by assumption) | exact at_set (by assumption) | exact at_append (at_append (by assumption)) | exact at_set (at_set (by assumption)) | exact at_set (at_append (by assumption)) | exact at_set (at_set (at_append (by assumption))) | exact at_set (at_set (at_set (by assumption))) | exact at_set_ne (by assumption) (by assumption)) (by with_unfolding_all rfl)) ?_
                        | with_reducible refine oget_gPtr (gload_at (by first | assumption | exact at_new | exact at_append (by assumption) | exact at_set (by assumption) | exact at_append (at_append (by assumption)) | exact at_set (at_set (by assumption)) | exact at_set (at_append (by assumption)) | exact at_set (at_set (at_append (by assumption))) | exact at_set (at_set (at_set (by assumption))) | exact at_set_ne (by assumption) (by assumption)) (by with_unfolding_all rfl)) ?_
                        | with_reducible refine gCons_of ?_
                        | with_reducible refine gInt_of ?_
                        | with_reducible refine gBool_of ?_
                        | with_reducible refine gNil_of ?_
                        | with_reducible refine gTup_of ?_
                        | with_reducible refine vsplit_iff.2 ?_
                        | with_reducible refine gAgg_of ?_
                        | with_reducible refine oget_of (gstore_at1 (by first | assumption | exact at_new | exact at_append (by assumption) | exact at_set (by assumption) | exact at_append (at_append (by assumption)) | exact at_set (at_set (by assumption)) | exact at_set (at_append (by assumption)) | exact at_set (at_set (at_append (by assumption))) | exact at_set (at_set (at_set (by assumption))) | exact at_set_ne (by assumption) (by assumption)) (by decide) (by simp) (by with_unfolding_all rfl)) ?_
                        | with_reducible refine bsplit_of (fun hb => ?_) (fun hb => ?_) <;> try simp only [beq_iff_eq, beq_eq_false_iff_ne, ne_eq, bne_iff_ne, bne_eq_false_iff_eq, decide_eq_true_eq, decide_eq_false_iff_not, Int.not_lt, Int.not_le, ge_iff_le, gt_iff_lt] at hb
                        | with_reducible refine cast (Eq.symm (w30_0_0  ..)) ?_
                        | with_reducible refine cast (Eq.symm (w30_1_0  ..)) ?_
                        | with_reducible refine cast (Eq.symm (w30_2_0  ..)) ?_
                        | with_reducible refine cast (Eq.symm (w30_3_0 (h10_0 := by with_unfolding_all rfl) ..)) ?_
                        | with_reducible refine cast (Eq.symm (w30_3_1 (h10_0 := by with_unfolding_all rfl) ..)) ?_
                        | with_reducible refine cast (Eq.symm (w30_4_0  ..)) ?_
                        | with_reducible refine cast (Eq.symm (w30_5_0  ..)) ?_
                        | with_reducible refine cast (Eq.symm (w30_6_0  ..)) ?_
                        | with_reducible refine cast (Eq.symm (w30_7_0 (h18_0 := by with_unfolding_all rfl) ..)) ?_
                        | with_reducible refine cast (Eq.symm (w30_7_1 (h18_0 := by with_unfolding_all rfl) ..)) ?_
                        | with_reducible refine cast (Eq.symm (w30_8_0  ..)) ?_
                        | with_reducible refine cast (Eq.symm (w30_9_0  ..)) ?_
                        | with_reducible refine cast (Eq.symm (w30_10_0 (h24_0 := by with_unfolding_all rfl) ..)) ?_
                        | with_reducible refine cast (Eq.symm (w30_10_1 (h24_0 := by with_unfolding_all rfl) ..)) ?_
                        | with_reducible refine cast (Eq.symm (w30_11_0  ..)) ?_
                        | with_reducible refine cast (Eq.symm (w30_12_0  ..)) ?_
                        | with_reducible refine cast (Eq.symm (w30_13_0  ..)) ?_
                        | with_reducible refine cast (Eq.symm (w30_14_0  ..)) ?_
                        | with_reducible refine cast (Eq.symm (a30_0 ..)) ?_
                        | with_reducible refine cast (Eq.symm (a30_1 ..)) ?_
                        | with_reducible refine cast (Eq.symm (a30_2 ..)) ?_
                        | with_reducible refine cast (Eq.symm (a30_3 ..)) ?_
                        | with_reducible refine cast (Eq.symm (a30_4 ..)) ?_
                        | with_reducible refine cast (Eq.symm (a30_5 ..)) ?_
                        | with_reducible refine cast (Eq.symm (a30_6 ..)) ?_
                        | with_reducible refine cast (Eq.symm (a30_7 ..)) ?_
                        | with_reducible refine cast (Eq.symm (a30_8 ..)) ?_
                        | with_reducible refine cast (Eq.symm (a30_9 ..)) ?_
                        | with_reducible refine cast (Eq.symm (a30_10 ..)) ?_
                        | with_reducible refine cast (Eq.symm (a30_11 ..)) ?_
                        | with_reducible refine cast (Eq.symm (a30_12 ..)) ?_
                        | with_reducible refine cast (Eq.symm (a30_13 ..)) ?_
                        | with_reducible refine cast (Eq.symm (a30_14 ..)) ?_
                        | with_reducible refine res_nil (by with_unfolding_all rfl) ?_
                        | with_reducible refine res_one (by with_unfolding_all rfl) (by with_unfolding_all rfl) ?_
                        | with_reducible refine res_two (by with_unfolding_all rfl) (by with_unfolding_all rfl) (by with_unfolding_all rfl) ?_
                        | rw [lget_s]
                        | rw [lget_z]
  refine l30_0 (fun n t h' => ∃ (k : Nat) (r : Int), J30_3 r a m c o m k t ∧ h' = h ∧ k + n = m ∧ U32 r ∧ polyF (bs.drop k) r = polyF bs 4294967295) ?_ (n := m) ⟨0, 4294967295, (JI30_3 ..), rfl, by omega, ⟨by decide, by decide⟩, rfl⟩
  rintro n t h' ⟨k, r, hT, rfl, hk, hr, hf⟩
  obtain ⟨z, rfl⟩ := hT
  repeat' first
                        | with_reducible refine And.intro (@rfl Go.IntKind _) ?_
                        | with_reducible refine oget_gInt (gload_at (by first | assumption | exact at_new | exact at_append (by assumption) | exact at_set (by assumption) | exact at_append (at_append (by assumption)) | exact at_set (at_set (by assumption)) | exact at_set (at_append (by assumption)) | exact at_set (at_set (at_append (by assumption))) | exact at_set (at_set (at_set (by assumption))) | exact at_set_ne (by assumption) (by assumption)) (by with_unfolding_all rfl)) ?_
                        | with_reducible refine oget_gSlice (gload_at (by first | assumption | exact at_new | exact at_append (by assumption) | exact at_set (by assumption) | exact at_append (at_append (by assumption)) | exact at_set (at_set (by assumption)) | exact at_set (at_append (by assumption)) | exact at_set (at_set (at_append (by assumption))) | exact at_set (at_set (at_set (by assumption))) | exact at_set_ne (by assumption) (by assumption)) (by with_unfolding_all rfl)) ?_
                        | with_reducible refine oget_gMap (gload_at (by first | assumption | exact at_new | exact at_append (by assumption) | exact at_set (by assumption) | exact at_append (at_append (by assumption)) | exact at_set (at_set (by assumption)) | exact at_set (at_append (by assumption)) | exact at_set (at_set (at_append (by assumption))) | exact at_set (at_set (at_set (by assumption))) | exact at_set_ne (by assumption) (by assumption)) (by with_unfolding_all rfl)) ?_
                        | with_reducible refine oget_gBool (gload_at (by first | assumption | exact at_new | exact at_append (by assumption) | exact at_set (by assumption) | exact at_append (at_append (by assumption)) | exact at_set (at_set (by assumption)) | exact at_set (at_append (by assumption)) | exact at_set (at_set (at_append (by assumption))) | exact at_set (at_set (at_set (by assumption))) | exact at_set_ne (by assumption) (by assumption)) (by with_unfolding_all rfl)) ?_
                        | with_reducible refine oget_gPtr (gload_at (by first | assumption | exact at_new | exact at_append (by assumption) | exact at_set (by assumption) | exact at_append (at_append (by assumption)) | exact at_set (at_set (by assumption)) | exact at_set (at_append (by assumption)) | exact at_set (at_set (at_append (by assumption))) | exact at_set (at_set (at_set (by assumption))) | exact at_set_ne (by assumption) (by assumption)) (by with_unfolding_all rfl)) ?_
                        | with_reducible refine gCons_of ?_
                        | with_reducible refine gInt_of ?_
                        | with_reducible refine gBool_of ?_
                        | with_reducible refine gNil_of ?_
                        | with_reducible refine gTup_of ?_
                        | with_reducible refine vsplit_iff.2 ?_
                        | with_reducible refine gAgg_of ?_
                        | with_reducible refine oget_of (gstore_at1 (by first | assumption | exact at_new | exact at_append (by assumption) | exact at_set (by assumption) | exact at_append (at_append (by assumption)) | exact at_set (at_set (by assumption)) | exact at_set (at_append (by assumption)) | exact at_set (at_set (at_append (by assumption))) | exact at_set (at_set (at_set (by assumption))) | exact at_set_ne (by assumption) (by assumption)) (by decide) (by simp) (by with_unfolding_all rfl)) ?_
                        | with_reducible refine bsplit_of (fun hb => ?_) (fun hb => ?_) <;> try simp only [beq_iff_eq, beq_eq_false_iff_ne, ne_eq, bne_iff_ne, bne_eq_false_iff_eq, decide_eq_true_eq, decide_eq_false_iff_not, Int.not_lt, Int.not_le, ge_iff_le, gt_iff_lt] at hb
                        | with_reducible refine cast (Eq.symm (w30_0_0  ..)) ?_
                        | with_reducible refine cast (Eq.symm (w30_1_0  ..)) ?_
                        | with_reducible refine cast (Eq.symm (w30_2_0  ..)) ?_
                        | with_reducible refine cast (Eq.symm (w30_3_0 (h10_0 := by with_unfolding_all rfl) ..)) ?_
                        | with_reducible refine cast (Eq.symm (w30_3_1 (h10_0 := by with_unfolding_all rfl) ..)) ?_
                        | with_reducible refine cast (Eq.symm (w30_4_0  ..)) ?_
                        | with_reducible refine cast (Eq.symm (w30_5_0  ..)) ?_
                        | with_reducible refine cast (Eq.symm (w30_6_0  ..)) ?_
                        | with_reducible refine cast (Eq.symm (w30_7_0 (h18_0 := by with_unfolding_all rfl) ..)) ?_
                        | with_reducible refine cast (Eq.symm (w30_7_1 (h18_0 := by with_unfolding_all rfl) ..)) ?_
                        | with_reducible refine cast (Eq.symm (w30_8_0  ..)) ?_
                        | with_reducible refine cast (Eq.symm (w30_9_0  ..)) ?_
                        | with_reducible refine cast (Eq.symm (w30_10_0 (h24_0 := by with_unfolding_all rfl) ..)) ?_
                        | with_reducible refine cast (Eq.symm (w30_10_1 (h24_0 := by with_unfolding_all rfl) ..)) ?_
                        | with_reducible refine cast (Eq.symm (w30_11_0  ..)) ?_
                        | with_reducible refine cast (Eq.symm (w30_12_0  ..)) ?_
                        | with_reducible refine cast (Eq.symm (w30_13_0  ..)) ?_
                        | with_reducible refine cast (Eq.symm (w30_14_0  ..)) ?_
                        | with_reducible refine cast (Eq.symm (a30_0 ..)) ?_
                        | with_reducible refine cast (Eq.symm (a30_1 ..)) ?_
                        | with_reducible refine cast (Eq.symm (a30_2 ..)) ?_
                        | with_reducible refine cast (Eq.symm (a30_3 ..)) ?_
                        | with_reducible refine cast (Eq.symm (a30_4 ..)) ?_
                        | with_reducible refine cast (Eq.symm (a30_5 ..)) ?_
                        | with_reducible refine cast (Eq.symm (a30_6 ..)) ?_
                        | with_reducible refine cast (Eq.symm (a30_7 ..)) ?_
                        | with_reducible refine cast (Eq.symm (a30_8 ..)) ?_
                        | with_reducible refine cast (Eq.symm (a30_9 ..)) ?_
                        | with_reducible refine cast (Eq.symm (a30_10 ..)) ?_
                        | with_reducible refine cast (Eq.symm (a30_11 ..)) ?_
                        | with_reducible refine cast (Eq.symm (a30_12 ..)) ?_
                        | with_reducible refine cast (Eq.symm (a30_13 ..)) ?_
                        | with_reducible refine cast (Eq.symm (a30_14 ..)) ?_
                        | with_reducible refine res_nil (by with_unfolding_all rfl) ?_
                        | with_reducible refine res_one (by with_unfolding_all rfl) (by with_unfolding_all rfl) ?_
                        | with_reducible refine res_two (by with_unfolding_all rfl) (by with_unfolding_all rfl) (by with_unfolding_all rfl) ?_
                        | rw [lget_s]
                        | rw [lget_z]
  · have hkm : k < bs.length := by omega
    obtain ⟨x, hx, hd⟩ := drop_at hkm
    refine ⟨⟨by omega, by omega, hc⟩, ?_⟩
    refine B.cells.ptr (j := k) (v := .int .u8 x) (by omega) (by simp [hx]) fun id off ha hl => ?_
    refine oget_gInt hl ?_
    repeat' first
                        | with_reducible refine And.intro (@rfl Go.IntKind _) ?_
                        | with_reducible refine oget_gInt (gload_at (by first | assumption | exact at_new | exact at_append (by assumption) | exact at_set (by assumption) | exact at_append (at_append (by assumption)) | exact at_set (at_set (by assumption)) | exact at_set (at_append (by assumption)) | exact at_set (at_set (at_append (by assumption))) | exact at_set (at_set (at_set (by assumption))) | exact at_set_ne (by assumption) (by assumption)) (by with_unfolding_all rfl)) ?_
                        | with_reducible refine oget_gSlice (gload_at (by first | assumption | exact at_new | exact at_append (by assumption) | exact at_set (by assumption) | exact at_append (at_append (by assumption)) | exact at_set (at_set (by assumption)) | exact at_set (at_append (by assumption)) | exact at_set (at_set (at_append (by assumption))) | exact at_set (at_set (at_set (by assumption))) | exact at_set_ne (by assumption) (by assumption)) (by with_unfolding_all rfl)) ?_
                        | with_reducible refine oget_gMap (gload_at (by first | assumption | exact at_new | exact at_append (by assumption) | exact at_set (by assumption) | exact at_append (at_append (by assumption)) | exact at_set (at_set (by assumption)) | exact at_set (at_append (by assumption)) | exact at_set (at_set (at_append (by assumption))) | exact at_set (at_set (at_set (by assumption))) | exact at_set_ne (by assumption) (by assumption)) (by with_unfolding_all rfl)) ?_
                        | with_reducible refine oget_gBool (gload_at (by first | assumption | exact at_new | exact at_append (by assumption) | exact at_set (by assumption) | exact at_append (at_append (by assumption)) | exact at_set (at_set (by assumption)) | exact at_set (at_append (by assumption)) | exact at_set (at_set (at_append (by assumption))) | exact at_set (at_set (at_set (by assumption))) | exact at_set_ne (by assumption) (by assumption)) (by with_unfolding_all rfl)) ?_
                        | with_reducible refine oget_gPtr (gload_at (by first | assumption | exact at_new | exact at_append (by assumption) | exact at_set (by assumption) | exact at_append (at_append (by assumption)) | exact at_set (at_set (by assumption)) | exact at_set (at_append (by assumption)) | exact at_set (at_set (at_append (by assumption))) | exact at_set (at_set (at_set (by assumption))) | exact at_set_ne (by assumption) (by assumption)) (by with_unfolding_all rfl)) ?_
                        | with_reducible refine gCons_of ?_
                        | with_reducible refine gInt_of ?_
                        | with_reducible refine gBool_of ?_
                        | with_reducible refine gNil_of ?_
                        | with_reducible refine gTup_of ?_
                        | with_reducible refine vsplit_iff.2 ?_
                        | with_reducible refine gAgg_of ?_
                        | with_reducible refine oget_of (gstore_at1 (by first | assumption | exact at_new | exact at_append (by assumption) | exact at_set (by assumption) | exact at_append (at_append (by assumption)) | exact at_set (at_set (by assumption)) | exact at_set (at_append (by assumption)) | exact at_set (at_set (at_append (by assumption))) | exact at_set (at_set (at_set (by assumption))) | exact at_set_ne (by assumption) (by assumption)) (by decide) (by simp) (by with_unfolding_all rfl)) ?_
                        | with_reducible refine bsplit_of (fun hb => ?_) (fun hb => ?_) <;> try simp only [beq_iff_eq, beq_eq_false_iff_ne, ne_eq, bne_iff_ne, bne_eq_false_iff_eq, decide_eq_true_eq, decide_eq_false_iff_not, Int.not_lt, Int.not_le, ge_iff_le, gt_iff_lt] at hb
                        | with_reducible refine cast (Eq.symm (w30_0_0  ..)) ?_
                        | with_reducible refine cast (Eq.symm (w30_1_0  ..)) ?_
                        | with_reducible refine cast (Eq.symm (w30_2_0  ..)) ?_
                        | with_reducible refine cast (Eq.symm (w30_3_0 (h10_0 := by with_unfolding_all rfl) ..)) ?_
                        | with_reducible refine cast (Eq.symm (w30_3_1 (h10_0 := by with_unfolding_all rfl) ..)) ?_
                        | with_reducible refine cast (Eq.symm (w30_4_0  ..)) ?_
                        | with_reducible refine cast (Eq.symm (w30_5_0  ..)) ?_
                        | with_reducible refine cast (Eq.symm (w30_6_0  ..)) ?_
                        | with_reducible refine cast (Eq.symm (w30_7_0 (h18_0 := by with_unfolding_all rfl) ..)) ?_
                        | with_reducible refine cast (Eq.symm (w30_7_1 (h18_0 := by with_unfolding_all rfl) ..)) ?_
                        | with_reducible refine cast (Eq.symm (w30_8_0  ..)) ?_
                        | with_reducible refine cast (Eq.symm (w30_9_0  ..)) ?_
                        | with_reducible refine cast (Eq.symm (w30_10_0 (h24_0 := by with_unfolding_all rfl) ..)) ?_
                        | with_reducible refine cast (Eq.symm (w30_10_1 (h24_0 := by with_unfolding_all rfl) ..)) ?_
                        | with_reducible refine cast (Eq.symm (w30_11_0  ..)) ?_
                        | with_reducible refine cast (Eq.symm (w30_12_0  ..)) ?_
                        | with_reducible refine cast (Eq.symm (w30_13_0  ..)) ?_
                        | with_reducible refine cast (Eq.symm (w30_14_0  ..)) ?_
                        | with_reducible refine cast (Eq.symm (a30_0 ..)) ?_
                        | with_reducible refine cast (Eq.symm (a30_1 ..)) ?_
                        | with_reducible refine cast (Eq.symm (a30_2 ..)) ?_
                        | with_reducible refine cast (Eq.symm (a30_3 ..)) ?_
                        | with_reducible refine cast (Eq.symm (a30_4 ..)) ?_
                        | with_reducible refine cast (Eq.symm (a30_5 ..)) ?_
                        | with_reducible refine cast (Eq.symm (a30_6 ..)) ?_
                        | with_reducible refine cast (Eq.symm (a30_7 ..)) ?_
                        | with_reducible refine cast (Eq.symm (a30_8 ..)) ?_
                        | with_reducible refine cast (Eq.symm (a30_9 ..)) ?_
                        | with_reducible refine cast (Eq.symm (a30_10 ..)) ?_
                        | with_reducible refine cast (Eq.symm (a30_11 ..)) ?_
                        | with_reducible refine cast (Eq.symm (a30_12 ..)) ?_
                        | with_reducible refine cast (Eq.symm (a30_13 ..)) ?_
                        | with_reducible refine cast (Eq.symm (a30_14 ..)) ?_
                        | with_reducible refine res_nil (by with_unfolding_all rfl) ?_
                        | with_reducible refine res_one (by with_unfolding_all rfl) (by with_unfolding_all rfl) ?_
                        | with_reducible refine res_two (by with_unfolding_all rfl) (by with_unfolding_all rfl) (by with_unfolding_all rfl) ?_
                        | rw [lget_s]
                        | rw [lget_z]
    refine l30_1 (fun n2 t h2 => ∃ (j : Nat) (q : Int), J30_7 q a m c o m k j t ∧ h2 = h' ∧ j + n2 = 8 ∧ U32 q ∧ polyB n2 q = polyB 8 (xorS r x)) ?_ (n := 8) ⟨0, xorS r x, (JI30_7 ..), rfl, by omega, u32_range _, rfl⟩
    rintro n2 t h2 ⟨j, q, hT2, rfl, hj, hq, hp⟩
    obtain ⟨z, rfl⟩ := hT2
    have hdiv : q.fdiv 2 = q / 2 := Int.fdiv_eq_ediv_of_nonneg _ (by decide)
    have hand := and1 hq
    repeat' first
                        | with_reducible refine And.intro (by decide : (0 : Int) ≤ 1) ?_
                        | rw [hand]
                        | rw [hdiv]
                        | with_reducible refine And.intro (@rfl Go.IntKind _) ?_
                        | with_reducible refine oget_gInt (gload_at (by first | assumption | exact at_new | exact at_append (by assumption) | exact at_set (by assumption) | exact at_append (at_append (by assumption)) | exact at_set (at_set (by assumption)) | exact at_set (at_append (by assumption)) | exact at_set (at_set (at_append (by assumption))) | exact at_set (at_set (at_set (by assumption))) | exact at_set_ne (by assumption) (by assumption)) (by with_unfolding_all rfl)) ?_
                        | with_reducible refine oget_gSlice (gload_at (by first | assumption | exact at_new | exact at_append (by assumption) | exact at_set (by assumption) | exact at_append (at_append (by assumption)) | exact at_set (at_set (by assumption)) | exact at_set (at_append (by assumption)) | exact at_set (at_set (at_append (by assumption))) | exact at_set (at_set (at_set (by assumption))) | exact at_set_ne (by assumption) (by assumption)) (by with_unfolding_all rfl)) ?_
                        | with_reducible refine oget_gMap (gload_at (by first | assumption | exact at_new | exact at_append (by assumption) | exact at_set (by assumption) | exact at_append (at_append (by assumption)) | exact at_set (at_set (by assumption)) | exact at_set (at_append (by assumption)) | exact at_set (at_set (at_append (by assumption))) | exact at_set (at_set (at_set (by assumption))) | exact at_set_ne (by assumption) (by assumption)) (by with_unfolding_all rfl)) ?_
                        | with_reducible refine oget_gBool (gload_at (by first | assumption | exact at_new | exact at_append (by assumption) | exact at_set (by assumption) | exact at_append (at_append (by assumption)) | exact at_set (at_set (by assumption)) | exact at_set (at_append (by assumption)) | exact at_set (at_set (at_append (by assumption))) | exact at_set (at_set (at_set (by assumption))) | exact at_set_ne (by assumption) (by assumption)) (by with_unfolding_all rfl)) ?_
                        | with_reducible refine oget_gPtr (gload_at (by first | assumption | exact at_new | exact at_append (by assumption) | exact at_set (by assumption) | exact at_append (at_append (by assumption)) | exact at_set (at_set (by assumption)) | exact at_set (at_append (by assumption)) | exact at_set (at_set (at_append (by assumption))) | exact at_set (at_set (at_set (by assumption))) | exact at_set_ne (by assumption) (by assumption)) (by with_unfolding_all rfl)) ?_
                        | with_reducible refine gCons_of ?_
                        | with_reducible refine gInt_of ?_
                        | with_reducible refine gBool_of ?_
                        | with_reducible refine gNil_of ?_
                        | with_reducible refine gTup_of ?_
                        | with_reducible refine vsplit_iff.2 ?_
                        | with_reducible refine gAgg_of ?_
                        | with_reducible refine oget_of (gstore_at1 (by first | assumption | exact at_new | exact at_append (by assumption) | exact at_set (by assumption) | exact at_append (at_append (by assumption)) | exact at_set (at_set (by assumption)) | exact at_set (at_append (by assumption)) | exact at_set (at_set (at_append (by assumption))) | exact at_set (at_set (at_set (by assumption))) | exact at_set_ne (by assumption) (by assumption)) (by decide) (by simp) (by with_unfolding_all rfl)) ?_
                        | with_reducible refine bsplit_of (fun hb => ?_) (fun hb => ?_) <;> try simp only [beq_iff_eq, beq_eq_false_iff_ne, ne_eq, bne_iff_ne, bne_eq_false_iff_eq, decide_eq_true_eq, decide_eq_false_iff_not, Int.not_lt, Int.not_le, ge_iff_le, gt_iff_lt] at hb
                        | with_reducible refine cast (Eq.symm (w30_0_0  ..)) ?_
                        | with_reducible refine cast (Eq.symm (w30_1_0  ..)) ?_
                        | with_reducible refine cast (Eq.symm (w30_2_0  ..)) ?_
                        | with_reducible refine cast (Eq.symm (w30_3_0 (h10_0 := by with_unfolding_all rfl) ..)) ?_
                        | with_reducible refine cast (Eq.symm (w30_3_1 (h10_0 := by with_unfolding_all rfl) ..)) ?_
                        | with_reducible refine cast (Eq.symm (w30_4_0  ..)) ?_
                        | with_reducible refine cast (Eq.symm (w30_5_0  ..)) ?_
                        | with_reducible refine cast (Eq.symm (w30_6_0  ..)) ?_
                        | with_reducible refine cast (Eq.symm (w30_7_0 (h18_0 := by with_unfolding_all rfl) ..)) ?_
                        | with_reducible refine cast (Eq.symm (w30_7_1 (h18_0 := by with_unfolding_all rfl) ..)) ?_
                        | with_reducible refine cast (Eq.symm (w30_8_0  ..)) ?_
                        | with_reducible refine cast (Eq.symm (w30_9_0  ..)) ?_
                        | with_reducible refine cast (Eq.symm (w30_10_0 (h24_0 := by with_unfolding_all rfl) ..)) ?_
                        | with_reducible refine cast (Eq.symm (w30_10_1 (h24_0 := by with_unfolding_all rfl) ..)) ?_
                        | with_reducible refine cast (Eq.symm (w30_11_0  ..)) ?_
                        | with_reducible refine cast (Eq.symm (w30_12_0  ..)) ?_
                        | with_reducible refine cast (Eq.symm (w30_13_0  ..)) ?_
                        | with_reducible refine cast (Eq.symm (w30_14_0  ..)) ?_
                        | with_reducible refine cast (Eq.symm (a30_0 ..)) ?_
                        | with_reducible refine cast (Eq.symm (a30_1 ..)) ?_
                        | with_reducible refine cast (Eq.symm (a30_2 ..)) ?_
                        | with_reducible refine cast (Eq.symm (a30_3 ..)) ?_
                        | with_reducible refine cast (Eq.symm (a30_4 ..)) ?_
                        | with_reducible refine cast (Eq.symm (a30_5 ..)) ?_
                        | with_reducible refine cast (Eq.symm (a30_6 ..)) ?_
                        | with_reducible refine cast (Eq.symm (a30_7 ..)) ?_
                        | with_reducible refine cast (Eq.symm (a30_8 ..)) ?_
                        | with_reducible refine cast (Eq.symm (a30_9 ..)) ?_
                        | with_reducible refine cast (Eq.symm (a30_10 ..)) ?_
                        | with_reducible refine cast (Eq.symm (a30_11 ..)) ?_
                        | with_reducible refine cast (Eq.symm (a30_12 ..)) ?_
                        | with_reducible refine cast (Eq.symm (a30_13 ..)) ?_
                        | with_reducible refine cast (Eq.symm (a30_14 ..)) ?_
                        | with_reducible refine res_nil (by with_unfolding_all rfl) ?_
                        | with_reducible refine res_one (by with_unfolding_all rfl) (by with_unfolding_all rfl) ?_
                        | with_reducible refine res_two (by with_unfolding_all rfl) (by with_unfolding_all rfl) (by with_unfolding_all rfl) ?_
                        | rw [lget_s]
                        | rw [lget_z]
    · refine ⟨n2 - 1, by omega, j + 1, bitS q, ?_, rfl, by omega, bitS_range hq, ?_⟩
      · rw [w64 (by omega)]
        have e : bitS q = xorC (q / 2) := if_pos hb
        rw [e]
        exact (JI30_7 ..)
      · rw [← hp]
        have : n2 = (n2 - 1) + 1 := by omega
        rw [this]; rfl
    · refine ⟨n2 - 1, by omega, j + 1, bitS q, ?_, rfl, by omega, bitS_range hq, ?_⟩
      · rw [w64 (by omega)]
        have e : bitS q = q / 2 := if_neg hb
        rw [e]
        exact (JI30_7 ..)
      · rw [← hp]
        have : n2 = (n2 - 1) + 1 := by omega
        rw [this]; rfl
    · have e0 : n2 = 0 := by omega
      subst e0
      refine ⟨n - 1, by omega, k + 1, q, ?_, rfl, by omega, hq, ?_⟩
      · rw [w64 (by omega)]
        exact (JI30_3 ..)
      · rw [hd] at hf
        rw [← hf]
        show _ = polyF (bs.drop (k + 1)) (polyB 8 (xorS r x))
        rw [← hp]; rfl
  · have : k = bs.length := by omega
    subst this
    rw [List.drop_length] at hf
    refine ⟨?_, rfl⟩
    have e : polyF bs 4294967295 = r := hf.symm
    unfold polyR
    rw [e]
end Go.Proofs.YtkcjbgepmkhdaaaGreatDoor
