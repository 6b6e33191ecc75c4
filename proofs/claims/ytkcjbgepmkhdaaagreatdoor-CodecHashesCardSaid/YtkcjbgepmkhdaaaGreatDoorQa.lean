/- Sum, the program's and the specification's: what they hand back; no condition. -/
import Derived.Test.YtkcjbgepmkhdaaaGreatDoorVA
set_option linter.defProp false
set_option linter.unusedSimpArgs false
set_option linter.unusedVariables false
set_option linter.unnecessarySimpa false
open Go Gh Go.Proofs
namespace Go.Proofs.YtkcjbgepmkhdaaaGreatDoor
set_option maxRecDepth 100000
/-- Bytes, as they lie in the ghost's heap. -/
structure BL (h : GHeap) (a : Option (Nat × Nat)) (m c : Nat) (bs : List Int) : Prop where
  len : bs.length = m
  le : m ≤ c
  few : m ≤ 1000000
  cells : Cells h a (bs.map (GVal.int .u8 ·))
  low : ∀ x ∈ bs, 0 ≤ x ∧ x ≤ 255
theorem drop_at {α : Type} {l : List α} {k : Nat} (hk : k < l.length) : ∃ x, l[k]? = some x ∧ l.drop k = x :: l.drop (k + 1) := by
  refine ⟨l[k], List.getElem?_eq_getElem hk, ?_⟩
  exact List.drop_eq_getElem_cons hk
noncomputable def sumS (s x : Int) : Int := (IntKind.u32.wrap (s + IntKind.u32.wrap x)).tmod 65519
noncomputable def sumT (t s : Int) : Int := (IntKind.u32.wrap (t + s)).tmod 65519
noncomputable def sumF : List Int → Int → Int → Int × Int
  | [], s, t => (s, t)
  | x :: xs, s, t => sumF xs (sumS s x) (sumT t (sumS s x))
noncomputable def sumR (l : List Int) : Int := IntKind.u32.wrap (IntKind.u32.wrap ((sumF l 7 3).2 * 65536) + (sumF l 7 3).1)
theorem sum33 {a : Option (Nat × Nat)} {m c : Nat} {o : Option Nat} {h : GHeap} {bs : List Int} (B : BL h a m c bs) :
    CallsG Tryz.prog gl1 33 [.slice a m c o] h fun r h' => r = .int .u32 (sumR bs) ∧ h' = h := by
  have hlen := B.len; have hc := B.le; have hb := B.few
  refine pt_call (c := bodyOf Tryz.f33) hD (fn := Tryz.f33) rfl rfl ?_; refine cast (Eq.symm (b33 ..)) ?_
  repeat' first
                        | with_reducible refine And.intro (@rfl Go.IntKind _) ?_
                        | with_reducible refine oget_gInt (gload_at (by first | assumption | exact at_new | exact at_append (by assumption) | exact at_set (by assumption) | exact at_append (at_append (by assumption)) | exact at_set (at_set (by assumption)) | exact at_set (at_append (by assumption)) | exact at_set (at_set (at_append (by assumption))) | exact at_set (at_set (at_set (by assumption))) | exact at_set_ne (by assumption) (by assumption)) (by with_unfolding_all rfl)) ?_
                        | with_reducible refine oget_gSlice (gload_at (by first | assumption | exact at_new | exact at_append (by assumption) | exact at_set (by assumption) | exact at_append (at_append (by assumption)) | exact at_set (at_set (by assumption)) | exact at_set (at_append (by assumption)) | exact at_set (at_set (at_append (by assumption))) | exact at_set (at_set (at_set (by assumption))) | exact at_set_ne (by assumption) (by assumption)) (by with_unfolding_all rfl)) ?_
                        | with_reducible refine oget_gMap (gload_at (by first | assumption | exact at_new | exact at_append (by assumption) | exact at_set (by assumption) | exact at_append (at_append (by assumption)) | exact at_set (at_set (by assumption)) | exact at_set (at_append (by assumption)) | exact at_set (at_set (at_append (by assumption))) | exact at_set (at_set (at_set (by assumption))) | exact at_set_ne (by assumption) (by assumption)) (by with_unfolding_all rfl)) ?_
                        | with_reducible refine oget_gBool (gload_at (by first | assumption | exact at_new | exact at_append (by assumption) | exact at_set (by assumption) | exact at_append (at_append (by assumption)) | exact at_set (at_set (by assumption)) | exact at_set (at_append (by assumption)) | exact at_set (at_set (at_append (by assumption))) | exact at_set (at_set (at_set (by assumption))) | exact at_set_ne (by assumption) (by assumption)) (by with_unfolding_all rfl)) ?_
                        | with_reducible refine oget_gPtr (gload_at (by first | assumption | exact at_new | exact at_append (by assumption) | exact at_set (by assumption) | exact at_append (at_append (by assumption)) | exact at_set (at_set (by assumption)) | exact at_set (at_append (by assumption)) | exact at_set (at_set (at_append (by assumption))) | exact at_set (at_set (at_set (by assumption))) | exact at_set_ne (by assumption) (by assumption)) (by with_unfolding_all rfl)) ?_
                        | with_reducible refine gCons_of ?_
                        | with_reducible refine gInt_of ?_
                        | with_reducible refine gBool_of ?_
                        | with_reducible refine gNil_of ?_
                        | with_reducible refine gTup_of ?_
                        | with_reducible refine vsplit_iff.2 ?_
                        | with_reducible refine gAgg_of ?_
                        | with_reducible refine oget_of (gstore_at1 (by first | assumption | exact at_new | exact at_append (by assumption) | exact at_set (by assumption) | exact at_append (at_append (by assumption)) | exact at_set (at_set (by assumption)) | exact at_set (at_append (by assumption)) | exact at_set (at_set (at_append (by assumption))) | exact at_set (at_set (at_set (by assumption))) | exact at_set_ne (by assumption) (by assumption)) (by decide) (by simp) (by with_unfolding_all rfl)) ?_
                        | with_reducible refine bsplit_of (fun hb => ?_) (fun hb => ?_) <;> try simp only [beq_iff_eq, beq_eq_false_iff_ne, ne_eq, bne_iff_ne, bne_eq_false_iff_eq, decide_eq_true_eq, decide_eq_false_iff_not, Int.not_lt, Int.not_le, ge_iff_le, gt_iff_lt] at hb
                        | with_reducible refine cast (Eq.symm (w33_0_0  ..)) ?_
                        | with_reducible refine cast (Eq.symm (w33_1_0  ..)) ?_
                        | with_reducible refine cast (Eq.symm (w33_2_0  ..)) ?_
                        | with_reducible refine cast (Eq.symm (w33_3_0 (h10_0 := by with_unfolding_all rfl) ..)) ?_
                        | with_reducible refine cast (Eq.symm (w33_3_1 (h10_0 := by with_unfolding_all rfl) ..)) ?_
                        | with_reducible refine cast (Eq.symm (w33_4_0  ..)) ?_
                        | with_reducible refine cast (Eq.symm (w33_5_0  ..)) ?_
                        | with_reducible refine cast (Eq.symm (w33_6_0  ..)) ?_
                        | with_reducible refine cast (Eq.symm (w33_7_0  ..)) ?_
                        | with_reducible refine cast (Eq.symm (w33_8_0  ..)) ?_
                        | with_reducible refine cast (Eq.symm (a33_0 ..)) ?_
                        | with_reducible refine cast (Eq.symm (a33_1 ..)) ?_
                        | with_reducible refine cast (Eq.symm (a33_2 ..)) ?_
                        | with_reducible refine cast (Eq.symm (a33_3 ..)) ?_
                        | with_reducible refine cast (Eq.symm (a33_4 ..)) ?_
                        | with_reducible refine cast (Eq.symm (a33_5 ..)) ?_
                        | with_reducible refine cast (Eq.symm (a33_6 ..)) ?_
                        | with_reducible refine cast (Eq.symm (a33_7 ..)) ?_
                        | with_reducible refine cast (Eq.symm (a33_8 ..)) ?_
                        | with_reducible refine res_nil (by with_unfolding_all rfl) ?_
                        | with_reducible refine res_one (by with_unfolding_all rfl) (by with_unfolding_all rfl) ?_
                        | with_reducible refine res_two (by with_unfolding_all rfl) (by with_unfolding_all rfl) (by with_unfolding_all rfl) ?_
                        | rw [lget_s]
                        | rw [lget_z]
  refine l33_0 (fun n t h' => ∃ (k : Nat) (s u : Int), J33_3 s u a m c o m k t ∧ h' = h ∧ k + n = m ∧ sumF (bs.drop k) s u = sumF bs 7 3) ?_ (n := m) ⟨0, 7, 3, (JI33_3 ..), rfl, by omega, rfl⟩
  rintro n t h' ⟨k, s, u, hT, rfl, hk, hf⟩
  obtain ⟨z, rfl⟩ := hT
  repeat' first
                        | with_reducible refine And.intro (@rfl Go.IntKind _) ?_
                        | with_reducible refine oget_gInt (gload_at (by first | assumption | exact at_new | exact at_append (by assumption) | exact at_set (by assumption) | exact at_append (at_append (by assumption)) | exact at_set (at_set (by assumption)) | exact at_set (at_append (by assumption)) | exact at_set (at_set (at_append (by assumption))) | exact at_set (at_set (at_set (by assumption))) | exact at_set_ne (by assumption) (by assumption)) (by with_unfolding_all rfl)) ?_
                        | with_reducible refine oget_gSlice (gload_at (by first | assumption | exact at_new | exact at_append (by assumption) | exact at_set (by assumption) | exact at_append (at_append (by assumption)) | exact at_set (at_set (by assumption)) | exact at_set (at_append (by assumption)) | exact at_set (at_set (at_append (by assumption))) | exact at_set (at_set (at_set (by assumption))) | exact at_set_ne (by assumption) (by assumption)) (by with_unfolding_all rfl)) ?_
                        | with_reducible refine oget_gMap (gload_at (by first | assumption | exact at_new | exact at_append (by assumption) | exact at_set (by assumption) | exact at_append (at_append (by assumption)) | exact at_set (at_set (by assumption)) | exact at_set (at_append (by assumption)) | exact at_set (at_set (at_append (by assumption))) | exact at_set (at_set (at_set (by assumption))) | exact at_set_ne (by assumption) (by assumption)) (by with_unfolding_all rfl)) ?_
                        | with_reducible refine oget_gBool (gload_at (by first | assumption | exact at_new | exact at_append (by assumption) | exact at_set (by assumption) | exact at_append (at_append (by assumption)) | exact at_set (at_set (by assumption)) | exact at_set (at_append (by assumption)) | exact at_set (at_set (at_append (by assumption))) | exact at_set (at_set (at_set (by assumption))) | exact at_set_ne (by assumption) (by assumption)) (by with_unfolding_all rfl)) ?_
                        | with_reducible refine oget_gPtr (gload_at (by first | assumption | exact at_new | exact at_append (by assumption) | exact at_set (by assumption) | exact at_append (at_append (by assumption)) | exact at_set (at_set (by assumption)) | exact at_set (at_append (by assumption)) | exact at_set (at_set (at_append (by assumption))) | exact at_set (at_set (at_set (by assumption))) | exact at_set_ne (by assumption) (by assumption)) (by with_unfolding_all rfl)) ?_
                        | with_reducible refine gCons_of ?_
                        | with_reducible refine gInt_of ?_
                        | with_reducible refine gBool_of ?_
                        | with_reducible refine gNil_of ?_
                        | with_reducible refine gTup_of ?_
                        | with_reducible refine vsplit_iff.2 ?_
                        | with_reducible refine gAgg_of ?_
                        | with_reducible refine oget_of (gstore_at1 (by first | assumption | exact at_new | exact at_append (by assumption) | exact at_set (by assumption) | exact at_append (at_append (by assumption)) | exact at_set (at_set (by assumption)) | exact at_set (at_append (by assumption)) | exact at_set (at_set (at_append (by assumption))) | exact at_set (at_set (at_set (by assumption))) | exact at_set_ne (by assumption) (by assumption)) (by decide) (by simp) (by with_unfolding_all rfl)) ?_
                        | with_reducible refine bsplit_of (fun hb => ?_) (fun hb => ?_) <;> try simp only [beq_iff_eq, beq_eq_false_iff_ne, ne_eq, bne_iff_ne, bne_eq_false_iff_eq, decide_eq_true_eq, decide_eq_false_iff_not, Int.not_lt, Int.not_le, ge_iff_le, gt_iff_lt] at hb
                        | with_reducible refine cast (Eq.symm (w33_0_0  ..)) ?_
                        | with_reducible refine cast (Eq.symm (w33_1_0  ..)) ?_
                        | with_reducible refine cast (Eq.symm (w33_2_0  ..)) ?_
                        | with_reducible refine cast (Eq.symm (w33_3_0 (h10_0 := by with_unfolding_all rfl) ..)) ?_
                        | with_reducible refine cast (Eq.symm (w33_3_1 (h10_0 := by with_unfolding_all rfl) ..)) ?_
                        | with_reducible refine cast (Eq.symm (w33_4_0  ..)) ?_
                        | with_reducible refine cast (Eq.symm (w33_5_0  ..)) ?_
                        | with_reducible refine cast (Eq.symm (w33_6_0  ..)) ?_
                        | with_reducible refine cast (Eq.symm (w33_7_0  ..)) ?_
                        | with_reducible refine cast (Eq.symm (w33_8_0  ..)) ?_
                        | with_reducible refine cast (Eq.symm (a33_0 ..)) ?_
                        | with_reducible refine cast (Eq.symm (a33_1 ..)) ?_
                        | with_reducible refine cast (Eq.symm (a33_2 ..)) ?_
                        | with_reducible refine cast (Eq.symm (a33_3 ..)) ?_
                        | with_reducible refine cast (Eq.symm (a33_4 ..)) ?_
                        | with_reducible refine cast (Eq.symm (a33_5 ..)) ?_
                        | with_reducible refine cast (Eq.symm (a33_6 ..)) ?_
                        | with_reducible refine cast (Eq.symm (a33_7 ..)) ?_
                        | with_reducible refine cast (Eq.symm (a33_8 ..)) ?_
                        | with_reducible refine res_nil (by with_unfolding_all rfl) ?_
                        | with_reducible refine res_one (by with_unfolding_all rfl) (by with_unfolding_all rfl) ?_
                        | with_reducible refine res_two (by with_unfolding_all rfl) (by with_unfolding_all rfl) (by with_unfolding_all rfl) ?_
                        | rw [lget_s]
                        | rw [lget_z]
  · have hkm : k < bs.length := by omega
    obtain ⟨x, hx, hd⟩ := drop_at hkm
    refine ⟨⟨by omega, by omega, hc⟩, ?_⟩
    refine B.cells.ptr (j := k) (v := .int .u8 x) (by omega) (by simp [hx]) fun id off ha hl => ?_
    refine oget_gInt hl ?_
    repeat' first
                        | refine And.intro (by decide : (65519 : Int) ≠ 0) ?_
                        | with_reducible refine And.intro (@rfl Go.IntKind _) ?_
                        | with_reducible refine oget_gInt (gload_at (by first | assumption | exact at_new | exact at_append (by assumption) | exact at_set (by assumption) | exact at_append (at_append (by assumption)) | exact at_set (at_set (by assumption)) | exact at_set (at_append (by assumption)) | exact at_set (at_set (at_append (by assumption))) | exact at_set (at_set (at_set (by assumption))) | exact at_set_ne (by assumption) (by assumption)) (by with_unfolding_all rfl)) ?_
                        | with_reducible refine oget_gSlice (gload_at (by first | assumption | exact at_new | exact at_append (by assumption) | exact at_set (by assumption) | exact at_append (at_append (by assumption)) | exact at_set (at_set (by assumption)) | exact at_set (at_append (by assumption)) | exact at_set (at_set (at_append (by assumption))) | exact at_set (at_set (at_set (by assumption))) | exact at_set_ne (by assumption) (by assumption)) (by with_unfolding_all rfl)) ?_
                        | with_reducible refine oget_gMap (gload_at (by first | assumption | exact at_new | exact at_append (by assumption) | exact at_set (by assumption) | exact at_append (at_append (by assumption)) | exact at_set (at_set (by assumption)) | exact at_set (at_append (by assumption)) | exact at_set (at_set (at_append (by assumption))) | exact at_set (at_set (at_set (by assumption))) | exact at_set_ne (by assumption) (by assumption)) (by with_unfolding_all rfl)) ?_
                        | with_reducible refine oget_gBool (gload_at (by first | assumption | exact at_new | exact at_append (by assumption) | exact at_set (by assumption) | exact at_append (at_append (by assumption)) | exact at_set (at_set (by assumption)) | exact at_set (at_append (by assumption)) | exact at_set (at_set (at_append (by assumption))) | exact at_set (at_set (at_set (by assumption))) | exact at_set_ne (by assumption) (by assumption)) (by with_unfolding_all rfl)) ?_
                        | with_reducible refine oget_gPtr (gload_at (by first | assumption | exact at_new | exact at_append (by assumption) | exact at_set (by assumption) | exact at_append (at_append (by assumption)) | exact at_set (at_set (by assumption)) | exact at_set (at_append (by assumption)) | exact at_set (at_set (at_append (by assumption))) | exact at_set (at_set (at_set (by assumption))) | exact at_set_ne (by assumption) (by assumption)) (by with_unfolding_all rfl)) ?_
                        | with_reducible refine gCons_of ?_
                        | with_reducible refine gInt_of ?_
                        | with_reducible refine gBool_of ?_
                        | with_reducible refine gNil_of ?_
                        | with_reducible refine gTup_of ?_
                        | with_reducible refine vsplit_iff.2 ?_
                        | with_reducible refine gAgg_of ?_
                        | with_reducible refine oget_of (gstore_at1 (by first | assumption | exact at_new | exact at_append (by assumption) | exact at_set (by assumption) | exact at_append (at_append (by assumption)) | exact at_set (at_set (by assumption)) | exact at_set (at_append (by assumption)) | exact at_set (at_set (at_append (by assumption))) | exact at_set (at_set (at_set (by assumption))) | exact at_set_ne (by assumption) (by assumption)) (by decide) (by simp) (by with_unfolding_all rfl)) ?_
                        | with_reducible refine bsplit_of (fun hb => ?_) (fun hb => ?_) <;> try simp only [beq_iff_eq, beq_eq_false_iff_ne, ne_eq, bne_iff_ne, bne_eq_false_iff_eq, decide_eq_true_eq, decide_eq_false_iff_not, Int.not_lt, Int.not_le, ge_iff_le, gt_iff_lt] at hb
                        | with_reducible refine cast (Eq.symm (w33_0_0  ..)) ?_
                        | with_reducible refine cast (Eq.symm (w33_1_0  ..)) ?_
                        | with_reducible refine cast (Eq.symm (w33_2_0  ..)) ?_
                        | with_reducible refine cast (Eq.symm (w33_3_0 (h10_0 := by with_unfolding_all rfl) ..)) ?_
                        | with_reducible refine cast (Eq.symm (w33_3_1 (h10_0 := by with_unfolding_all rfl) ..)) ?_
                        | with_reducible refine cast (Eq.symm (w33_4_0  ..)) ?_
                        | with_reducible refine cast (Eq.symm (w33_5_0  ..)) ?_
                        | with_reducible refine cast (Eq.symm (w33_6_0  ..)) ?_
                        | with_reducible refine cast (Eq.symm (w33_7_0  ..)) ?_
                        | with_reducible refine cast (Eq.symm (w33_8_0  ..)) ?_
                        | with_reducible refine cast (Eq.symm (a33_0 ..)) ?_
                        | with_reducible refine cast (Eq.symm (a33_1 ..)) ?_
                        | with_reducible refine cast (Eq.symm (a33_2 ..)) ?_
                        | with_reducible refine cast (Eq.symm (a33_3 ..)) ?_
                        | with_reducible refine cast (Eq.symm (a33_4 ..)) ?_
                        | with_reducible refine cast (Eq.symm (a33_5 ..)) ?_
                        | with_reducible refine cast (Eq.symm (a33_6 ..)) ?_
                        | with_reducible refine cast (Eq.symm (a33_7 ..)) ?_
                        | with_reducible refine cast (Eq.symm (a33_8 ..)) ?_
                        | with_reducible refine res_nil (by with_unfolding_all rfl) ?_
                        | with_reducible refine res_one (by with_unfolding_all rfl) (by with_unfolding_all rfl) ?_
                        | with_reducible refine res_two (by with_unfolding_all rfl) (by with_unfolding_all rfl) (by with_unfolding_all rfl) ?_
                        | rw [lget_s]
                        | rw [lget_z]
    refine ⟨n - 1, by omega, k + 1, sumS s x, sumT u (sumS s x), ?_, rfl, by omega, ?_⟩
    · rw [w64 (by omega)]
      exact (JI33_3 ..)
    · rw [hd] at hf
      exact hf
  · have : k = bs.length := by omega
    subst this
    rw [List.drop_length] at hf
    refine And.intro (by decide) ?_
    repeat' first
                        | with_reducible refine And.intro (@rfl Go.IntKind _) ?_
                        | with_reducible refine oget_gInt (gload_at (by first | assumption | exact at_new | exact at_append (by assumption) | exact at_set (by assumption) | exact at_append (at_append (by assumption)) | exact at_set (at_set (by assumption)) | exact at_set (at_append (by assumption)) | exact at_set (at_set (at_append (by assumption))) | exact at_set (at_set (at_set (by assumption))) | exact at_set_ne (by assumption) (by assumption)) (by with_unfolding_all rfl)) ?_
                        | with_reducible refine oget_gSlice (gload_at (by first | assumption | exact at_new | exact at_append (by assumption) | exact at_set (by assumption) | exact at_append (at_append (by assumption)) | exact at_set (at_set (by assumption)) | exact at_set (at_append (by assumption)) | exact at_set (at_set (at_append (by assumption))) | exact at_set (at_set (at_set (by assumption))) | exact at_set_ne (by assumption) (by assumption)) (by with_unfolding_all rfl)) ?_
                        | with_reducible refine oget_gMap (gload_at (by first | assumption | exact at_new | exact at_append (by assumption) | exact at_set (by assumption) | exact at_append (at_append (by assumption)) | exact at_set (at_set (by assumption)) | exact at_set (at_append (by assumption)) | exact at_set (at_set (at_append (by assumption))) | exact at_set (at_set (at_set (by assumption))) | exact at_set_ne (by assumption) (by assumption)) (by with_unfolding_all rfl)) ?_
                        | with_reducible refine oget_gBool (gload_at (by first | assumption | exact at_new | exact at_append (by assumption) | exact at_set (by assumption) | exact at_append (at_append (by assumption)) | exact at_set (at_set (by assumption)) | exact at_set (at_append (by assumption)) | exact at_set (at_set (at_append (by assumption))) | exact at_set (at_set (at_set (by assumption))) | exact at_set_ne (by assumption) (by assumption)) (by with_unfolding_all rfl)) ?_
                        | with_reducible refine oget_gPtr (gload_at (by first | assumption | exact at_new | exact at_append (by assumption) | exact at_set (by assumption) | exact at_append (at_append (by assumption)) | exact at_set (at_set (by assumption)) | exact at_set (at_append (by assumption)) | exact at_set (at_set (at_append (by assumption))) | exact at_set (at_set (at_set (by assumption))) | exact at_set_ne (by assumption) (by assumption)) (by with_unfolding_all rfl)) ?_
                        | with_reducible refine gCons_of ?_
                        | with_reducible refine gInt_of ?_
                        | with_reducible refine gBool_of ?_
                        | with_reducible refine gNil_of ?_
                        | with_reducible refine gTup_of ?_
                        | with_reducible refine vsplit_iff.2 ?_
                        | with_reducible refine gAgg_of ?_
                        | with_reducible refine oget_of (gstore_at1 (by first | assumption | exact at_new | exact at_append (by assumption) | exact at_set (by assumption) | exact at_append (at_append (by assumption)) | exact at_set (at_set (by assumption)) | exact at_set (at_append (by assumption)) | exact at_set (at_set (at_append (by assumption))) | exact at_set (at_set (at_set (by assumption))) | exact at_set_ne (by assumption) (by assumption)) (by decide) (by simp) (by with_unfolding_all rfl)) ?_
                        | with_reducible refine bsplit_of (fun hb => ?_) (fun hb => ?_) <;> try simp only [beq_iff_eq, beq_eq_false_iff_ne, ne_eq, bne_iff_ne, bne_eq_false_iff_eq, decide_eq_true_eq, decide_eq_false_iff_not, Int.not_lt, Int.not_le, ge_iff_le, gt_iff_lt] at hb
                        | with_reducible refine cast (Eq.symm (w33_0_0  ..)) ?_
                        | with_reducible refine cast (Eq.symm (w33_1_0  ..)) ?_
                        | with_reducible refine cast (Eq.symm (w33_2_0  ..)) ?_
                        | with_reducible refine cast (Eq.symm (w33_3_0 (h10_0 := by with_unfolding_all rfl) ..)) ?_
                        | with_reducible refine cast (Eq.symm (w33_3_1 (h10_0 := by with_unfolding_all rfl) ..)) ?_
                        | with_reducible refine cast (Eq.symm (w33_4_0  ..)) ?_
                        | with_reducible refine cast (Eq.symm (w33_5_0  ..)) ?_
                        | with_reducible refine cast (Eq.symm (w33_6_0  ..)) ?_
                        | with_reducible refine cast (Eq.symm (w33_7_0  ..)) ?_
                        | with_reducible refine cast (Eq.symm (w33_8_0  ..)) ?_
                        | with_reducible refine cast (Eq.symm (a33_0 ..)) ?_
                        | with_reducible refine cast (Eq.symm (a33_1 ..)) ?_
                        | with_reducible refine cast (Eq.symm (a33_2 ..)) ?_
                        | with_reducible refine cast (Eq.symm (a33_3 ..)) ?_
                        | with_reducible refine cast (Eq.symm (a33_4 ..)) ?_
                        | with_reducible refine cast (Eq.symm (a33_5 ..)) ?_
                        | with_reducible refine cast (Eq.symm (a33_6 ..)) ?_
                        | with_reducible refine cast (Eq.symm (a33_7 ..)) ?_
                        | with_reducible refine cast (Eq.symm (a33_8 ..)) ?_
                        | with_reducible refine res_nil (by with_unfolding_all rfl) ?_
                        | with_reducible refine res_one (by with_unfolding_all rfl) (by with_unfolding_all rfl) ?_
                        | with_reducible refine res_two (by with_unfolding_all rfl) (by with_unfolding_all rfl) (by with_unfolding_all rfl) ?_
                        | rw [lget_s]
                        | rw [lget_z]
    refine ⟨?_, rfl⟩
    have e : sumF bs 7 3 = (s, u) := hf.symm
    unfold sumR
    rw [e]
theorem sum34 {a : Option (Nat × Nat)} {m c : Nat} {o : Option Nat} {h : GHeap} {bs : List Int} (B : BL h a m c bs) :
    CallsG Tryz.prog gl1 34 [.slice a m c o] h fun r h' => r = .int .u32 (sumR bs) ∧ h' = h := by
  have hlen := B.len; have hc := B.le; have hb := B.few
  refine pt_call (c := bodyOf Tryz.f34) hD (fn := Tryz.f34) rfl rfl ?_; refine cast (Eq.symm (b34 ..)) ?_
  repeat' first
                        | with_reducible refine And.intro (@rfl Go.IntKind _) ?_
                        | with_reducible refine oget_gInt (gload_at (by first | assumption | exact at_new | exact at_append (by assumption) | exact at_set (by assumption) | exact at_append (at_append (by assumption)) | exact at_set (at_set (by assumption)) | exact at_set (at_append (by assumption)) | exact at_set (at_set (at_append (by assumption))) | exact at_set (at_set (at_set (by assumption))) | exact at_set_ne (by assumption) (by assumption)) (by with_unfolding_all rfl)) ?_
                        | with_reducible refine oget_gSlice (gload_at (by first | assumption | exact at_new | exact at_append (by assumption) | exact at_set (by assumption) | exact at_append (at_append (by assumption)) | exact at_set (at_set (by assumption)) | exact at_set (at_append (by assumption)) | exact at_set (at_set (at_append (by assumption))) | exact at_set (at_set (at_set (by assumption))) | exact at_set_ne (by assumption) (by assumption)) (by with_unfolding_all rfl)) ?_
                        | with_reducible refine oget_gMap (gload_at (by first | assumption | exact at_new | exact at_append (by assumption) | exact at_set (by assumption) | exact at_append (at_append (by assumption)) | exact at_set (at_set (by assumption)) | exact at_set (at_append (by assumption)) | exact at_set (at_set (at_append (by assumption))) | exact at_set (at_set (at_set (by assumption))) | exact at_set_ne (by assumption) (by assumption)) (by with_unfolding_all rfl)) ?_
                        | with_reducible refine oget_gBool (gload_at (by first | assumption | exact at_new | exact at_append (by assumption) | exact at_set (by assumption) | exact at_append (at_append (by assumption)) | exact at_set (at_set (by assumption)) | exact at_set (at_append (by assumption)) | exact at_set (at_set (at_append (by assumption))) | exact at_set (at_set (at_set (by assumption))) | exact at_set_ne (by assumption) (by assumption)) (by with_unfolding_all rfl)) ?_
                        | with_reducible refine oget_gPtr (gload_at (by first | assumption | exact at_new | exact at_append (by assumption) | exact at_set (by assumption) | exact at_append (at_append (by assumption)) | exact at_set (at_set (by assumption)) | exact at_set (at_append (by assumption)) | exact at_set (at_set (at_append (by assumption))) | exact at_set (at_set (at_set (by assumption))) | exact at_set_ne (by assumption) (by assumption)) (by with_unfolding_all rfl)) ?_
                        | with_reducible refine gCons_of ?_
                        | with_reducible refine gInt_of ?_
                        | with_reducible refine gBool_of ?_
                        | with_reducible refine gNil_of ?_
                        | with_reducible refine gTup_of ?_
                        | with_reducible refine vsplit_iff.2 ?_
                        | with_reducible refine gAgg_of ?_
                        | with_reducible refine oget_of (gstore_at1 (by first | assumption | exact at_new | exact at_append (by assumption) | exact at_set (by assumption) | exact at_append (at_append (by assumption)) | exact at_set (at_set (by assumption)) | exact at_set (at_append (by assumption)) | exact at_set (at_set (at_append (by assumption))) | exact at_set (at_set (at_set (by assumption))) | exact at_set_ne (by assumption) (by assumption)) (by decide) (by simp) (by with_unfolding_all rfl)) ?_
                        | with_reducible refine bsplit_of (fun hb => ?_) (fun hb => ?_) <;> try simp only [beq_iff_eq, beq_eq_false_iff_ne, ne_eq, bne_iff_ne, bne_eq_false_iff_eq, decide_eq_true_eq, decide_eq_false_iff_not, Int.not_lt, Int.not_le, ge_iff_le, gt_iff_lt] at hb
                        | with_reducible refine cast (Eq.symm (w34_0_0  ..)) ?_
                        | with_reducible refine cast (Eq.symm (w34_1_0  ..)) ?_
                        | with_reducible refine cast (Eq.symm (w34_2_0  ..)) ?_
                        | with_reducible refine cast (Eq.symm (w34_3_0 (h9_0 := by with_unfolding_all rfl) ..)) ?_
                        | with_reducible refine cast (Eq.symm (w34_3_1 (h9_0 := by with_unfolding_all rfl) ..)) ?_
                        | with_reducible refine cast (Eq.symm (w34_4_0  ..)) ?_
                        | with_reducible refine cast (Eq.symm (w34_5_0  ..)) ?_
                        | with_reducible refine cast (Eq.symm (w34_6_0  ..)) ?_
                        | with_reducible refine cast (Eq.symm (w34_7_0  ..)) ?_
                        | with_reducible refine cast (Eq.symm (a34_0 ..)) ?_
                        | with_reducible refine cast (Eq.symm (a34_1 ..)) ?_
                        | with_reducible refine cast (Eq.symm (a34_2 ..)) ?_
                        | with_reducible refine cast (Eq.symm (a34_3 ..)) ?_
                        | with_reducible refine cast (Eq.symm (a34_4 ..)) ?_
                        | with_reducible refine cast (Eq.symm (a34_5 ..)) ?_
                        | with_reducible refine cast (Eq.symm (a34_6 ..)) ?_
                        | with_reducible refine cast (Eq.symm (a34_7 ..)) ?_
                        | with_reducible refine res_nil (by with_unfolding_all rfl) ?_
                        | with_reducible refine res_one (by with_unfolding_all rfl) (by with_unfolding_all rfl) ?_
                        | with_reducible refine res_two (by with_unfolding_all rfl) (by with_unfolding_all rfl) (by with_unfolding_all rfl) ?_
                        | rw [lget_s]
                        | rw [lget_z]
  refine l34_0 (fun n t h' => ∃ (k : Nat) (s u : Int), J34_3 a m c o s u k t ∧ h' = h ∧ k + n = m ∧ sumF (bs.drop k) s u = sumF bs 7 3) ?_ (n := m) ⟨0, 7, 3, (JI34_3 ..), rfl, by omega, rfl⟩
  rintro n t h' ⟨k, s, u, hT, rfl, hk, hf⟩
  obtain ⟨z, rfl⟩ := hT
  repeat' first
                        | with_reducible refine And.intro (@rfl Go.IntKind _) ?_
                        | with_reducible refine oget_gInt (gload_at (by first | assumption | exact at_new | exact at_append (by assumption) | exact at_set (by assumption) | exact at_append (at_append (by assumption)) | exact at_set (at_set (by assumption)) | exact at_set (at_append (by assumption)) | exact at_set (at_set (at_append (by assumption))) | exact at_set (at_set (at_set (by assumption))) | exact at_set_ne (by assumption) (by assumption)) (by with_unfolding_all rfl)) ?_
                        | with_reducible refine oget_gSlice (gload_at (by first | assumption | exact at_new | exact at_append (by assumption) | exact at_set (by assumption) | exact at_append (at_append (by assumption)) | exact at_set (at_set (by assumption)) | exact at_set (at_append (by assumption)) | exact at_set (at_set (at_append (by assumption))) | exact at_set (at_set (at_set (by assumption))) | exact at_set_ne (by assumption) (by assumption)) (by with_unfolding_all rfl)) ?_
                        | with_reducible refine oget_gMap (gload_at (by first | assumption | exact at_new | exact at_append (by assumption) | exact at_set (by assumption) | exact at_append (at_append (by assumption)) | exact at_set (at_set (by assumption)) | exact at_set (at_append (by assumption)) | exact at_set (at_set (at_append (by assumption))) | exact at_set (at_set (at_set (by assumption))) | exact at_set_ne (by assumption) (by assumption)) (by with_unfolding_all rfl)) ?_
                        | with_reducible refine oget_gBool (gload_at (by first | assumption | exact at_new | exact at_append (by assumption) | exact at_set (by assumption) | exact at_append (at_append (by assumption)) | exact at_set (at_set (by assumption)) | exact at_set (at_append (by assumption)) | exact at_set (at_set (at_append (by assumption))) | exact at_set (at_set (at_set (by assumption))) | exact at_set_ne (by assumption) (by assumption)) (by with_unfolding_all rfl)) ?_
                        | with_reducible refine oget_gPtr (gload_at (by first | assumption | exact at_new | exact at_append (by assumption) | exact at_set (by assumption) | exact at_append (at_append (by assumption)) | exact at_set (at_set (by assumption)) | exact at_set (at_append (by assumption)) | exact at_set (at_set (at_append (by assumption))) | exact at_set (at_set (at_set (by assumption))) | exact at_set_ne (by assumption) (by assumption)) (by with_unfolding_all rfl)) ?_
                        | with_reducible refine gCons_of ?_
                        | with_reducible refine gInt_of ?_
                        | with_reducible refine gBool_of ?_
                        | with_reducible refine gNil_of ?_
                        | with_reducible refine gTup_of ?_
                        | with_reducible refine vsplit_iff.2 ?_
                        | with_reducible refine gAgg_of ?_
                        | with_reducible refine oget_of (gstore_at1 (by first | assumption | exact at_new | exact at_append (by assumption) | exact at_set (by assumption) | exact at_append (at_append (by assumption)) | exact at_set (at_set (by assumption)) | exact at_set (at_append (by assumption)) | exact at_set (at_set (at_append (by assumption))) | exact at_set (at_set (at_set (by assumption))) | exact at_set_ne (by assumption) (by assumption)) (by decide) (by simp) (by with_unfolding_all rfl)) ?_
                        | with_reducible refine bsplit_of (fun hb => ?_) (fun hb => ?_) <;> try simp only [beq_iff_eq, beq_eq_false_iff_ne, ne_eq, bne_iff_ne, bne_eq_false_iff_eq, decide_eq_true_eq, decide_eq_false_iff_not, Int.not_lt, Int.not_le, ge_iff_le, gt_iff_lt] at hb
                        | with_reducible refine cast (Eq.symm (w34_0_0  ..)) ?_
                        | with_reducible refine cast (Eq.symm (w34_1_0  ..)) ?_
                        | with_reducible refine cast (Eq.symm (w34_2_0  ..)) ?_
                        | with_reducible refine cast (Eq.symm (w34_3_0 (h9_0 := by with_unfolding_all rfl) ..)) ?_
                        | with_reducible refine cast (Eq.symm (w34_3_1 (h9_0 := by with_unfolding_all rfl) ..)) ?_
                        | with_reducible refine cast (Eq.symm (w34_4_0  ..)) ?_
                        | with_reducible refine cast (Eq.symm (w34_5_0  ..)) ?_
                        | with_reducible refine cast (Eq.symm (w34_6_0  ..)) ?_
                        | with_reducible refine cast (Eq.symm (w34_7_0  ..)) ?_
                        | with_reducible refine cast (Eq.symm (a34_0 ..)) ?_
                        | with_reducible refine cast (Eq.symm (a34_1 ..)) ?_
                        | with_reducible refine cast (Eq.symm (a34_2 ..)) ?_
                        | with_reducible refine cast (Eq.symm (a34_3 ..)) ?_
                        | with_reducible refine cast (Eq.symm (a34_4 ..)) ?_
                        | with_reducible refine cast (Eq.symm (a34_5 ..)) ?_
                        | with_reducible refine cast (Eq.symm (a34_6 ..)) ?_
                        | with_reducible refine cast (Eq.symm (a34_7 ..)) ?_
                        | with_reducible refine res_nil (by with_unfolding_all rfl) ?_
                        | with_reducible refine res_one (by with_unfolding_all rfl) (by with_unfolding_all rfl) ?_
                        | with_reducible refine res_two (by with_unfolding_all rfl) (by with_unfolding_all rfl) (by with_unfolding_all rfl) ?_
                        | rw [lget_s]
                        | rw [lget_z]
  · have hkm : k < bs.length := by omega
    obtain ⟨x, hx, hd⟩ := drop_at hkm
    refine ⟨⟨by omega, by omega, hc⟩, ?_⟩
    refine B.cells.ptr (j := k) (v := .int .u8 x) (by omega) (by simp [hx]) fun id off ha hl => ?_
    refine oget_gInt hl ?_
    repeat' first
                        | refine And.intro (by decide : (65519 : Int) ≠ 0) ?_
                        | with_reducible refine And.intro (@rfl Go.IntKind _) ?_
                        | with_reducible refine oget_gInt (gload_at (by first | assumption | exact at_new | exact at_append (by assumption) | exact at_set (by assumption) | exact at_append (at_append (by assumption)) | exact at_set (at_set (by assumption)) | exact at_set (at_append (by assumption)) | exact at_set (at_set (at_append (by assumption))) | exact at_set (at_set (at_set (by assumption))) | exact at_set_ne (by assumption) (by assumption)) (by with_unfolding_all rfl)) ?_
                        | with_reducible refine oget_gSlice (gload_at (by first | assumption | exact at_new | exact at_append (by assumption) | exact at_set (by assumption) | exact at_append (at_append (by assumption)) | exact at_set (at_set (by assumption)) | exact at_set (at_append (by assumption)) | exact at_set (at_set (at_append (by assumption))) | exact at_set (at_set (at_set (by assumption))) | exact at_set_ne (by assumption) (by assumption)) (by with_unfolding_all rfl)) ?_
                        | with_reducible refine oget_gMap (gload_at (by first | assumption | exact at_new | exact at_append (by assumption) | exact at_set (by assumption) | exact at_append (at_append (by assumption)) | exact at_set (at_set (by assumption)) | exact at_set (at_append (by assumption)) | exact at_set (at_set (at_append (by assumption))) | exact at_set (at_set (at_set (by assumption))) | exact at_set_ne (by assumption) (by assumption)) (by with_unfolding_all rfl)) ?_
                        | with_reducible refine oget_gBool (gload_at (by first | assumption | exact at_new | exact at_append (by assumption) | exact at_set (by assumption) | exact at_append (at_append (by assumption)) | exact at_set (at_set (by assumption)) | exact at_set (at_append (by assumption)) | exact at_set (at_set (at_append (by assumption))) | exact at_set (at_set (at_set (by assumption))) | exact at_set_ne (by assumption) (by assumption)) (by with_unfolding_all rfl)) ?_
                        | with_reducible refine oget_gPtr (gload_at (by first | assumption | exact at_new | exact at_append (by assumption) | exact at_set (by assumption) | exact at_append (at_append (by assumption)) | exact at_set (at_set (by assumption)) | exact at_set (at_append (by assumption)) | exact at_set (at_set (at_append (by assumption))) | exact at_set (at_set (at_set (by assumption))) | exact at_set_ne (by assumption) (by assumption)) (by with_unfolding_all rfl)) ?_
                        | with_reducible refine gCons_of ?_
                        | with_reducible refine gInt_of ?_
                        | with_reducible refine gBool_of ?_
                        | with_reducible refine gNil_of ?_
                        | with_reducible refine gTup_of ?_
                        | with_reducible refine vsplit_iff.2 ?_
                        | with_reducible refine gAgg_of ?_
                        | with_reducible refine oget_of (gstore_at1 (by first | assumption | exact at_new | exact at_append (by assumption) | exact at_set (by assumption) | exact at_append (at_append (by assumption)) | exact at_set (at_set (by assumption)) | exact at_set (at_append (by assumption)) | exact at_set (at_set (at_append (by assumption))) | exact at_set (at_set (at_set (by assumption))) | exact at_set_ne (by assumption) (by assumption)) (by decide) (by simp) (by with_unfolding_all rfl)) ?_
                        | with_reducible refine bsplit_of (fun hb => ?_) (fun hb => ?_) <;> try simp only [beq_iff_eq, beq_eq_false_iff_ne, ne_eq, bne_iff_ne, bne_eq_false_iff_eq, decide_eq_true_eq, decide_eq_false_iff_not, Int.not_lt, Int.not_le, ge_iff_le, gt_iff_lt] at hb
                        | with_reducible refine cast (Eq.symm (w34_0_0  ..)) ?_
                        | with_reducible refine cast (Eq.symm (w34_1_0  ..)) ?_
                        | with_reducible refine cast (Eq.symm (w34_2_0  ..)) ?_
                        | with_reducible refine cast (Eq.symm (w34_3_0 (h9_0 := by with_unfolding_all rfl) ..)) ?_
                        | with_reducible refine cast (Eq.symm (w34_3_1 (h9_0 := by with_unfolding_all rfl) ..)) ?_
                        | with_reducible refine cast (Eq.symm (w34_4_0  ..)) ?_
                        | with_reducible refine cast (Eq.symm (w34_5_0  ..)) ?_
                        | with_reducible refine cast (Eq.symm (w34_6_0  ..)) ?_
                        | with_reducible refine cast (Eq.symm (w34_7_0  ..)) ?_
                        | with_reducible refine cast (Eq.symm (a34_0 ..)) ?_
                        | with_reducible refine cast (Eq.symm (a34_1 ..)) ?_
                        | with_reducible refine cast (Eq.symm (a34_2 ..)) ?_
                        | with_reducible refine cast (Eq.symm (a34_3 ..)) ?_
                        | with_reducible refine cast (Eq.symm (a34_4 ..)) ?_
                        | with_reducible refine cast (Eq.symm (a34_5 ..)) ?_
                        | with_reducible refine cast (Eq.symm (a34_6 ..)) ?_
                        | with_reducible refine cast (Eq.symm (a34_7 ..)) ?_
                        | with_reducible refine res_nil (by with_unfolding_all rfl) ?_
                        | with_reducible refine res_one (by with_unfolding_all rfl) (by with_unfolding_all rfl) ?_
                        | with_reducible refine res_two (by with_unfolding_all rfl) (by with_unfolding_all rfl) (by with_unfolding_all rfl) ?_
                        | rw [lget_s]
                        | rw [lget_z]
    refine ⟨n - 1, by omega, k + 1, sumS s x, sumT u (sumS s x), ?_, rfl, by omega, ?_⟩
    · rw [w64 (by omega)]
      exact (JI34_3 ..)
    · rw [hd] at hf
      exact hf
  · have : k = bs.length := by omega
    subst this
    rw [List.drop_length] at hf
    repeat' first
                        | with_reducible refine And.intro (@rfl Go.IntKind _) ?_
                        | with_reducible refine oget_gInt (gload_at (by first | assumption | exact at_new | exact at_append (by assumption) | exact at_set (by assumption) | exact at_append (at_append (by assumption)) | exact at_set (at_set (by assumption)) | exact at_set (at_append (by assumption)) | exact at_set (at_set (at_append (by assumption))) | exact at_set (at_set (at_set (by assumption))) | exact at_set_ne (by assumption) (by assumption)) (by with_unfolding_all rfl)) ?_
                        | with_reducible refine oget_gSlice (gload_at (by first | assumption | exact at_new | exact at_append (by assumption) | exact at_set (by assumption) | exact at_append (at_append (by assumption)) | exact at_set (at_set (by assumption)) | exact at_set (at_append (by assumption)) | exact at_set (at_set (at_append (by assumption))) | exact at_set (at_set (at_set (by assumption))) | exact at_set_ne (by assumption) (by assumption)) (by with_unfolding_all rfl)) ?_
                        | with_reducible refine oget_gMap (gload_at (by first | assumption | exact at_new | exact at_append (by assumption) | exact at_set (by assumption) | exact at_append (at_append (by assumption)) | exact at_set (at_set (by assumption)) | exact at_set (at_append (by assumption)) | exact at_set (at_set (at_append (by assumption))) | exact at_set (at_set (at_set (by assumption))) | exact at_set_ne (by assumption) (by assumption)) (by with_unfolding_all rfl)) ?_
                        | with_reducible refine oget_gBool (gload_at (by first | assumption | exact at_new | exact at_append (by assumption) | exact at_set (by assumption) | exact at_append (at_append (by assumption)) | exact at_set (at_set (by assumption)) | exact at_set (at_append (by assumption)) | exact at_set (at_set (at_append (by assumption))) | exact at_set (at_set (at_set (by assumption))) | exact at_set_ne (by assumption) (by assumption)) (by with_unfolding_all rfl)) ?_
                        | with_reducible refine oget_gPtr (gload_at (by first | assumption | exact at_new | exact at_append (by assumption) | exact at_set (by assumption) | exact at_append (at_append (by assumption)) | exact at_set (at_set (by assumption)) | exact at_set (at_append (by assumption)) | exact at_set (at_set (at_append (by assumption))) | exact at_set (at_set (at_set (by assumption))) | exact at_set_ne (by assumption) (by assumption)) (by with_unfolding_all rfl)) ?_
                        | with_reducible refine gCons_of ?_
                        | with_reducible refine gInt_of ?_
                        | with_reducible refine gBool_of ?_
                        | with_reducible refine gNil_of ?_
                        | with_reducible refine gTup_of ?_
                        | with_reducible refine vsplit_iff.2 ?_
                        | with_reducible refine gAgg_of ?_
                        | with_reducible refine oget_of (gstore_at1 (by first | assumption | exact at_new | exact at_append (by assumption) | exact at_set (by assumption) | exact at_append (at_append (by assumption)) | exact at_set (at_set (by assumption)) | exact at_set (at_append (by assumption)) | exact at_set (at_set (at_append (by assumption))) | exact at_set (at_set (at_set (by assumption))) | exact at_set_ne (by assumption) (by assumption)) (by decide) (by simp) (by with_unfolding_all rfl)) ?_
                        | with_reducible refine bsplit_of (fun hb => ?_) (fun hb => ?_) <;> try simp only [beq_iff_eq, beq_eq_false_iff_ne, ne_eq, bne_iff_ne, bne_eq_false_iff_eq, decide_eq_true_eq, decide_eq_false_iff_not, Int.not_lt, Int.not_le, ge_iff_le, gt_iff_lt] at hb
                        | with_reducible refine cast (Eq.symm (w34_0_0  ..)) ?_
                        | with_reducible refine cast (Eq.symm (w34_1_0  ..)) ?_
                        | with_reducible refine cast (Eq.symm (w34_2_0  ..)) ?_
                        | with_reducible refine cast (Eq.symm (w34_3_0 (h9_0 := by with_unfolding_all rfl) ..)) ?_
                        | with_reducible refine cast (Eq.symm (w34_3_1 (h9_0 := by with_unfolding_all rfl) ..)) ?_
                        | with_reducible refine cast (Eq.symm (w34_4_0  ..)) ?_
                        | with_reducible refine cast (Eq.symm (w34_5_0  ..)) ?_
                        | with_reducible refine cast (Eq.symm (w34_6_0  ..)) ?_
                        | with_reducible refine cast (Eq.symm (w34_7_0  ..)) ?_
                        | with_reducible refine cast (Eq.symm (a34_0 ..)) ?_
                        | with_reducible refine cast (Eq.symm (a34_1 ..)) ?_
                        | with_reducible refine cast (Eq.symm (a34_2 ..)) ?_
                        | with_reducible refine cast (Eq.symm (a34_3 ..)) ?_
                        | with_reducible refine cast (Eq.symm (a34_4 ..)) ?_
                        | with_reducible refine cast (Eq.symm (a34_5 ..)) ?_
                        | with_reducible refine cast (Eq.symm (a34_6 ..)) ?_
                        | with_reducible refine cast (Eq.symm (a34_7 ..)) ?_
                        | with_reducible refine res_nil (by with_unfolding_all rfl) ?_
                        | with_reducible refine res_one (by with_unfolding_all rfl) (by with_unfolding_all rfl) ?_
                        | with_reducible refine res_two (by with_unfolding_all rfl) (by with_unfolding_all rfl) (by with_unfolding_all rfl) ?_
                        | rw [lget_s]
                        | rw [lget_z]
    refine ⟨?_, rfl⟩
    have e : sumF bs 7 3 = (s, u) := hf.symm
    unfold sumR
    rw [e]
end Go.Proofs.YtkcjbgepmkhdaaaGreatDoor
